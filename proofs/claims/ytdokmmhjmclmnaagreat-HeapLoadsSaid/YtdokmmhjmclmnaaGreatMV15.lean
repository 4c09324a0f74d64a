/-
  Part 15 of a proof: PL16 HFn51 HFn52 RH1 RH2 RH3 RH4 PL18 PL19 PL31 PN2.
-/
import Derived.DeepKeys4
import Derived.Maps.Own
import Derived.Test.YtdokmmhjmclmnaaGreatMV02
import Derived.Test.YtdokmmhjmclmnaaGreatMV05
import Derived.Test.YtdokmmhjmclmnaaGreatMV06
import Derived.Test.YtdokmmhjmclmnaaGreatMV09
import Derived.Test.YtdokmmhjmclmnaaGreatMV11
import Derived.Test.YtdokmmhjmclmnaaGreatMV14
set_option linter.unusedSimpArgs false
set_option linter.unusedVariables false
set_option linter.unusedSectionVars false
set_option linter.unnecessarySimpa false
namespace Go.Proofs.YtdokmmhjmclmnaaGreat
variable {W' w w' w0 wb:World} {B a b base c cap ce cn f g gb i j k lb m n oc s sc:Nat} {choice t x:Int} {G W fs l o xs z:List Int} {L:List Hp.Tl} {S S':Hp.Hs} {A N T:List Nat} {M:List (Nat × Int)} {op p pe pn q sp:Option Addr} {d:Hd} {acts:List Hp.Act'}
namespace Hp
def gapsOf (L:List Tl):List Int:=(freeOf L).map fun t=>(t.a:Int)
theorem gapsOf_app (P Q:List Tl):gapsOf (P ++ Q)=gapsOf P ++ gapsOf Q:=by simp [gapsOf,freeOf]
theorem okTag_or (h:okTag z t=true):(within 1 z.length t || isEnd t)=true:=h
theorem lay_len:∀ {s n:Nat} {L:List Tl},Lay s L n->s+3 * L.length<=n
 | _,_,[],h=>by have:_=_:=h;simp;omega
 | s,n,t :: r,h=>by
  have:=lay_len h.2.2;have:=h.2.1;simp only [List.length_cons];omega
theorem adsOf_lt (h:Lay s L n):∀ y ∈ adsOf L,y < n:=fun y hy=>by
 obtain ⟨t,ht,_,rfl⟩:=mem_adsOf.1 hy
 have:=h.mem ht
 omega
theorem Wf.walk_from {ch:Nat->List Nat} (h:Wf S B L ch):∀ (P D:List Tl) (m a:Nat),L=D ++ P->Lay 17 D a->Lay a P S.words.length->P.length < m ->
    S.walkFrom m a (adsOf D) (gapsOf D)=some (some (adsOf L,gapsOf L))
  | _,_,0,_,_,_,_,hm=>by omega
  | [],D,m+1,a,hL,hD,hP,hm=>by
   have e:a=S.words.length:=hP;unfold Hs.walkFrom;rw [if_pos (by omega),hL,List.append_nil]
  | t :: P,D,m+1,a,hL,hD,hP,hm=>by
   obtain ⟨e,hk,hP⟩:=hP;have ht:t ∈ L:=by rw [hL];simp
   have hle:=h.parts.lay.mem ht;have hok:=h.parts.ok t ht;have ih:=fun hDt=>Wf.walk_from h P (D ++ [t]) m (a+t.k) (by rw [hL];simp) hDt hP (by simpa using hm)
   have hDt:Lay 17 (D ++ [t]) (a+t.k):=Lay.app.2 ⟨a,hD,e,hk,rfl⟩;have ih:=ih hDt;unfold Hs.walkFrom;rw [if_neg (by omega),rd_ow (by omega)];simp only [Option.bind_eq_bind,Option.bind_some]
   cases hf:t.fr with
   | true=>
    obtain ⟨h1,h2,h3⟩:=hok.free hf;rw [e] at h1 h2;rw [if_pos h1,if_neg (by omega),rd_ow (by omega)];simp only [Option.bind_some];rw [h2,if_pos (by omega),Int.toNat_natCast];have e1:adsOf (D ++ [t])=adsOf D:=by simp [adsOf,hf]
    have e2:gapsOf (D ++ [t])=gapsOf D ++ [(a:Int)]:=by rw [gapsOf_app];simp [gapsOf,freeOf,hf,e]
    rw [e1,e2] at ih;exact ih
   | false=>
    obtain ⟨h1,h2⟩:=hok.cell hf;rw [e] at h1 h2;have hw:=wz_ok h.fr.toFr h1;have hg:=okTag_le h.fr.toFr h1;rw [if_neg (by omega),if_pos (okTag_or h1),hw.1];simp only [Option.bind_some];rw [<- h2,if_pos (by omega)];have e1:adsOf (D ++ [t])=Hs.insert a (adsOf D):=by
     rw [insert_last (fun y hy=>adsOf_lt hD y hy),adsOf_app];simp [adsOf,hf,e]
    have e2:gapsOf (D ++ [t])=gapsOf D:=by simp [gapsOf,freeOf,hf]
    rw [e1,e2] at ih;exact ih
theorem Wf.walk {ch:Nat->List Nat} (h:Wf S B L ch):S.walkFrom S.fuel 17 [] []=some (some (S.taken,gapsOf L)):=by
 rw [h.taken]
 have:=lay_len h.parts.lay
 exact h.walk_from L [] S.fuel 17 rfl rfl h.parts.lay (by unfold Hs.fuel;omega)
theorem gapsOf_len (h:Lay s L n):(gapsOf L).length<=n:=by
 have:=lay_len h
 have:(gapsOf L).length<=L.length:=by
  unfold gapsOf freeOf;rw [List.length_map];exact List.length_filter_le _ _
 omega
theorem Wf.gaps {ch:Nat->List Nat} (h:Wf S B L ch):∀ x ∈ gapsOf L,Gap S.words x:=fun x hx=>by
 obtain ⟨t,ht,rfl⟩:=List.mem_map.1 hx
 obtain ⟨h1,h2,h3,h4,h5,h6⟩:=h.parts.frees.part t ht
 exact ⟨t.a,t.k,rfl,by rw [rd_ow (by omega),h5],h2,h3⟩
theorem linked_from {W:List Int}:∀ (F:List Tl) (l:Nat),l < W.length->(∀ i t,F[i]? = some t->ow W (bef l F i)=(t.a:Int))->ow W (bef l F F.length)=0 ->
    (∀ t ∈ F,17<=t.a/\3<=t.k/\t.a+t.k<=W.length/\ow W t.a=0/\ow W (t.a+1)=t.k /\ ∀ j,t.a+3<=j->j < t.a+t.k->ow W j=0) ->
    (∀ i t u,F[i]? = some t->F[i+1]? = some u->t.a+t.k < u.a)->Hp.linkedB W (F.map fun t=>(t.a:Int)) l=true
  | [],l,hl,_,h0,_,_=>by
   have h0:ow W l=0:=h0;simp [Hp.linkedB,rd_ow hl,h0]
  | t :: r,l,hl,h1,h0,hp,hf=>by
   obtain ⟨p1,p2,p3,p4,p5,p6⟩:=hp t (by simp);have e0:ow W l=(t.a:Int):=h1 0 t rfl;have ih:=linked_from r (t.a+2) (by omega) (fun i u hu=>h1 (i+1) u hu) h0 (fun u hu=>hp u (by simp [hu])) (fun i u v hu hv=>hf (i+1) u v hu hv);have er:(Hp.rest W t.a t.k).all (fun x=>x == 0)=true:=by
    rw [List.all_eq_true];intro x hx;unfold Hp.rest at hx;obtain ⟨j,hj,rfl⟩:=List.getElem_of_mem hx;have hj':j < t.k-3/\t.a+3+j < W.length:=by
     simp only [List.length_take,List.length_drop] at hj;omega
    have:=p6 (t.a+3+j) (by omega) (by omega);simp only [ow,List.getD,List.getElem?_eq_getElem hj'.2,Option.getD_some] at this
    simpa using this
   simp only [List.map_cons,Hp.linkedB,Int.toNat_natCast,rd_ow hl,e0,rd_ow (show t.a+1 < W.length by omega),p5,Option.getD_some,er,ih,Bool.and_true,Bool.true_and,beq_self_eq_true]
   cases r with
   | nil=>rfl
   | cons u r=>
    have:=hf 0 t u rfl rfl;simp only [List.map_cons];have hne:(u.a:Int) ≠ ((t.a+t.k:Nat):Int):=by omega
    simpa using hne
theorem Wf.linked {ch:Nat->List Nat} (h:Wf S B L ch):Hp.linkedB S.words (gapsOf L) 16=true:=by
 have hf:=h.parts.frees
 exact linked_from (freeOf L) 16 (by have:=h.lo;omega) hf.link hf.last hf.part hf.far
theorem Wf.chainsOk {ch:Nat->List Nat} (h:Wf S B L ch):ChainsOk S:=fun a ha=>
 ⟨_,_,_,_,h.tag_ ha,h.fields_ ha,h.chain_ ha,rd_ow (by have:=h.part ha;omega)⟩
theorem Wf.link_from {ch:Nat->List Nat} (h:Wf S B L ch):∀ (r:List Nat) (x:Int) (m:Nat) (seen:List Nat),PathV (ow S.words) x r->r.length < m->r.Nodup->(∀ a ∈ r,a ∉ seen/\a ∈ S.taken/\cz (ow S.words a) (fz (ow S.words) S.sizes a)=c) ->
    ∃ s,S.linkFrom c m x seen=some (some s)/\s.length=seen.length+r.length /\ ∀ a,a ∈ s ↔ a ∈ seen \/ a ∈ r
  | _,_,0,_,_,hm,_,_=>by omega
  | [],x,m+1,seen,hx,_,_,_=>by
   have e:x=0:=hx;subst e;exact ⟨seen,by simp [Hs.linkFrom],by simp,by simp⟩
  | a :: r,x,m+1,seen,hx,hm,hn,hr=>by
   obtain ⟨e,h0,hx⟩:=hx;subst e;obtain ⟨q1,q2,q3⟩:=hr a (by simp);obtain ⟨n1,n2⟩:=List.nodup_cons.1 hn;have hl:=h.part q2;obtain ⟨s,i1,i2,i3⟩:=Wf.link_from h r (ow S.words (a+3)) m (Hs.insert a seen) hx (by simpa using hm) n2 fun b hb=>by
    obtain ⟨k1,k2,k3⟩:=hr b (by simp [hb]);refine ⟨fun hq=>?_,k2,k3⟩
    rcases (mem_ins a b seen).1 hq with e | hq
    . subst e;exact n1 hb
    exact k1 hq
   refine ⟨s, ?_, ?_, ?_⟩
   . unfold Hs.linkFrom;rw [if_neg (by omega)];have g1:({ S with taken:=seen }:Hs).has (a:Int)=false:=by simp [Hs.has,q1]
     have g2:S.has (a:Int)=true:=by simp [Hs.has,q2]
     rw [g1,g2];simp only [Bool.not_true,Bool.or_false,Bool.false_eq_true,if_false,Int.toNat_natCast,chainOf_some (h.tag_ q2) (h.fields_ q2) (h.chain_ q2),Option.bind_eq_bind,Option.bind_some];rw [if_neg (by omega),rd_ow (by omega)];exact i1
   . rw [i2,insert_length q1];simp only [List.length_cons];omega
   intro b;rw [i3,mem_ins];simp only [List.mem_cons];exact ⟨fun h=>h.elim (fun h=>h.elim (fun h=>.inr (.inl h)) .inl) (fun h=>.inr (.inr h)),fun h=>h.elim (fun h=>.inl (.inr h)) (fun h=>h.elim (fun h=>.inl (.inl h)) .inr)⟩
theorem Wf.heads_from {ch:Nat->List Nat} (h:Wf S B L ch):∀ (n c:Nat) (seen:List Nat),c+n=16->seen.length=(allCh ch c).length->(∀ a,a ∈ seen ↔ a ∈ allCh ch c) ->
    ∃ s,S.headsFrom n c seen=some (some s)/\s.length=(allCh ch 16).length
  | 0,c,seen,hc,hl,_=>by
   have e:c=16:=by omega
   subst e;exact ⟨seen,rfl,hl⟩
  | n+1,c,seen,hc,hl,hm=>by
   have hlo:=h.lo;have hp:=(h.chains.path c (by omega)).v;have hnd:=allCh_nodup h.chains (k:=c+1) (by omega);unfold allCh at hnd;obtain ⟨d1,d2,d3⟩:=List.nodup_append.1 hnd;have hsub:∀ a ∈ ch c,a ∈ S.taken:=fun a ha=>((h.chains.mem c (by omega) a).1 ha).1
   have hln:=nodup_len d2 hsub;obtain ⟨s,i1,i2,i3⟩:=h.link_from (c:=c) (ch c) (ow S.words c) (S.taken.length+1) seen hp (by omega) d2 fun a ha=>
    ⟨fun hs=>d3 a ((hm a).1 hs) a ha rfl,hsub a ha,((h.chains.mem c (by omega) a).1 ha).2⟩
   obtain ⟨s',j1,j2⟩:=Wf.heads_from h n (c+1) s (by omega) (by rw [i2,hl];simp [allCh]) (fun a=>by rw [i3,hm];simp [allCh]);refine ⟨s', ?_,j2⟩;unfold Hs.headsFrom;rw [rd_ow (by omega)];simp only [Option.bind_eq_bind,Option.bind_some,i1];exact j1
theorem Wf.nodup {ch:Nat->List Nat} (h:Wf S B L ch):S.taken.Nodup:=h.up.imp fun h=>by omega
theorem Wf.chained {ch:Nat->List Nat} (h:Wf S B L ch):S.chainedB=some true:=by
 obtain ⟨s,h1,h2⟩:=h.heads_from 16 0 [] rfl rfl (by simp [allCh])
 unfold Hs.chainedB
 rw [h1]
 simp only [Option.bind_eq_bind,Option.bind_some]
 rw [h2,allCh_all h.chains h.nodup]
 simp
end Hp
open Go.RowKit Go.Maps Go.Sort Go.Shelf
theorem wpList_next_left {P:Program} (w:World) {ops:Array Oper} {rest:List Oper} {o:Oper} {a:Act} {Q:Exit->Act->World->Prop} (hg:o.guard=none) (it:Operand) (hop:o.op=Op.next it false)
    (hk:P.underlying 3=some (.int .i64)) (he:P.underlying 4=some .bool) (b r n:Nat) (T:List Nat) (left:Lit->Bool) (cnt:Nat) (hit:a.eval it = .pointer (some ⟨r,0,none⟩))
    (h:w.ranges P 3 (plainElem (H:=Unit) P 4) b r n (mapOf T) left cnt)
    (hDone:(∀ kl,left kl=false)->wpList P ops Q rest (a.put o.dst (.tuple #[.bool false])) w)
    (hMore:∀ (x:Nat) (c:Value) (w':World) (cnt':Nat),x ∈ T->left (.int .i64 x)=true->w'.ranges P 3 (plainElem (H:=Unit) P 4) b r n (mapOf T) (fun z=>left z && !z.sameKey (.int .i64 x)) cnt'->cnt' < cnt ->
     But [r] w w'->(Instr.entry (.pointer (some ⟨r,0,none⟩))).run P w' = .ok (.tuple #[.int .i64 x,c]) w'->wpList P ops Q rest (a.put o.dst (.tuple #[.bool true,.int .i64 x,c])) w') :
    wpList P ops Q (o :: rest) a w:=by
  refine wpList_next_ranges w hg it hop 3 (int_keyed hk) (plainElem (H:=Unit) P 4) (Value.int .i64) Value.bool (fun key kl hkey=>by obtain ⟨x,rfl,_⟩:=Maps.keyOf_int_inv hk hkey;exact ⟨x,rfl⟩)
   (fun v y hv=>by
    unfold plainElem at hv;rw [he] at hv
    cases v <;> simp at hv
    exact ⟨_,rfl⟩) b r n _ left cnt hit h (fun _ hl=>hDone hl) ?_
  intro x c kl y w' cnt' hkey hl hv hat hrg hlt hgr _ hen;obtain ⟨x',ex,rfl,_⟩:=Maps.keyOf_int_inv hk hkey
  cases ex
  have hy:y=(.lit (.bool c),[]):=by
   unfold plainElem at hv;rw [he] at hv
   simpa using hv.symm
  subst hy;have hin:hasLit T (.int .i64 x)=true:=by
   cases hh:hasLit T (.int .i64 x) with
   | true=>rfl
   | false=>
    have:=hat (.map []);rw [at_mapOf_false hh] at this
    cases this
  obtain ⟨m,hm,e⟩:=(hasLit_iff T _).1 hin
  cases e
  exact hMore m (.bool c) w' cnt' hm hl hrg hlt (but_grown hgr) hen
structure SeenInv (T D:List Nat) (left:Lit->Bool):Prop where
 nd:D.Nodup
 sub:∀ x ∈ D,x ∈ T
 all:∀ x ∈ T,left (.int .i64 (x:Int))=false->x ∈ D
 out:∀ x ∈ D,left (.int .i64 (x:Int))=false
theorem SeenInv.nil (T:List Nat):SeenInv T [] (Maps.has (mapOf T)) where
 nd:=List.Pairwise.nil
 sub:=by simp
 all x hx h:=by
  rw [has_mapOf,hasLit_int] at h;have:T.contains x=true:=by simpa using hx
  rw [this] at h
  cases h
 out:=by simp
theorem SeenInv.step {D:List Nat} {left:Lit->Bool} {x:Nat} (h:SeenInv T D left) (hx:x ∈ T) (hl:left (.int .i64 (x:Int))=true):SeenInv T (D ++ [x]) (fun z=>left z && !z.sameKey (.int .i64 x)):=by
 have hn:x ∉ D:=fun hm=>by
  have:=h.out x hm;rw [hl] at this
  cases this
 refine ⟨List.nodup_append.2 ⟨h.nd,by simp,fun a ha b hb e=>?_⟩,fun y hy=>?_,fun y hy hh=>?_,fun y hy=>?_⟩
 . have:b=x:=by simpa using hb
   subst this e;exact hn ha
 . rcases List.mem_append.1 hy with hy | hy
   . exact h.sub y hy
   have:y=x:=by simpa using hy
   subst this;exact hx
 . rcases left_false hh with h1 | rfl
   . simp [h.all y hy h1]
   simp
 rcases List.mem_append.1 hy with hy | hy
 . show (left (.int .i64 (y:Int)) && _)=false;rw [h.out y hy];rfl
 have:y=x:=by simpa using hy
 subst this
 show (left (.int .i64 (y:Int)) && !(Lit.int .i64 (y:Int)).sameKey (.int .i64 y))=false
 simp [Lit.sameKey]
theorem SeenInv.perm {D:List Nat} {left:Lit->Bool} (h:SeenInv T D left) (hT:T.Nodup) (hl:∀ kl,left kl=false):D.Perm T:=by
 rw [List.perm_ext_iff_of_nodup h.nd hT]
 exact fun x=>⟨h.sub x,fun hx=>h.all x hx (hl _)⟩
theorem Hp.Wf.cnt_le' {ch:Nat->List Nat} (h:Hp.Wf S B L ch) (a:Nat):Hp.cnt (Hp.ow S.words) S.sizes a S.taken<=100000:=by
 have h1:=Hp.cnt_le (f:=Hp.ow S.words) (z:=S.sizes) a S.taken
 have h3:=h.widths_
 have h4:=h.hi
 omega
theorem cnt_sub {f:Nat->Int} {z:List Int} {a:Nat}:∀ {D T:List Nat},D.Nodup->(∀ x ∈ D,x ∈ T)->Hp.cnt f z a D<=Hp.cnt f z a T
 | [],_,_,_=>Nat.zero_le _
 | b :: D,T,hd,hs=>by
  obtain ⟨d1,d2⟩:=List.nodup_cons.1 hd;have hb:=hs b (by simp);have h1:=cnt_sub (f:=f) (z:=z) (a:=a) (D:=D) (T:=T.erase b) d2 fun x hx=>(List.mem_erase_of_ne (by rintro rfl;exact d1 hx)).2 (hs x (by simp [hx]))
  have h2:=Hp.cnt_perm (f:=f) (z:=z) (a:=a) (List.perm_cons_erase hb);rw [h2];show (Hp.kz f z b).count (a:Int)+Hp.cnt f z a D<=(Hp.kz f z b).count (a:Int)+Hp.cnt f z a (T.erase b);omega
def CollPost (w W:World) (T:List Nat) (e:Ending) (w':World):Prop:=∃ p c ss,e = .returned (.slice p ss.length c)/\ss.Perm (natInts T)/\SliceAt w' p c ss/\Ext W w'
theorem collectB_call (h:MapAt Tryz.prog w g T) (hT:∀ x ∈ T,x < 1000000) :
    Calls Tryz.prog 129 #[.func (.func 171) #[] #[.pointer (some ⟨w.heap.size,0,none⟩)]] (w.alloc (.cells #[.map (some g)] 102)) (CollPost w (w.alloc (.cells #[.map (some g)] 102)) T):=by
  have hbl:=h.lt;have hlen:=sorted_len h.sorted hT;have hown:=h.owns
  have hseq:SeqGives Fence.wide 3 Tryz.prog 171 #[.pointer (some ⟨w.heap.size,0,none⟩)] encZ (fun ss=>ss.Perm (intKeys (mapOf T))) (Maps.size (mapOf T)) (w.alloc (.cells #[.map (some g)] 102)):=
   AnyZI.keys_gives (ρ:=Tryz.keysB_ren) { Tryz.keysB with } Fence.wide _ trivial rfl (by omega) w.heap.size g T.length (mapOf T) _ (by simp) (by simp) (hown.alloc _)
  have cS:=AnyZI.collect_in (ρ:=Tryz.sortedA_ren) { Tryz.sortedA with } Fence.wide 5 trivial trivial rfl (by omega) 171 #[.pointer (some ⟨w.heap.size,0,none⟩)] trivial (enters_of Tryz.func171 (by kernel_rfl) rfl) _ _ (by rw [size_mapOf];unfold maxLen;omega) (by rw [size_mapOf];omega) _ hseq;refine (callsIn_wide.1 cS).mono ?_;rintro e w' ⟨v,ss,rfl,hS,hrow,hnil,hb⟩;rw [intKeys_mapOf] at hS;have hl:ss.length=T.length:=by rw [hS.length_eq,natInts_length]
  have hbd:∀ x ∈ ss,-9223372036854775808<=x/\x<=9223372036854775807:=by
   intro x hx;obtain ⟨y,hy,rfl⟩:=List.mem_map.1 (hS.mem_iff.1 hx);have:=hT y hy;omega
  rcases hrow.2 with ⟨rfl,hz⟩ | ⟨gb,cap,cur,rfl,hbase,hgb,r1,r2,r3,r4⟩
  . have:ss=[]:=List.eq_nil_of_length_eq_zero hz;subst this;exact ⟨none,0,[],rfl,hS,⟨by simp,by omega,by simp,fun h=>by simp at h⟩,hb⟩
  refine ⟨some ⟨gb,0,none⟩,cap,ss,rfl,hS,⟨by omega,by unfold maxLen at *;omega,hbd,fun h0=>⟨gb,0,rfl,(Array.getElem?_eq_some_iff.1 hgb).1,fun j x hj=>?_⟩⟩,hb⟩;have hj2:(ss.map encZ)[j]? = some (.int .i64 x):=by
   unfold Hp.rd at hj;simp [hj,encZ]
  have:=hrow.cells (g:=gb) rfl j _ hj2;rw [Addr.add_lit] at this
  simpa using this
def CountsAre (S:Hp.Hs) (D:List Nat) (part:List Int) (M:List (Nat × Int)):Prop:=∀ y:Nat,(getI y M).getD 0=((Hp.cnt (Hp.ow S.words) S.sizes y D+part.count (y:Int):Nat):Int)
theorem CountsAre.put {D:List Nat} {part:List Int} (h:CountsAre S D part M) (hu:KeysUp M):CountsAre S D (part ++ [(b:Int)]) (putI b ((getI b M).getD 0+1) M):=fun y=>by
 rw [getI_put hu,List.count_append]
 by_cases e:y=b
 . subst e;rw [if_pos rfl,Option.getD_some,h y];simp;omega
 rw [if_neg e,h y]
 have:List.count (y:Int) [(b:Int)]=0:=by
  rw [List.count_eq_zero];simp;omega
 rw [this]
 rfl
theorem keys_len (h:KeysUp M) (hb:∀ q ∈ M,q.1 < n):M.length<=n:=by
 have h1:(M.map fun q=>q.1).Pairwise (· < ·):=by
  rw [List.pairwise_map];exact h
 have:=sorted_len (n:=n) h1 (fun a ha=>by
  obtain ⟨q,hq,rfl⟩:=List.mem_map.1 ha;exact hb q hq)
 simpa using this
set_option maxRecDepth 100000 in
set_option maxHeartbeats 8000000 in
theorem areUsed_any {v:Value} {ch:Nat->List Nat} (h:LdAt w0 w lb d S v p k G) (hw:Hp.Wf S B L ch) :
    Calls Tryz.prog 64 #[.pointer (some ⟨lb,0,none⟩)] w fun e w'=>e = .returned (.bool true)/\Ext w w':=by
  have H:=hZ h;have HW:=hZ hw;have hhi:=hw.hi;have z1:=h.toHAt.own_lt;have zl:=h.lt1;clear h hw;have hmm:=@run_makeMap Tryz.prog;go_enter Tryz.func64,Tryz.ntmps64;go_upto_region 2 with (fail)
  have E0:Ext w (((w.alloc (.cells #[.pointer (some ⟨lb,0,none⟩)] 107)).alloc (.map #[] 0)).alloc (.cells #[.map (some (w.heap.size+1))] 119)):=exx;have x1:(((w.alloc (.cells #[.pointer (some ⟨lb,0,none⟩)] 107)).alloc (.map #[] 0)).alloc (.cells #[.map (some (w.heap.size+1))] 119)).cell? ⟨w.heap.size,0,none⟩=some (.pointer (some ⟨lb,0,none⟩)):=by go_simp
  have x3:(((w.alloc (.cells #[.pointer (some ⟨lb,0,none⟩)] 107)).alloc (.map #[] 0)).alloc (.cells #[.map (some (w.heap.size+1))] 119)).cell? ⟨w.heap.size+1+1,0,none⟩=some (.map (some (w.heap.size+1))):=by go_simp
  have sz:(((w.alloc (.cells #[.pointer (some ⟨lb,0,none⟩)] 107)).alloc (.map #[] 0)).alloc (.cells #[.map (some (w.heap.size+1))] 119)).heap.size=w.heap.size+3:=by simp
  have MI0:MapIAt Tryz.prog (((w.alloc (.cells #[.pointer (some ⟨lb,0,none⟩)] 107)).alloc (.map #[] 0)).alloc (.cells #[.map (some (w.heap.size+1))] 119)) (w.heap.size+1) []:=by
   have:=(MapIAt.made (P:=Tryz.prog) (w.alloc (.cells #[.pointer (some ⟨lb,0,none⟩)] 107))).ext (Ext.alloc (Ext.refl _) (.cells #[.map (some (w.heap.size+1))] 119))
   simpa using this
  generalize ((w.alloc (.cells #[.pointer (some ⟨lb,0,none⟩)] 107)).alloc (.map #[] 0)).alloc (.cells #[.map (some (w.heap.size+1))] 119)=wc at *;have N0:=hZ (H.out.ext E0);have h0:=N0.out.h0;have c3:=N0.out.c3;have ownd:=N0.out.map.owns
  go_wp2_with (at_range;refine wpList_range_own _ rfl _ 102 rfl 3 4 (int_keyed Tryz.underlying3) Tryz.underlying102 _ d.gm _ _ rfl ownd ?_;intro w1 hrg0 hg0 hs0;go_frame)
  have E1:Ext wc w1:=⟨hg0.os,hg0.tape,hg0.output,hg0.size,fun k hk=>hg0.block k hk (by simp)⟩
  have E01:=hZ (E0.trans E1);have MI1:=hZ (MI0.ext E1);have RG:=hZ hrg0;have y1:=(E1.cell (b:=w.heap.size) (by omega) 0).trans x1;have y3:=(E1.cell (b:=w.heap.size+1+1) (by omega) 0).trans x3;have Y:=hZ (And.intro y1 y3);have sz1:wc.heap.size < w1.heap.size:=by omega
  rw [sz] at sz1 RG ⊢;clear hrg0 ownd c3 h0 hg0 hs0 E1 E0 MI0 x1 x3 y1 y3 N0 sz;generalize hrr:w.heap.size+3=rr at RG sz1 ⊢
  go_loopg [4] (Maps.size (mapOf S.taken)) (fun g _ wr=>∃ (left:Lit->Bool) (cnt:Nat) (D:List Nat) (M:List (Nat × Int)),cnt<=g/\Hid (wr.ranges Tryz.prog 3 (plainElem (H:=Unit) Tryz.prog 4) d.gm rr S.taken.length (mapOf S.taken) left cnt)/\Hid (MapIAt Tryz.prog wr (w.heap.size+1) M)/\Hid (Ext w wr)/\Hid (wr.cell? ⟨w.heap.size,0,none⟩=some (.pointer (some ⟨lb,0,none⟩))/\wr.cell? ⟨w.heap.size+1+1,0,none⟩=some (.map (some (w.heap.size+1))))/\Hid (CountsAre S D [] M)/\Hid (∀ q ∈ M,q.1 < S.words.length)/\Aside (SeenInv S.taken D left))
  case atStart=>exact ⟨_,_,[],[],Nat.le_refl _,RG,MI1,E01,Y,hZ (fun y=>by simp [getI,Hp.cnt]),hZ (by simp),SeenInv.nil _⟩
  case round=>
   obtain ⟨left,cnt,D,M,hg,RR,MM,EE,YY,CA,KB,SI⟩:=hrel;clear RG MI1 E01 Y
   go_wp2_with (at_next;refine wpList_next_left _ rfl _ rfl Tryz.underlying3 Tryz.underlying4 d.gm rr _ S.taken left cnt rfl RR.out ?_ ?_)
   . intro hl;have hperm:=SI.out.perm (Hp.up_nodup HW.out.up) hl;have hca:∀ y:Nat,(getI y M).getD 0=((Hp.cnt (Hp.ow S.words) S.sizes y S.taken:Nat):Int):=fun y=>by
      rw [CA.out y,Hp.cnt_perm hperm];simp
     have N:=hZ (H.out.ext EE.out);have h0:=N.out.h0;have c3:=N.out.c3;obtain ⟨y1,y3⟩:=YY.out;have KEYS:=hZ (fun W=>keysB_call d.gm W);have hlt6:∀ x ∈ S.taken,x < 1000000:=fun x hx=>by have:=HW.out.part hx;omega
     have COLL:=hZ (collectB_call N.out.map hlt6);have HCA:=hZ hca;clear hca hperm hlt6
     go_wp2_with (first
      | (go_at_call 130;refine (KEYS.out _).mono ?_;rintro e w5 ⟨rfl,rfl⟩)
      | (go_at_call 129;refine COLL.out.mono ?_;rintro e w6 ⟨p6,c6,ss,rfl,hP6,hS6,hE6⟩))
     have EX6:Ext wr w6:=Ext.trans (exx) hE6;have N6:=hZ (N.out.ext EX6);have SAYS:SaysAll w6 131 #[] #[.pointer (some ⟨w.heap.size,0,none⟩),.pointer (some ⟨w.heap.size+1+1,0,none⟩)] ss (fun _=>true):=fun j x hx _ W hW=>by
      obtain ⟨a,ha,rfl⟩:=List.mem_map.1 (hP6.mem_iff.1 (List.mem_of_getElem? hx));have pa:=HW.out.part ha;have zz1:=cell_lt y1;have zz3:=cell_lt y3;have EXW:=EX6.trans hW;have hc:=areUsed1_any (a:=a) (N6.out.ext hW) ((EXW.cell zz1 0).trans y1) ((EXW.cell zz3 0).trans y3) (MM.out.ext EXW) (by omega);have hu:=HW.out.uses a ha;have hh:=HW.out.holds a ha;have e1:Hp.usedB S.words M (a:Int)=true:=by
       unfold Hp.usedB;rw [Int.toNat_natCast,Hp.rd_ow (by omega),Hp.rd_ow (by omega)];simp only [Bool.and_eq_true,beq_iff_eq,decide_eq_true_eq];rw [HCA.out a,hu];exact ⟨rfl,hh.1⟩
      rw [e1] at hc
      simpa using hc
     have EV:=hZ (every_any (b:=true) (enters_of Tryz.func131 (by kernel_rfl) rfl) hS6 SAYS (by simp));have EEX:=hZ (EE.out.trans EX6);clear SAYS hS6 hP6 EX6;refine EV.out.mono ?_;rintro e w7 ⟨rfl,hE7⟩
     go_wp2_with fail
     go_returns;exact ⟨rfl,EEX.out.trans hE7⟩
   intro x c w' cnt' hx hlx hrg' hlt hbut hen;have hbx:But [rr] wr w':=hbut;have E2:=hZ (But.toExt EE.out hbut (by simp;omega));have N:=hZ (H.out.ext E2.out);have h0:=N.out.h0;obtain ⟨y1,y3⟩:=YY.out;have y1':=(hbut.cell (cell_lt y1) (by simp;omega) 0).trans y1;have y3':=(hbut.cell (cell_lt y3) (by simp;omega) 0).trans y3;have M2:=hZ (MM.out.but hbut (by simp;omega));have Y2:=hZ (And.intro y1' y3');have RN:=hZ hrg';have px:=HW.out.part hx;have S2:=SI.out.step hx hlx;have S2H:=hZ S2;obtain ⟨ks,hks⟩:∃ ks,Hp.kz (Hp.ow S.words) S.sizes x=ks:=⟨_,rfl⟩
   obtain ⟨t,ht⟩:∃ t,Hp.ow S.words x=t:=⟨_,rfl⟩
   have ktag:=HW.out.tag_ hx;rw [ht] at ktag;have kkids:=HW.out.kids_ hx;rw [hks] at kkids;have KIDS:=hZ (fun W (hW:Ext w W)=>kids_any (H.out.ext hW).toHAt ktag kkids);have KAT:=hZ (fun W (hW:Ext w W)=>kids_at (H.out.ext hW).toHAt ktag kkids);have kl:=Hp.kz_len (f:=Hp.ow S.words) (z:=S.sizes) (a:=x);rw [hks] at kl;have kl12:ks.length<=12:=by omega
   have KN:∀ j y,Hp.rd ks j=some y -> ∃ b:Nat,y=b/\b ∈ S.taken:=fun j y hy=>by
    rw [<- hks] at hy;obtain ⟨b,hb,e,_⟩:=HW.out.cells.kids x hx y (List.mem_of_getElem? hy);exact ⟨b,e,hb⟩
   have KNH:=hZ KN;have HKS:=hZ hks;obtain ⟨pk,hpk⟩:∃ pk,kp d x t=pk:=⟨_,rfl⟩
   rw [hpk] at KIDS KAT;clear hrg' hbut hx hlx S2 px ktag kkids hks ht kl KN y1 y3 YY EE RR MM SI hpk hmm;have CB:Hid (∀ y,Hp.cnt (Hp.ow S.words) S.sizes y D<=100000):=hZ (fun y=>by
    have h1:=cnt_sub (f:=Hp.ow S.words) (z:=S.sizes) (a:=y) (D:=D) (T:=S.taken) (by
     have:=S2H.out.nd;exact (List.nodup_append.1 this).1) (fun q hq=>S2H.out.sub q (by simp [hq]))
    have h2:=HW.out.cnt_le' y;omega)
   go_wp2_with (go_at_call 80;refine (KIDS.out _ E2.out).mono ?_;rintro e w5 ⟨rfl,hE5⟩)
   have RN5:=hZ (ranges_of RN.out (hE5.block _ (by have:=RN.out.lt;have:=N.out.map.lt;omega)) (hE5.block _ RN.out.lt));have M5:=hZ (M2.out.ext hE5);have E5:=hZ (E2.out.trans hE5);have Y5:=hZ (And.intro ((hE5.cell (cell_lt Y2.out.1) 0).trans Y2.out.1) ((hE5.cell (cell_lt Y2.out.2) 0).trans Y2.out.2))
   go_loopg [27] ks.length (fun g i wx=>∃ (j:Nat) (M':List (Nat × Int)),j<=ks.length/\ks.length-j<=g/\i = .int .i64 j/\Hid (wx.ranges Tryz.prog 3 (plainElem (H:=Unit) Tryz.prog 4) d.gm rr S.taken.length (mapOf S.taken) (fun z=>left z && !z.sameKey (.int .i64 x)) cnt')/\Hid (MapIAt Tryz.prog wx (w.heap.size+1) M')/\Hid (Ext w wx)/\Hid (wx.cell? ⟨w.heap.size,0,none⟩=some (.pointer (some ⟨lb,0,none⟩))/\wx.cell? ⟨w.heap.size+1+1,0,none⟩=some (.map (some (w.heap.size+1))))/\Hid (CountsAre S D (ks.take j) M')/\Hid (∀ q ∈ M',q.1 < S.words.length))
   case atStart=>exact ⟨0,M,Nat.zero_le _,by omega,rfl,RN5,M5,E5,Y5,hZ (by simpa using CA.out),KB⟩
   case round=>
    obtain ⟨j,M',hj,hg2,rfl,R6,M6,E6,Y6,C6,K6⟩:=hrel;clear RN5 M5 E5 Y5 RN M2 E2 Y2 N h0 y1' y3' hE5;obtain ⟨y1,y3⟩:=Y6.out
    by_cases hlt2:j < ks.length
    . obtain ⟨y,hy⟩:=rd_get (l:=ks) (j:=j) hlt2;obtain ⟨b,rfl,hb⟩:=KNH.out j y hy;obtain ⟨kb,ko,hkp,hkb,hkc⟩:=(KAT.out _ E6.out).cells (by omega);have gk:=hkc j _ hy;have pb:=HW.out.part hb;have tk:decide ((j:Int) < (ks.length:Int))=true:=dT;have tk2:decide (j < ks.length)=true:=dT;have hlk:=M6.out.look (t:=119) Tryz.underlying3 Tryz.underlying119 (Tryz.zeroValue3 wr) (k:=b) (by omega);have hcv:=C6.out b;have hcb:=CB.out b;have hcl:=List.count_le_length (a:=(b:Int)) (l:=ks.take j);have hcl2:(ks.take j).length<=ks.length:=List.length_take_le' _ _;obtain ⟨cv,hcv2⟩:∃ cv,(getI b M').getD 0=cv:=⟨_,rfl⟩
      rw [hcv2] at hlk hcv;have hcv3:0<=cv/\cv<=200000:=by omega
      obtain ⟨cv1,cv2⟩:=hcv3;have hml:=keys_len M6.out.up K6.out;obtain ⟨w7,hup,hm7,ht7⟩:=M6.out.put (t:=119) Tryz.underlying3 Tryz.underlying119 (by unfold maxLen;omega) (a:=b) (x:=cv+1) (by omega) (by omega) (by omega);have B7:But [w.heap.size+1] wr w7:=(But.refl _ _).turned ht7 (.inl (by simp));have E7:=hZ (But.toExt E6.out B7 (by simp));have own1:=H.out.toHAt.own_lt _ d.gm_own;have R7:=hZ (ranges_of R6.out (B7.block _ (by have:=E6.out.le;omega) (by simp;omega)) (B7.block _ R6.out.lt (by simp;omega)));have Y7:=hZ (And.intro ((B7.cell (cell_lt y1) (by simp) 0).trans y1) ((B7.cell (cell_lt y3) (by simp) 0).trans y3));have M7:=hZ hm7
      have C7:Hid (CountsAre S D (ks.take (j+1)) (putI b (cv+1) M')):=hZ (by
       rw [take_snocI hy,<- hcv2];exact C6.out.put M6.out.up)
      have K7:Hid (∀ q ∈ putI b (cv+1) M',q.1 < S.words.length):=hZ (fun q hq=>by
       rcases keys_put hq with e | ⟨q',hq',e⟩
       . rw [e];omega
       . rw [<- e];exact K6.out q' hq')
      clear hcv hcb hcl hcl2 hcv2 hml hm7 ht7 B7 own1 hkc hy hb pb;subst hkp
      go_wp2_with fail
      go_roundg (ks.length-(j+1))
      case measure=>omega
      case rel=>exact ⟨j+1,_,by omega,Nat.le_refl _,by go_num,R7,M7,E7,Y7,C7,K7⟩
    have:j=ks.length:=by omega
    subst this;have tk:decide ((ks.length:Int) < (ks.length:Int))=false:=dF;have tk2:decide (ks.length < ks.length)=false:=dF;have C8:Hid (CountsAre S (D ++ [x]) [] M'):=hZ (fun y=>by
     rw [C6.out y,List.take_length,Hp.cnt_app];show _=((Hp.cnt _ _ y D+(List.count (y:Int) (Hp.kz (Hp.ow S.words) S.sizes x)+0)+0:Nat):Int);rw [HKS.out];rfl)
    go_wp2_with fail
    go_roundg cnt'
    case measure=>omega
    case rel=>exact ⟨_,cnt',D ++ [x],M',Nat.le_refl _,R6,M6,E6,Y6,C8,K6,(show Aside _ from S2H.out)⟩
open Go.RowKit Go.Maps
theorem cellKT:Tryz.prog.keyTypeAt 3 152=true:=by kernel_rfl
theorem cellTI:Tryz.prog.tiled 3 152=true:=by kernel_rfl
theorem three_le:3+1<=10000:=Nat.le_of_ble_eq_true (by kernel_rfl)
theorem cellLaw:WideMaps.KeyLaw Tryz.prog 152:=deep_law (m:=3) three_le cellKT cellTI (by rw [Tryz.underlying152])
theorem cellKeyed:Maps.Keyed Tryz.prog 152:=Maps.Keyed.of_law cellLaw
theorem keyLits_int (d:Nat) (h : -9223372036854775808<=x/\x<=9223372036854775807):Tryz.prog.keyLits (d+1) 3 [.int .i64 x]=some [.int .i64 x]:=by
 unfold Program.keyLits
 rw [Tryz.underlying3]
 have wf:(Lit.int .i64 x).wf=true:=WalkArith.wf_i64 (by omega)
 simp [wf]
theorem types_le:3<=Tryz.prog.types.size:=Nat.le_of_ble_eq_true (by kernel_rfl)
theorem cellsOf_cell:Tryz.prog.cellsOf 152=13:=by kernel_rfl
theorem cellsOf_arr:Tryz.prog.cellsOf 150=12:=by kernel_rfl
theorem cellsOf_int:Tryz.prog.cellsOf 3=1:=by kernel_rfl
theorem keyType_cell:Tryz.prog.keyType 152=true:=by kernel_rfl
theorem keyOf_cell (hl:l.length=13) (h:∀ x ∈ l,-9223372036854775808<=x/\x<=9223372036854775807):∃ k,keyOf Tryz.prog 152 (.agg (ints l).toArray)=some k:=by
 match l,hl with
 | [a0,a1,a2,a3,a4,a5,a6,a7,a8,a9,a10,a11,a12],_=>
  obtain ⟨d,hd⟩:∃ d,Tryz.prog.types.size=d+2:=⟨Tryz.prog.types.size-2,by have:=types_le;omega⟩
  have e:∀ x ∈ [a0,a1,a2,a3,a4,a5,a6,a7,a8,a9,a10,a11,a12],∀ d,Tryz.prog.keyLits (d+1) 3 [.int .i64 x]=some [.int .i64 x]:=fun x hx d=>keyLits_int d (h x hx)
  have arr:∃ k,Tryz.prog.keyLits (d+2) 150 [.int .i64 a1,.int .i64 a2,.int .i64 a3,.int .i64 a4,.int .i64 a5,.int .i64 a6,.int .i64 a7,.int .i64 a8,.int .i64 a9,.int .i64 a10,.int .i64 a11,.int .i64 a12]=some k:=by
   unfold Program.keyLits;rw [Tryz.underlying150];simp only [cellsOf_arr,cellsOf_int];simp [List.range,List.range.loop,e a1 (by simp),e a2 (by simp),e a3 (by simp),e a4 (by simp),e a5 (by simp),e a6 (by simp),e a7 (by simp),e a8 (by simp),e a9 (by simp),e a10 (by simp),e a11 (by simp),e a12 (by simp)]
  obtain ⟨k,hk⟩:=arr;have top:∃ k,Tryz.prog.keyLits (d+3) 152 [.int .i64 a0,.int .i64 a1,.int .i64 a2,.int .i64 a3,.int .i64 a4,.int .i64 a5,.int .i64 a6,.int .i64 a7,.int .i64 a8,.int .i64 a9,.int .i64 a10,.int .i64 a11,.int .i64 a12]=some k:=by
   unfold Program.keyLits;rw [Tryz.underlying152];simp only [cellsOf_cell];simp [cellsOf_arr,cellsOf_int,e a0 (by simp),hk]
  obtain ⟨k',hk'⟩:=top;unfold keyOf;rw [Tryz.underlying152];simp only;have hf:(Value.agg (ints [a0,a1,a2,a3,a4,a5,a6,a7,a8,a9,a10,a11,a12]).toArray).formed Tryz.prog 152=true:=by
   simp [Value.formed,Tryz.underlying152,cellsOf_cell,ints]
  rw [keyType_cell,hf,hd];simp only [Bool.and_self,if_true];rw [show (Value.agg (ints [a0,a1,a2,a3,a4,a5,a6,a7,a8,a9,a10,a11,a12]).toArray).cells.toList=[.int .i64 a0,.int .i64 a1,.int .i64 a2,.int .i64 a3,.int .i64 a4,.int .i64 a5,.int .i64 a6,.int .i64 a7,.int .i64 a8,.int .i64 a9,.int .i64 a10,.int .i64 a11,.int .i64 a12] from rfl,hk'];exact ⟨_,rfl⟩
def KeysAt (w:World) (g:Nat) (Ks:List (List Int)):Prop:=∃ D:DataW Unit,w.ownsMap Tryz.prog 152 (plainElem (H:=Unit) Tryz.prog 4) g Ks.length D /\ ∀ (l:List Int) (kl:Lit),l ∉ Ks->keyOf Tryz.prog 152 (.agg (ints l).toArray)=some kl -> ∀ z,D.atKey kl z=z
theorem ints_inj:∀ {a b:List Int},ints a=ints b->a=b
 | [],[],_=>rfl
 | [],_ :: _,h=>by simp [ints] at h
 | _ :: _,[],h=>by simp [ints] at h
 | x :: a,y :: b,h=>by
  simp only [ints,List.map_cons,List.cons.injEq] at h;obtain ⟨h1,h2⟩:=h;injection h1 with _ h1
  rw [h1,ints_inj h2]
namespace KeysAt
variable {w w':World} {g:Nat} {Ks:List (List Int)}
theorem made (w:World):KeysAt (w.alloc (.map #[] 0)) w.heap.size []:=
 ⟨_,World.ownsMap_made w Tryz.prog 152 (plainElem (H:=Unit) Tryz.prog 4),fun _ _ _ _ _=>rfl⟩
theorem lt (h:KeysAt w g Ks):g < w.heap.size:=by
 obtain ⟨D,h1,_⟩:=h
 exact h1.lt
theorem ofBlock (h:KeysAt w g Ks) (e:w'.heap[g]? = w.heap[g]?):KeysAt w' g Ks:=by
 obtain ⟨D,⟨es,clock,hb,r⟩,h2⟩:=h
 exact ⟨D,⟨es,clock,e.trans hb,r⟩,h2⟩
theorem but (h:KeysAt w g Ks) {l:List Nat} (k:But l w w') (hg:g ∉ l):KeysAt w' g Ks:=h.ofBlock (k.block g h.lt hg)
theorem ext (h:KeysAt w g Ks) (k:Ext w w'):KeysAt w' g Ks:=h.ofBlock (k.block g h.lt)
theorem look (h:KeysAt w g Ks) (hl:l.length=13) (hb:∀ x ∈ l,-9223372036854775808<=x/\x<=9223372036854775807) (hn:l ∉ Ks):(Instr.lookup 149 (.map (some g)) (.agg (ints l).toArray) false).run Tryz.prog w = .ok (.bool false) w:=by
 obtain ⟨D,h1,h2⟩:=h
 obtain ⟨kl,hk⟩:=keyOf_cell hl hb
 obtain ⟨v,ps,hrun,hv⟩:=h1.lookup cellKeyed Tryz.underlying149 (Tryz.zeroValue4 w) (plainElem_bool Tryz.underlying4 false) hk
 rw [hrun]
 rw [h2 l kl hn hk] at hv
 rw [plainElem_bool_inv Tryz.underlying4 hv]
theorem put (h:KeysAt w g Ks) (hl:l.length=13) (hb:∀ x ∈ l,-9223372036854775808<=x/\x<=9223372036854775807) (hn:Ks.length < maxLen):∃ w',(Instr.mapUpdate 149 (.map (some g)) (.agg (ints l).toArray) (.bool true)).run Tryz.prog w = .ok () w'/\KeysAt w' g (l :: Ks)/\w.mapTurned w' g:=by
 obtain ⟨D,h1,h2⟩:=h
 obtain ⟨kl,hk⟩:=keyOf_cell hl hb
 obtain ⟨w',hrun,ho,ht⟩:=h1.store cellKeyed Tryz.underlying149 hn hk (plainElem_bool Tryz.underlying4 true)
 refine ⟨w',hrun,⟨_,ho,fun l' kl' hm hk' z=>?_⟩,ht⟩
 simp only [List.mem_cons,not_or] at hm
 rw [atKey_put_other (fun e=>hm.1 ?_)]
 . exact h2 l' kl' hm.2 hk' z
 subst e
 have h3:=Value.agg.inj (cellKeyed.inj hk' hk)
 exact ints_inj (List.toArray_inj h3)
end KeysAt
def keyL (S:Hp.Hs) (a:Nat):List Int:=Hp.ow S.words a :: (Hp.fz (Hp.ow S.words) S.sizes a ++ List.replicate (12-(Hp.fz (Hp.ow S.words) S.sizes a).length) 0)
theorem keyL_len {ch:Nat->List Nat} (h:Hp.Wf S B L ch) (ha:a ∈ S.taken):(keyL S a).length=13:=by
 have:=h.part ha
 have:=Hp.fz_length (Hp.ow S.words) S.sizes a
 simp [keyL]
 omega
theorem keyL_bd {ch:Nat->List Nat} (h:Hp.Wf S B L ch) (ha:a ∈ S.taken):∀ x ∈ keyL S a,-9223372036854775808<=x/\x<=9223372036854775807:=fun x hx=>by
 unfold keyL at hx
 rcases List.mem_cons.1 hx with rfl | hx
 . have:=h.tag_le ha;omega
 rcases List.mem_append.1 hx with hx | hx
 . have:=h.fld_le ha x hx;omega
 rw [List.eq_of_mem_replicate hx];omega
theorem keyL_inj {ch:Nat->List Nat} (h:Hp.Wf S B L ch) (ha:a ∈ S.taken) (hb:b ∈ S.taken) (e:keyL S a=keyL S b):a=b:=by
 unfold keyL at e
 injection e with e1 e2
 have hl:(Hp.fz (Hp.ow S.words) S.sizes a).length=(Hp.fz (Hp.ow S.words) S.sizes b).length:=by rw [Hp.fz_length,Hp.fz_length,e1]
 exact h.cells.one a ha b hb e1 (List.append_inj e2 hl).1
open Go.RowKit Go.Maps
structure Rd where
 rb:Nat
 sp:Option Addr
 sc:Nat
 op:Option Addr
 oc:Nat
 gb:Nat
 go:Nat
 wc:Nat
structure RAt (w:World) (r:Rd) (S:Hp.Hs):Prop where
 c0:w.cell? ⟨r.rb,0,none⟩=some (.slice r.sp S.sizes.length r.sc)
 c1:w.cell? ⟨r.rb,1,none⟩=some (.slice r.op S.order.length r.oc)
 c2:w.cell? ⟨r.rb,2,none⟩=some (.slice (some ⟨r.gb,r.go,none⟩) S.words.length r.wc)
 sizes:SliceAt w r.sp r.sc S.sizes
 order:SliceAt w r.op r.oc S.order
 words:SliceAt w (some ⟨r.gb,r.go,none⟩) r.wc S.words
namespace RAt
variable {w w':World} {r:Rd} {S:Hp.Hs}
theorem ext (h:RAt w r S) (k:Ext w w'):RAt w' r S:=
 ⟨(k.cell (cell_lt h.c0) 0).trans h.c0,(k.cell (cell_lt h.c0) 1).trans h.c1,(k.cell (cell_lt h.c0) 2).trans h.c2,h.sizes.ext k,h.order.ext k,h.words.ext k⟩
theorem get (h:RAt w r S) (hj:j < S.words.length):w.cell? ⟨r.gb,r.go+j,none⟩=some (.int .i64 (Hp.ow S.words j)):=by
 obtain ⟨b,o,e,_,hc⟩:=h.words.cells (by omega)
 cases e
 exact hc j _ (Hp.rd_ow hj)
theorem lt (h:RAt w r S):r.rb < w.heap.size:=cell_lt h.c0
end RAt
set_option maxHeartbeats 2000000 in
theorem rFields {r:Rd} (h:RAt w r S) (hz:Hp.Fr S.sizes) (ht:Hp.okTag S.sizes t=true) :
    Calls Tryz.prog 68 #[.pointer (some ⟨r.rb,0,none⟩),.int .i64 t] w fun e w'=>e = .returned (.int .i64 ((Hp.wz S.sizes t-4:Nat):Int))/\Ext w w':=by
  have h0:=h.c0;have few:=hz.few;have hle:=h.sizes.le;have hcap:=h.sizes.cap;have hwz:=Hp.wz_ok hz ht
  cases he:Hp.isEnd t with
  | true=>
   have e:Hp.wz S.sizes t=5:=by simp [Hp.wz,he]
   rw [e];simp only [Hp.isEnd,Hp.within,Bool.and_eq_true,decide_eq_true_eq] at he;obtain ⟨e1,e2⟩:=he;clear h hz ht hwz e;generalize S.sizes.length=n at *;have t1:decide (t<=(n:Int))=false:=dF;have t2:decide (t ≥ 1)=true:=dT;have t3:decide (t ≥ 20)=true:=dT;have t4:decide (t<=24)=true:=dT;go_enter Tryz.func68,Tryz.ntmps68
   go_wp2_with fail
   go_returns;exact ⟨rfl,exx⟩
  | false=>
   have hn:=Hp.isNode_of ht he;simp only [Hp.isNode,Hp.within,Bool.and_eq_true,decide_eq_true_eq] at hn;obtain ⟨e1,e2⟩:=hn;obtain ⟨i,rfl⟩:∃ i:Nat,t=(i:Int)+1:=⟨(t-1).toNat,by omega⟩
   have hi:i < S.sizes.length:=by omega
   obtain ⟨x,hx⟩:=rd_get (l:=S.sizes) (j:=i) hi;have hxp:=hz.pos x (List.mem_of_getElem? hx);have e:((Hp.wz S.sizes ((i:Int)+1)-4:Nat):Int)=x:=by
    unfold Hp.wz;rw [he];have:S.sizes.getD ((i:Int)+1-1).toNat 0=x:=by
     rw [show ((i:Int)+1-1).toNat=i by omega,List.getD_eq_getElem?_getD];unfold Hp.rd at hx;rw [hx];rfl
    rw [this];simp only [Bool.false_eq_true,if_false];omega
   rw [e];obtain ⟨b,o,hp,hb,hc⟩:=h.sizes.cells (by omega);have gx:=hc i x hx;rw [hp] at h0;clear h hz ht hwz e hc hx he hp;generalize S.sizes.length=n at *;have t1:decide ((i:Int)+1<=(n:Int))=true:=dT;have t2:decide ((i:Int)+1 ≥ 1)=true:=dT;go_enter Tryz.func68,Tryz.ntmps68
   go_wp2_with fail
   go_returns;exact ⟨rfl,exx⟩
theorem rIsNode {r:Rd} (h:RAt w r S) (ha:a < S.words.length) :
    Calls Tryz.prog 87 #[.pointer (some ⟨r.rb,0,none⟩),.int .i64 a] w fun e w'=>e = .returned (.bool (decide (Hp.ow S.words a < 20)))/\Ext w w':=by
  have c2:=h.c2;have gx:=h.get ha;have hle:=h.words.le;have hcap:=h.words.cap;clear h;generalize S.words.length=n at *;generalize Hp.ow S.words a=x at *;go_enter Tryz.func87,Tryz.ntmps87
  go_wp2_with fail
  go_returns;exact ⟨rfl,exx⟩
set_option maxHeartbeats 2000000 in
theorem rLong_cell {r:Rd} (h:RAt w r S) (hz:Hp.Fr S.sizes) (ha:a < S.words.length) (ht:Hp.okTag S.sizes (Hp.ow S.words a)=true) :
    Calls Tryz.prog 67 #[.pointer (some ⟨r.rb,0,none⟩),.int .i64 a] w fun e w'=>e = .returned (.int .i64 ((Hp.wz S.sizes (Hp.ow S.words a):Nat):Int))/\Ext w w':=by
  have c2:=h.c2;have gx:=h.get ha;have hle:=h.words.le;have hcap:=h.words.cap;have hwz:=Hp.wz_ok hz ht;have hto:=Hp.okTag_le hz ht;have HC:=hZ (fun W (hW:Ext w W)=>rFields (h.ext hW) hz ht);clear h hz ht;generalize S.words.length=n at *;generalize Hp.ow S.words a=x at *;obtain ⟨k,hk⟩:∃ k,Hp.wz S.sizes x=k+4:=⟨Hp.wz S.sizes x-4,by omega⟩
  have e4:((Hp.wz S.sizes x-4:Nat):Int)=k:=by omega
  have HC2:=hZ (fun W (hW:Ext w W)=>e4 ▸ HC.out W hW);rw [hk];have hk16:k<=12:=by omega
  have t0:(x == 0)=false:=by simp;omega
  clear hwz hk e4 HC hto;go_enter Tryz.func67,Tryz.ntmps67
  go_wp2_with (go_at_call 68;refine (HC2.out _ (exx)).mono ?_;rintro e w1 ⟨rfl,hb1⟩;obtain ⟨hc1,hf1,hs1⟩:=hb1.cells)
  go_returns;exact ⟨by rw [show ((k+4:Nat):Int)=4+(k:Int) by push_cast;omega];rfl,exx⟩
theorem rLong_free {r:Rd} (h:RAt w r S) (ha:a+1 < S.words.length) (h0:Hp.ow S.words a=0) (h1:Hp.ow S.words (a+1)=k) :
    Calls Tryz.prog 67 #[.pointer (some ⟨r.rb,0,none⟩),.int .i64 a] w fun e w'=>e = .returned (.int .i64 (k:Int))/\Ext w w':=by
  have c2:=h.c2;have gx:=h.get (j:=a) (by omega);have gy:=h.get ha;rw [h0] at gx;rw [h1] at gy;have hle:=h.words.le;have hcap:=h.words.cap;clear h h0 h1;generalize S.words.length=n at *;go_enter Tryz.func67,Tryz.ntmps67
  go_wp2_with fail
  go_returns;exact ⟨rfl,exx⟩
open Go.RowKit Go.Maps
def pick (b:Bool) (L:List Hp.Tl):List Int:=(L.filter fun t=>t.fr == b).map fun t=>(t.a:Int)
theorem pick_snoc (b:Bool) (P:List Hp.Tl) (t:Hp.Tl):pick b (P ++ [t])=pick b P ++ (if t.fr == b then [(t.a:Int)] else []):=by
 unfold pick
 rw [List.filter_append,List.map_append]
 congr 1
 cases h:t.fr == b <;> simp [h]
theorem pick_len (b:Bool) (L:List Hp.Tl):(pick b L).length<=L.length:=by
 unfold pick
 rw [List.length_map]
 exact List.length_filter_le _ _
theorem pick_cells (L:List Hp.Tl):pick false L=(Hp.adsOf L).map fun a:Nat=>(a:Int):=by
 unfold pick Hp.adsOf
 rw [List.map_map]
 congr 1
 apply List.filter_congr
 intro t _
 cases t.fr <;> rfl
def ListPost (w:World) (l:List Int) (e:Ending) (w':World):Prop:=∃ p c,e = .returned (.slice p l.length c)/\Row w' w.heap.size p c l/\Ext w w'
set_option maxRecDepth 100000 in
set_option maxHeartbeats 4000000 in
theorem rWhich {r:Rd} (h:RAt w r S) (hz:Hp.Fr S.sizes) (hi:S.words.length<=100000) (hL:Hp.Parts (Hp.ow S.words) S.sizes L S.words.length) (b:Bool) :
    Calls Tryz.prog 139 #[.pointer (some ⟨r.rb,0,none⟩),.bool b] w (ListPost w (pick b L)):=by
  obtain ⟨n,hn⟩:∃ n,S.words.length=n:=⟨_,rfl⟩
  have EN:=hZ hn;have H:=hZ h;have HL:=hZ hL;have hLn:=Hp.lay_len_ hL.lay;rw [hn] at hi hLn;clear h hL hn;go_enter Tryz.func139,Tryz.ntmps139
  go_wp2_with fail
  go_loopg [5,6] L.length (fun g o i wr=>∃ (P Q:List Hp.Tl) (s:Nat) (p:Option Addr) (c:Nat),Q.length<=g/\i = .int .i64 s/\s<=n/\o = .slice p (pick b P).length c/\Hid (L=P ++ Q)/\Hid (Hp.Lay s Q n)/\Hid (Row wr w.heap.size p c (pick b P))/\Hid (Ext w wr))
  case atStart=>exact ⟨[],L,17,none,0,Nat.le_refl _,rfl,by omega,rfl,hZ rfl,hZ (by rw [<- EN.out];exact HL.out.lay),hZ (Row.nil _ _),hZ (Ext.refl w)⟩
  case round=>
   obtain ⟨P,Q,s,p,c,hg,rfl,hs,rfl,EL,LQ,R,E⟩:=hrel;have N:=hZ (H.out.ext E.out);have c2:=N.out.c2;have hle:=N.out.words.le;have hcap:=N.out.words.cap;rw [EN.out] at c2 hle
   cases Q with
   | nil=>
    have:s=n:=LQ.out;subst this;have tk:decide ((s:Int) < (s:Int))=false:=dF;have hP:P=L:=by rw [EL.out,List.append_nil]
    subst hP
    go_wp2_with fail
    go_returns;exact ⟨p,c,rfl,R.out,E.out⟩
   | cons t Q=>
    have htL:t ∈ L:=by rw [EL.out];simp
    have hok:=HL.out.ok t htL;obtain ⟨q1,q2,q3⟩:=LQ.out;have q4:=q3.le;subst q1;have hta:t.a+t.k<=S.words.length:=(HL.out.lay.mem htL).2.1;have gx:=N.out.get (j:=t.a) (by omega);have tk:decide ((t.a:Int) < (n:Int))=true:=dT;have EL2:Hid (L=(P ++ [t]) ++ Q):=hZ (by rw [EL.out];simp);have LQ2:=hZ q3;have HTA:=hZ hta;have plen:=pick_len b P;have hPL:P.length<=L.length:=by rw [EL.out];simp
    have hnext:IntKind.i64.wrap ((t.a:Int)+(t.k:Int))=((t.a+t.k:Nat):Int):=by rw [Int.natCast_add];exact IntWalk.i64_in _ (by omega)
    have HNX:=hZ hnext;simp only [List.length_cons] at hg
    cases hf:t.fr with
    | true=>
     have hfr:=hok.free hf;have LONG:=hZ (fun W (hW:Ext w W)=>rLong_free (H.out.ext hW) (a:=t.a) (by omega) hfr.1 hfr.2.1);rw [hfr.1] at gx
     cases b with
     | true=>
      have EP:pick true (P ++ [t])=pick true P ++ [(t.a:Int)]:=by rw [pick_snoc,hf];rfl
      have RA:=hZ (R.out.ext (Ext.alloc (Ext.refl _) (.cells #[.int .i64 t.a] 3)));clear hfr hok hta q3 LQ EL hnext hf htL
      go_wp2_with (first
       | (go_at_call 67;refine (LONG.out _ E8).mono ?_;rintro e w1 ⟨rfl,hb1⟩;obtain ⟨hc1,hf1,hs1⟩:=hb1.cells)
       | (at_builtin;refine wpList_append_int rfl _ _ rfl (y:=(t.a:Int)) rfl rfl RA.out (by go_simp) (by omega) (by omega) (by omega) (by have:=E.out.le;simp;omega) ?_;intro g8 c8 x8 hR8 hG8;obtain ⟨row,hgr,hrow⟩:=id hG8;have E8:Ext w x8:=ext_grow (E.out.alloc _) hgr hrow;have N8:=hZ (H.out.ext E8);have c28:=N8.out.c2;have R8H:=hZ hR8))
      go_roundg Q.length
      case measure=>omega
      case rel=>exact ⟨P ++ [t],Q,t.a+t.k,some ⟨g8,0,none⟩,c8,Nat.le_refl _,by go_num,by omega,by rw [EP];simp,EL2,LQ2,hZ (by rw [EP];exact R8H.out.ext hb1),hZ (E8.trans hb1)⟩
     | false=>
      have EP:pick false (P ++ [t])=pick false P:=by rw [pick_snoc,hf];simp
      clear hfr hok hta q3 LQ EL hnext hf htL
      go_wp2_with (go_at_call 67;refine (LONG.out _ E.out).mono ?_;rintro e w1 ⟨rfl,hb1⟩;obtain ⟨hc1,hf1,hs1⟩:=hb1.cells)
      go_roundg Q.length
      case measure=>omega
      case rel=>exact ⟨P ++ [t],Q,t.a+t.k,p,c,Nat.le_refl _,by go_num,by omega,by rw [EP],EL2,LQ2,hZ (by rw [EP];exact R.out.ext hb1),hZ (E.out.trans hb1)⟩
    | false=>
     have hcl:=hok.cell hf;have hto:=Hp.okTag_le hz hcl.1;have LONG:=hZ (fun W (hW:Ext w W)=>hcl.2 ▸ rLong_cell (H.out.ext hW) hz (a:=t.a) (by omega) hcl.1);have t0:(Hp.ow S.words t.a == 0)=false:=by simp;omega
     cases b with
     | false=>
      have EP:pick false (P ++ [t])=pick false P ++ [(t.a:Int)]:=by rw [pick_snoc,hf];rfl
      have RA:=hZ (R.out.ext (Ext.alloc (Ext.refl _) (.cells #[.int .i64 t.a] 3)));clear hcl hto hok hta q3 LQ EL hnext hf htL;generalize Hp.ow S.words t.a=x at *
      go_wp2_with (first
       | (go_at_call 67;refine (LONG.out _ E8).mono ?_;rintro e w1 ⟨rfl,hb1⟩;obtain ⟨hc1,hf1,hs1⟩:=hb1.cells)
       | (at_builtin;refine wpList_append_int rfl _ _ rfl (y:=(t.a:Int)) rfl rfl RA.out (by go_simp) (by omega) (by omega) (by omega) (by have:=E.out.le;simp;omega) ?_;intro g8 c8 x8 hR8 hG8;obtain ⟨row,hgr,hrow⟩:=id hG8;have E8:Ext w x8:=ext_grow (E.out.alloc _) hgr hrow;have N8:=hZ (H.out.ext E8);have c28:=N8.out.c2;have R8H:=hZ hR8))
      go_roundg Q.length
      case measure=>omega
      case rel=>exact ⟨P ++ [t],Q,t.a+t.k,some ⟨g8,0,none⟩,c8,Nat.le_refl _,by go_num,by omega,by rw [EP];simp,EL2,LQ2,hZ (by rw [EP];exact R8H.out.ext hb1),hZ (E8.trans hb1)⟩
     | true=>
      have EP:pick true (P ++ [t])=pick true P:=by rw [pick_snoc,hf];simp
      clear hcl hto hok hta q3 LQ EL hnext hf htL;generalize Hp.ow S.words t.a=x at *
      go_wp2_with (go_at_call 67;refine (LONG.out _ E.out).mono ?_;rintro e w1 ⟨rfl,hb1⟩;obtain ⟨hc1,hf1,hs1⟩:=hb1.cells)
      go_roundg Q.length
      case measure=>omega
      case rel=>exact ⟨P ++ [t],Q,t.a+t.k,p,c,Nat.le_refl _,by go_num,by omega,by rw [EP],EL2,LQ2,hZ (by rw [EP];exact R.out.ext hb1),hZ (E.out.trans hb1)⟩
theorem rCells {r:Rd} (h:RAt w r S) (hz:Hp.Fr S.sizes) (hi:S.words.length<=100000) (hL:Hp.Parts (Hp.ow S.words) S.sizes L S.words.length) :
    Calls Tryz.prog 82 #[.pointer (some ⟨r.rb,0,none⟩)] w (ListPost w (pick false L)):=by
  have HC:=hZ (rWhich h hz hi hL false);clear h hz hL;go_enter Tryz.func82,Tryz.ntmps82
  go_wp2_with (go_at_call 139;refine HC.out.mono ?_;rintro e w1 ⟨p,c,rfl,hR,hE⟩)
  go_returns;exact ⟨p,c,rfl,hR,hE⟩
theorem rFree {r:Rd} (h:RAt w r S) (hz:Hp.Fr S.sizes) (hi:S.words.length<=100000) (hL:Hp.Parts (Hp.ow S.words) S.sizes L S.words.length) :
    Calls Tryz.prog 84 #[.pointer (some ⟨r.rb,0,none⟩)] w (ListPost w (pick true L)):=by
  have HC:=hZ (rWhich h hz hi hL true);clear h hz hL;go_enter Tryz.func84,Tryz.ntmps84
  go_wp2_with (go_at_call 139;refine HC.out.mono ?_;rintro e w1 ⟨p,c,rfl,hR,hE⟩)
  go_returns;exact ⟨p,c,rfl,hR,hE⟩
theorem dIn (n a b:Int) (w:World):Calls Tryz.prog 66 #[.int .i64 n,.int .i64 a,.int .i64 b] w fun e w'=>e = .returned (.bool (Hp.within a b n))/\Ext w w':=by
 by_cases h1:a<=n
 . have t1:decide (n ≥ a)=true:=decide_eq_true h1
   by_cases h2:n<=b
   . have t2:decide (n<=b)=true:=decide_eq_true h2;have e:Hp.within a b n=true:=by simp [Hp.within,h1,h2]
     rw [e];clear e;go_enter Tryz.func66,Tryz.ntmps66
     go_wp2_with fail
     go_returns;exact ⟨rfl,exx⟩
   have t2:decide (n<=b)=false:=decide_eq_false h2;have e:Hp.within a b n=false:=by simp [Hp.within,h2]
   rw [e];clear e;go_enter Tryz.func66,Tryz.ntmps66
   go_wp2_with fail
   go_returns;exact ⟨rfl,exx⟩
 have t1:decide (n ≥ a)=false:=decide_eq_false h1
 have e:Hp.within a b n=false:=by simp [Hp.within,h1]
 rw [e]
 clear e
 go_enter Tryz.func66,Tryz.ntmps66
 go_wp2_with fail
 go_returns
 exact ⟨rfl,exx⟩
set_option maxHeartbeats 2000000 in
theorem rHas (h:SliceAt w p c l) :
    Calls Tryz.prog 85 #[.slice p l.length c,.int .i64 x] w fun e w'=>e = .returned (.bool (l.contains x))/\Ext w w':=by
  have hle:=h.le;have hcap:=h.cap;have H:=hZ h;clear h;generalize hL:l.length=n at hle ⊢;have HL:=hZ hL;clear hL;obtain ⟨b,hb⟩:∃ b,l.contains x=b:=⟨_,rfl⟩
  have HB:=hZ hb;rw [hb];clear hb;go_enter Tryz.func85,Tryz.ntmps85
  go_wp2_with fail
  go_loopg [5] n (fun g i wr=>∃ j:Nat,j<=n/\n-j<=g/\i = .int .i64 j/\Hid (Ext w wr)/\Hid (∀ i,i < j->Hp.rd l i ≠ some x))
  case atStart=>exact ⟨0,Nat.zero_le _,by omega,rfl,hZ (Ext.refl w),hZ (fun i hi=>absurd hi (Nat.not_lt_zero _))⟩
  case round=>
   obtain ⟨j,hj,hg,rfl,E,A⟩:=hrel
   by_cases hlt:j < n
   . obtain ⟨y,hy⟩:=rd_get (l:=l) (j:=j) (by rw [HL.out];exact hlt);obtain ⟨bb,o,rfl,hbb,hc⟩:=(H.out.ext E.out).cells (by rw [HL.out];omega);have g1:=hc j y hy;have HY:=hZ hy;have tk:decide ((j:Int) < (n:Int))=true:=dT;clear hc hy
     by_cases hyx:y=x
     . have t0:(y == x)=true:=by simpa using hyx
       have hbt:b=true:=by
        rw [<- HB.out];have:=List.mem_of_getElem? HY.out;rw [hyx] at this
        simpa using this
       subst hbt
       go_wp2_with fail
       go_returns;exact ⟨rfl,E.out⟩
     have t0:(y == x)=false:=by simpa using hyx
     have A2:Hid (∀ i,i < j+1->Hp.rd l i ≠ some x):=hZ (fun i hi=>by
      by_cases e:i=j
      . subst e;rw [HY.out]
        simpa using hyx
      . exact A.out i (by omega))
     go_wp2_with fail
     go_roundg (n-(j+1))
     case measure=>omega
     case rel=>exact ⟨j+1,by omega,Nat.le_refl _,by go_num,E,A2⟩
   have:j=n:=by omega
   subst this;have tk:decide ((j:Int) < (j:Int))=false:=dF;have hbf:b=false:=by
    rw [<- HB.out]
    cases hc:l.contains x with
    | false=>rfl
    | true=>
     have hm:x ∈ l:=by simpa using hc
     obtain ⟨i,hi,e⟩:=List.getElem_of_mem hm;exact absurd (by unfold Hp.rd;rw [List.getElem?_eq_getElem hi,e]) (A.out i (by rw [<- HL.out];exact hi))
   subst hbf
   go_wp2_with fail
   go_returns;exact ⟨rfl,E.out⟩
set_option maxHeartbeats 2000000 in
theorem rPlace {r:Rd} (h:RAt w r S) {c:Int} (hk:Hp.rd S.order k=some c) (hf:∀ j,j < k->Hp.rd S.order j ≠ some c) :
    Calls Tryz.prog 173 #[.pointer (some ⟨r.rb,0,none⟩),.int .i64 c] w fun e w'=>e = .returned (.int .i64 (k:Int))/\Ext w w':=by
  have hkl:=rd_lt hk;have hle:=h.order.le;have hcap:=h.order.cap;have H:=hZ h;have HK:=hZ hk;have HF:=hZ hf;clear h hk hf;generalize hL:S.order.length=n at hle hkl;have HL:=hZ hL;clear hL;go_enter Tryz.func173,Tryz.ntmps173
  go_wp2_with fail
  go_loopg [5] n (fun g i wr=>∃ j:Nat,j<=k/\n-j<=g/\i = .int .i64 j/\Hid (Ext w wr))
  case atStart=>exact ⟨0,Nat.zero_le _,by omega,rfl,hZ (Ext.refl w)⟩
  case round=>
   obtain ⟨j,hj,hg,rfl,E⟩:=hrel;have N:=hZ (H.out.ext E.out);have c1:=N.out.c1;rw [HL.out] at c1;obtain ⟨y,hy⟩:=rd_get (l:=S.order) (j:=j) (by rw [HL.out];omega);obtain ⟨bb,o,hp,hbb,hc⟩:=N.out.order.cells (by rw [HL.out];omega);have g1:=hc j y hy;rw [hp] at c1;have tk:decide ((j:Int) < (n:Int))=true:=dT;have HY:=hZ hy;clear hc hy hp
   by_cases hjk:j=k
   . subst hjk;have hyc:y=c:=by
      have:=HY.out;rw [HK.out] at this;exact (Option.some.inj this).symm
     have t0:(y == c)=true:=by simpa using hyc
     go_wp2_with fail
     go_returns;exact ⟨rfl,E.out⟩
   have hyc:y ≠ c:=by
    intro e;exact HF.out j (by omega) (by rw [HY.out,e])
   have t0:(y == c)=false:=by simpa using hyc
   clear hyc
   go_wp2_with fail
   go_roundg (n-(j+1))
   case measure=>omega
   case rel=>exact ⟨j+1,by omega,Nat.le_refl _,by go_num,E⟩
theorem index_spec {c:Int} (h:c ∈ o):∃ k:Nat,Hp.index o c=k/\Hp.rd o k=some c /\ ∀ j,j < k->Hp.rd o j ≠ some c:=by
 unfold Hp.index
 cases hf:o.findIdx? (· == c) with
 | none=>
  rw [List.findIdx?_eq_none_iff] at hf;have:=hf c h;simp at this
 | some i=>
  rw [List.findIdx?_eq_some_iff_getElem] at hf;obtain ⟨hl,h1,h2⟩:=hf;refine ⟨i,rfl, ?_,fun j hj e=>?_⟩
  . unfold Hp.rd;rw [List.getElem?_eq_getElem hl]
    simpa using h1
  have:=h2 j hj;unfold Hp.rd at e;rw [List.getElem?_eq_getElem (by omega)] at e;have e:=Option.some.inj e;simp [e] at this
theorem order_mem (hz:Hp.FrOk S.sizes S.order) (h:Hp.isNode S.sizes t=true):t-1 ∈ S.order:=by
 simp only [Hp.isNode,Hp.within,Bool.and_eq_true,decide_eq_true_eq] at h
 have:=hz.perm (t-1).toNat (by omega)
 rwa [show (((t-1).toNat:Nat):Int)=t-1 by omega] at this
theorem rank_node {z:List Int} (he:Hp.isEnd t=false):Hp.rank o t=Hp.index o (t-1):=by simp [Hp.rank,he]
set_option maxHeartbeats 2000000 in
theorem rRank {r:Rd} {ch:Nat->List Nat} (h:RAt w r S) (hw:Hp.Wf S B L ch) (ha:a ∈ S.taken) :
    Calls Tryz.prog 172 #[.pointer (some ⟨r.rb,0,none⟩),.int .i64 a] w fun e w'=>e = .returned (.int .i64 (Hp.rank S.order (Hp.ow S.words a)))/\Ext w w':=by
  have pa:=hw.part ha;have ht:=hw.cells.tags a ha;have hto:=hw.tag_le ha;have few:=hw.fr.few;have NODE:=hZ (fun W (hW:Ext w W)=>rIsNode (h.ext hW) (a:=a) (by omega))
  cases he:Hp.isEnd (Hp.ow S.words a) with
  | true=>
   have e:Hp.rank S.order (Hp.ow S.words a)=S.order.length:=by simp [Hp.rank,he]
   rw [e];simp only [Hp.isEnd,Hp.within,Bool.and_eq_true,decide_eq_true_eq] at he;have NODE2:=hZ (fun W (hW:Ext w W)=>(decide_eq_false (by omega:¬ Hp.ow S.words a < 20)) ▸ NODE.out W hW);have H:=hZ h;have hcap:=h.order.cap;have hle:=h.order.le;clear h hw ha ht he e NODE pa;go_enter Tryz.func172,Tryz.ntmps172
   go_wp2_with (go_at_call 87;refine (NODE2.out _ (exx)).mono ?_;rintro e w1 ⟨rfl,hb1⟩;obtain ⟨hc1,hf1,hs1⟩:=hb1.cells;have c1:=(H.out.ext hb1).c1)
   go_returns;exact ⟨rfl,exx⟩
  | false=>
   have hn:=Hp.isNode_of ht he;have hm:=order_mem hw.fr hn;obtain ⟨k,e1,e2,e3⟩:=index_spec hm;rw [rank_node (z:=S.sizes) he,e1];have PL:=hZ (fun W (hW:Ext w W)=>rPlace (h.ext hW) e2 e3);simp only [Hp.isNode,Hp.within,Bool.and_eq_true,decide_eq_true_eq] at hn;have NODE2:=hZ (fun W (hW:Ext w W)=>(decide_eq_true (by omega:Hp.ow S.words a < 20)) ▸ NODE.out W hW);have H:=hZ h;have gx:=h.get (j:=a) (by omega);have hlt:=h.lt;have c2:=h.c2;have hle:=h.words.le;have hcap:=h.words.cap;obtain ⟨bb,o',hp',hbb,_⟩:=h.words.cells (by omega)
   cases hp'
   have al:a < S.words.length:=by omega
   clear h hw ha ht he e1 e2 e3 NODE hm pa;generalize S.words.length=n at *;generalize Hp.ow S.words a=x at *;go_enter Tryz.func172,Tryz.ntmps172
   go_wp2_with (first
    | (go_at_call 87;refine (NODE2.out _ (exx)).mono ?_;rintro e w1 ⟨rfl,hb1⟩;obtain ⟨hc1,hf1,hs1⟩:=hb1.cells;have c2':=(hb1.cell hlt 2).trans c2;have gx':=(hb1.cell hbb (r.go+a)).trans gx)
    | (go_at_call 173;refine (PL.out _ (exx)).mono ?_;rintro e w2 ⟨rfl,hb2⟩;obtain ⟨hc2,hf2,hs2⟩:=hb2.cells))
   go_returns;exact ⟨rfl,exx⟩
set_option maxHeartbeats 2000000 in
theorem rChain (h:SliceAt w p c l) (hk:Hp.chain t l=some k) :
    Calls Tryz.prog 137 #[.int .i64 t,.slice p l.length c] w fun e w'=>e = .returned (.int .i64 k)/\Ext w w':=by
  simp only [Hp.chain,Option.bind_eq_bind,Option.bind_eq_some_iff,Option.pure_def,Option.some.injEq] at hk;obtain ⟨t',ht,n0,hn,r,hr,hk⟩:=hk;obtain ⟨rfl,ht1,ht2⟩:=ck_some ht;obtain ⟨rfl,hn1,hn2⟩:=ck_some hn;subst hk;have hle:=h.le;have hcap:=h.cap;have H:=hZ h;have HR:=hZ hr;clear h hr ht hn;generalize hL:l.length=n at hle ⊢;have HL:=hZ hL;clear hL;go_enter Tryz.func137,Tryz.ntmps137;go_wp2
  go_loop [5,6] (fun a i=>∃ (j:Nat) (m:Int),j<=n/\i = .int .i64 j/\a = .int .i64 m /\ -4611686018427387904 < m/\m < 4611686018427387904/\Hid (Hp.sums (l.drop j) j m=some r)) (fun _ i=>n-(intOf i).toNat)
  case atStart=>exact ⟨0,_,Nat.zero_le _,rfl,rfl,hn1,hn2,HR⟩
  case round=>
   obtain ⟨j,m,hj,rfl,rfl,hm1,hm2,HS⟩:=hrel
   by_cases hlt:j < n
   . have hjl:j < l.length:=by rw [HL.out];exact hlt
     have hs:=HS.out;rw [List.drop_eq_getElem_cons hjl] at hs;obtain ⟨f,hf,hs⟩:=Option.bind_eq_some_iff.1 hs;obtain ⟨m',hm',hs⟩:=Option.bind_eq_some_iff.1 hs;obtain ⟨hfe,hf1,hf2⟩:=ck_some hf;obtain ⟨rfl,hm3,hm4⟩:=ck_some hm';rw [<- hfe] at hf1 hf2;obtain ⟨b,o,rfl,hb,hc⟩:=H.out.cells (by omega);have g:=hc j f (by unfold Hp.rd;rw [List.getElem?_eq_getElem hjl,hfe]);have HT:=hZ hs;clear hs hf hfe hm' hc HS;generalize he:((j:Int)+1) * f=q at hm3 hm4 HT;have e2:wrap64 (((j:Int)+1) * f)=q:=by rw [he];exact IntWalk.wrap64_in _ ⟨by omega,by omega⟩
     clear he;go_wp2
     go_round
     case rel=>exact ⟨j+1,m+q,by omega,by go_num,rfl,hm3,hm4,HT⟩
     case measure=>simp [intOf];omega
   have:j=n:=by omega
   subst this;have hs:=HS.out;rw [List.drop_of_length_le (by rw [HL.out];exact Nat.le_refl _)] at hs;obtain rfl:m=r:=by simpa [Hp.sums] using hs
   clear hs HS HR;obtain ⟨q1,q2,q3⟩:=tmod16 m;have Q:=hZ q3;clear q3;have q4 : -9223372036854775808<=m.tmod 16+16:=by omega
   have q5:m.tmod 16+16<=9223372036854775807:=by omega
   have q6:0<=m.tmod 16+16:=by omega
   go_wp2;go_returns;refine ⟨?_,exx⟩;show Ending.returned (Value.int IntKind.i64 (m.tmod 16 % 16))=_;rw [Q.out]
theorem dIsCell_is {f n:Int} (h1:f=0 -> -9999<=n/\n<=9999) (h2:f ≠ 0->n=0) (h3:0<=f) (h4:f<=4) :
    Calls Tryz.prog 134 #[.agg #[.int .u8 f,.int .i64 n]] w fun e w'=>e = .returned (.bool true)/\Ext w w':=by
  by_cases h0:f=0
  . subst h0;obtain ⟨k1,k2⟩:=h1 rfl;have e:Hp.within (-9999) 9999 n=true:=by simp [Hp.within,k1,k2]
    have IN:=hZ (fun W=>e ▸ dIn n (-9999) 9999 W);clear h1 h2 e;go_enter Tryz.func134,Tryz.ntmps134
    go_wp2_with (go_at_call 66;refine (IN.out _).mono ?_;rintro e w1 ⟨rfl,hb1⟩;obtain ⟨hc1,hf1,hs1⟩:=hb1.cells;have hz1_0:w.heap.size < w1.heap.size:=(by have h:=hb1.le;(try simp at h);omega);have hc1_0:=hb1.cell (b:=w.heap.size) (by first | omega | (simp;done) | (simp;omega));have hf1_0:=hb1.frozen (b:=w.heap.size) (by first | omega | (simp;done) | (simp;omega)))
    go_returns;exact ⟨rfl,exx⟩
  have hn:=h2 h0;subst hn;have t0:(f == 0)=false:=by simpa using h0
  have t1:decide (f<=4)=true:=decide_eq_true h4;clear h1 h2;go_enter Tryz.func134,Tryz.ntmps134
  go_wp2_with fail
  go_returns;exact ⟨rfl,exx⟩
def cellsI (S:Hp.Hs):List Int:=S.taken.map fun a:Nat=>(a:Int)
theorem Hp.Wf.pick_ {ch:Nat->List Nat} (h:Hp.Wf S B L ch):pick false L=cellsI S:=by
 rw [pick_cells,<- h.taken]
 rfl
theorem rCells_ {r:Rd} {ch:Nat->List Nat} (h:RAt w r S) (hw:Hp.Wf S B L ch):Calls Tryz.prog 82 #[.pointer (some ⟨r.rb,0,none⟩)] w (ListPost w (cellsI S)):=by
 rw [<- hw.pick_]
 exact rCells h hw.fr.toFr hw.hi hw.parts
theorem cellsI_mem:x ∈ cellsI S ↔ ∃ a ∈ S.taken,x=(a:Int):=by
 unfold cellsI
 rw [List.mem_map]
 constructor
 . rintro ⟨a,h1,h2⟩;exact ⟨a,h1,h2.symm⟩
 rintro ⟨a,h1,h2⟩
 exact ⟨a,h1,h2.symm⟩
theorem rHas_is {b:Bool} (hb:l.contains x=b) (h:SliceAt w p c l):Calls Tryz.prog 85 #[.slice p l.length c,.int .i64 x] w fun e w'=>e = .returned (.bool b)/\Ext w w':=by
 rw [<- hb]
 exact rHas h
theorem rIs {r:Rd} {ch:Nat->List Nat} (h:RAt w r S) (hw:Hp.Wf S B L ch) (x:Int):Calls Tryz.prog 26 #[.pointer (some ⟨r.rb,0,none⟩),.int .i64 x] w fun e w'=>e = .returned (.bool ((cellsI S).contains x))/\Ext w w':=by
 have HC:=hZ (rCells_ h hw)
 obtain ⟨b,hb⟩:∃ b,(cellsI S).contains x=b:=⟨_,rfl⟩
 rw [hb]
 have HB:=hZ hb
 clear h hw hb
 go_enter Tryz.func26,Tryz.ntmps26
 go_wp2_with (first
  | (go_at_call 82;refine HC.out.mono ?_;rintro e w1 ⟨p,c,rfl,hR,hE⟩;have SA:=hZ hR.at_)
  | (go_at_call 85;refine (rHas_is HB.out SA.out).mono ?_;rintro e w2 ⟨rfl,hE2⟩))
 go_returns
 exact ⟨rfl,hE.trans hE2⟩
theorem rIs_yes {r:Rd} {ch:Nat->List Nat} (h:RAt w r S) (hw:Hp.Wf S B L ch) (ha:a ∈ S.taken):Calls Tryz.prog 26 #[.pointer (some ⟨r.rb,0,none⟩),.int .i64 a] w fun e w'=>e = .returned (.bool true)/\Ext w w':=by
 have:=rIs h hw (a:Int)
 rw [show (cellsI S).contains (a:Int)=true by simpa using cellsI_mem.2 ⟨a,ha,rfl⟩] at this
 exact this
theorem fieldAt {r:Rd} {ch:Nat->List Nat} (h:RAt w r S) (hw:Hp.Wf S B L ch) (ha:a ∈ S.taken):SliceAt w (some ⟨r.gb,r.go+(a+4),none⟩) (r.wc-(a+4)) (Hp.fz (Hp.ow S.words) S.sizes a):=by
 have pa:=hw.part ha
 have hle:=h.words.le
 have hcap:=h.words.cap
 obtain ⟨b,o,e,hb,hc⟩:=h.words.cells (by omega)
 cases e
 refine ⟨by rw [Hp.fz_length];omega,by omega,fun x hx=>?_,fun _=>⟨r.gb,r.go+(a+4),rfl,hb,fun j x hx=>?_⟩⟩
 . have:=hw.fld_le ha x hx;omega
 have hj:=rd_lt hx
 rw [Hp.fz_length] at hj
 unfold Hp.rd Hp.fz at hx
 rw [Hp.cut_get hj] at hx
 cases hx
 have:=hc (a+4+j) _ (Hp.rd_ow (by omega))
 rw [Nat.add_assoc,Nat.add_assoc]
 rw [Nat.add_assoc] at this
 exact this
set_option maxHeartbeats 2000000 in
theorem rField {r:Rd} {ch:Nat->List Nat} (h:RAt w r S) (hw:Hp.Wf S B L ch) (ha:a ∈ S.taken) :
    Calls Tryz.prog 88 #[.pointer (some ⟨r.rb,0,none⟩),.int .i64 a] w fun e w'=>e = .returned (.slice (some ⟨r.gb,r.go+(a+4),none⟩) (Hp.fz (Hp.ow S.words) S.sizes a).length (r.wc-(a+4)))/\Ext w w':=by
  have pa:=hw.part ha;have hle:=h.words.le;have hcap:=h.words.cap;have LONG:=hZ (fun W (hW:Ext w W)=>rLong_cell (h.ext hW) hw.fr.toFr (a:=a) (by omega) (hw.cells.tags a ha));rw [Hp.fz_length];have c2:=h.c2;have hlt:=h.lt;have hhi:=hw.hi;clear h hw ha;generalize S.words.length=n at *;generalize hk:Hp.wz S.sizes (Hp.ow S.words a)=k at *;clear hk;have s1:IntKind.i64.wrap ((a:Int)+4)=(a:Int)+4:=IntWalk.i64_in _ (by omega);have s2:IntKind.i64.wrap ((a:Int)+(k:Int))=(a:Int)+(k:Int):=IntWalk.i64_in _ (by omega);have s3:(0:Int)<=(a:Int)+4:=by omega
  have s4:(a:Int)+4<=(a:Int)+(k:Int):=by omega
  have s5:(a:Int)+(k:Int)<=(r.wc:Int):=by omega
  have s6:((a:Int)+4).toNat=a+4:=by omega
  have s7:((a:Int)+(k:Int)).toNat=a+k:=by omega
  have s8:a+k-(a+4)=k-4:=by omega
  have cne:¬ r.wc=a+4:=by omega
  go_enter Tryz.func88,Tryz.ntmps88
  go_wp2_with fail
  have pr29a:=fun u_ (h_:Ext w u_)=>(h_.cell hlt 2).trans c2
  refine wp_region_seq (S:=fun W=>Ext w W) (R:=Ext) (by kernel_rfl) Ext.refl ?_ ?_
  . exact exx
  refine' tkL 0 ?_;refine' tkL 1 ?_;refine' tkL 2 ?_;refine' tkL 3 ?_;refine' tkL 4 ?_;refine' tkL 5 ?_;refine' tkL 6 ?_;refine' tkL 7 ?_;refine' tkL 8 ?_;refine' tkR 9 (v:=.int .i64 k) rfl (Or.inr ⟨by rfl,67,_, ?hx9_577, ?hy9_577⟩) ?rest9_577
  case hx9_577=>(intro w hSw;go_simp;try with_reducible rfl)
  case hy9_577=>exact fun w hE=>(LONG.out _ hE).mono (fun _ _ h=>⟨h.1,h.2,Ext.trans hE h.2⟩)
  refine layy ?_;refine' tkL 10 ?_;refine' tkL 11 ?_;refine' tkL 12 ?_;refine wpAnyR_done (by kernel_rfl) ?_ _;intro x1 _ Ex1;clear pr29a;go_wp2;go_returns;exact ⟨rfl,exx⟩
namespace Hp
def piecesOf (L:List Tl):List (Nat × Nat):=L.map fun t=>(t.a,t.k)
theorem Wf.pieces_from {ch:Nat->List Nat} (h:Wf S B L ch):∀ (P:List Tl) (m a:Nat),(∀ t ∈ P,t ∈ L)->Lay a P S.words.length->P.length < m->S.piecesFrom m a=some (piecesOf P)
 | _,0,_,_,_,hm=>by omega
 | [],m+1,a,_,hP,_=>by
  have e:a=S.words.length:=hP;unfold Hs.piecesFrom;rw [if_pos (by omega)];rfl
 | t :: P,m+1,a,hL,hP,hm=>by
  obtain ⟨e,hk,hP⟩:=hP;have ht:=hL t (by simp);have hle:=h.parts.lay.mem ht;have hok:=h.parts.ok t ht;have hhi:=h.hi;have ih:=Wf.pieces_from h P m (a+t.k) (fun u hu=>hL u (by simp [hu])) hP (by simpa using hm);unfold Hs.piecesFrom;rw [if_neg (by omega),rd_ow (by omega),tag_ow (by omega)];simp only [Option.bind_eq_bind,Option.bind_some];have key:(if ow S.words a=0 then adr (ow S.words (a+1)) else wide S.sizes (ow S.words a):Option Nat)=some t.k:=by
   cases hf:t.fr with
   | true=>
    obtain ⟨h1,h2,h3⟩:=hok.free hf;rw [e] at h1 h2;rw [if_pos h1,h2];simp [adr]
   | false=>
    obtain ⟨h1,h2⟩:=hok.cell hf;rw [e] at h1 h2;have hg:=okTag_le h.fr.toFr h1;rw [if_neg (by omega),(wz_ok h.fr.toFr h1).1,<- h2]
  rw [key];simp only [Option.bind_some];rw [if_neg (by omega),ih];simp only [Option.bind_some,piecesOf,List.map_cons,e]
theorem Wf.pieces_ {ch:Nat->List Nat} (h:Wf S B L ch):S.piecesFrom S.fuel 17=some (piecesOf L):=by
 have:=lay_len h.parts.lay
 exact h.pieces_from L S.fuel 17 (fun _ ht=>ht) h.parts.lay (by unfold Hs.fuel;omega)
def freeSum:List Tl->Nat
 | []=>0
 | t :: r=>(if t.fr then t.k else 0)+freeSum r
def freeMax:Nat->List Tl->Nat
 | m,[]=>m
 | m,t :: r=>freeMax (if t.fr then max m t.k else m) r
theorem Wf.sums_from {ch:Nat->List Nat} (h:Wf S B L ch):∀ (P:List Tl) (s m:Nat),(∀ t ∈ P,t ∈ L)->(piecesOf P).foldl (fun q x=>if S.tag x.1=some 0 then (q.1+x.2,max q.2 x.2) else q) (s,m)=(s+freeSum P,freeMax m P)
 | [],s,m,_=>rfl
 | t :: P,s,m,hL=>by
  have ht:=hL t (by simp);have hle:=h.parts.lay.mem ht;have hok:=h.parts.ok t ht;have ih:=fun s m=>Wf.sums_from h P s m fun u hu=>hL u (by simp [hu])
  simp only [piecesOf,List.map_cons,List.foldl_cons] at ih ⊢;rw [tag_ow (by omega)]
  cases hf:t.fr with
  | true=>
   rw [(hok.free hf).1,if_pos rfl,ih];simp only [freeSum,freeMax,hf,if_true,Nat.add_assoc]
  | false=>
   have hg:=okTag_le h.fr.toFr (hok.cell hf).1;rw [if_neg (by simp;omega),ih];simp only [freeSum,freeMax,hf,Bool.false_eq_true,if_false,Nat.zero_add]
theorem Wf.sums_ {ch:Nat->List Nat} (h:Wf S B L ch):S.gapSums (piecesOf L)=(freeSum L,freeMax 0 L):=by
 have:=h.sums_from L 0 0 fun _ ht=>ht
 rw [Nat.zero_add] at this
 exact this
theorem freeSum_of:∀ L:List Tl,freeSum L=((freeOf L).map Tl.k).sum
 | []=>rfl
 | t :: r=>by
  have ih:=freeSum_of r;unfold freeSum
  cases hf:t.fr with
  | true=>simp [freeOf,hf] at ih ⊢;omega
  | false=>simp [freeOf,hf] at ih ⊢;omega
theorem freeMax_of:∀ (m:Nat) (L:List Tl),freeMax m L=(freeOf L).foldl (fun m t=>max m t.k) m
 | _,[]=>rfl
 | m,t :: r=>by
  unfold freeMax;rw [freeMax_of]
  cases hf:t.fr with
  | true=>simp [freeOf,hf]
  | false=>simp [freeOf,hf]
theorem lay_sum {f:Nat->Int} {z:List Int}:∀ {s n:Nat} {L:List Tl},Lay s L n->(∀ t ∈ L,t.fr=false->t.k=wz z (f t.a))->s+widths f z (adsOf L)+freeSum L=n
 | s,n,[],h,_=>by
  have:s=n:=h;simp [adsOf,widths,freeSum,this]
 | s,n,t :: r,h,hk=>by
  obtain ⟨h1,h2,h3⟩:=h;have ih:=lay_sum h3 fun u hu=>hk u (by simp [hu])
  have e:adsOf (t :: r)=(if t.fr then [] else [t.a]) ++ adsOf r:=by
   cases hf:t.fr <;> simp [adsOf,hf]
  rw [e,widths_app];unfold freeSum
  cases hf:t.fr with
  | true=>
   simp only [if_true,widths];omega
  | false=>
   have:=hk t (by simp) hf;simp only [Bool.false_eq_true,if_false,widths];omega
theorem Wf.all_ {ch:Nat->List Nat} (h:Wf S B L ch):17+widths (ow S.words) S.sizes S.taken+freeSum L=S.words.length:=by
 rw [h.taken]
 exact lay_sum h.parts.lay fun t ht hf=>((h.parts.ok t ht).cell hf).2
end Hp
namespace Hp
def OneFree (L:List Tl):Prop:=(freeOf L).length<=1
theorem one_free (h:OneFree L):(freeOf L=[]/\freeSum L=0/\freeMax 0 L=0) \/ ∃ t ∈ L,t.fr=true/\freeOf L=[t]/\freeSum L=t.k/\freeMax 0 L=t.k:=by
 rw [freeSum_of,freeMax_of]
 unfold OneFree at h
 match hF:freeOf L,h with
 | [],_=>exact .inl ⟨rfl,rfl,rfl⟩
 | [t],_=>
  right;have ht:t ∈ freeOf L:=by rw [hF];simp
  obtain ⟨h1,h2⟩:=mem_freeOf.1 ht;exact ⟨t,h1,h2,rfl,by simp,by simp⟩
 | _ :: _ :: _,h=>simp at h
theorem live_le {ch:Nat->List Nat} (h:Wf S B L ch):∃ T,S.live=some T/\T.length<=S.taken.length:=by
 obtain ⟨T,hT,t1,t2,_⟩:=h.live_
 exact ⟨T,hT,nodup_len (up_nodup t1) t2⟩
theorem insert_len {x:Nat}:∀ {l:List Nat},x ∉ l->(Hs.insert x l).length=l.length+1
 | [],_=>rfl
 | y :: r,h=>by
  have h1:x ≠ y:=fun e=>h (by simp [e])
  have h2:x ∉ r:=fun e=>h (by simp [e])
  unfold Hs.insert
  split
  . simp
  simp [h1,insert_len h2]
end Hp
namespace Hp
end Hp
namespace Hp
open Nd
theorem add_one {ch:Nat->List Nat} (h:Wf S B L ch) (h1:OneFree L) (hn:New S t fs) :
    (∃ a ∈ S.taken,ow S.words a=t/\fz (ow S.words) S.sizes a=fs/\S.add t fs=some (a,S)) \/
    (∀ a ∈ S.taken,¬ (ow S.words a=t/\fz (ow S.words) S.sizes a=fs)) /\
     (((freeSum L ≠ wz S.sizes t/\freeSum L < wz S.sizes t+3)/\S.add t fs=some (0,S)) \/
      ∃ a S' L' ch',S.add t fs=some (a,S')/\17<=a/\Put S S' t fs a/\Wf S' B L' ch'/\OneFree L'/\freeSum L'+wz S.sizes t=freeSum L):=by
  have hw:=wz_ok h.fr.toFr hn.tag
  rcases add_wf h hn with ⟨a,ha,q1,q2,e⟩ | ⟨hno1,⟨hno,e⟩ | ⟨P,u,Q,S',hL,hP,hu,hfit,e,hp,hw'⟩⟩
  . exact .inl ⟨a,ha,q1,q2,e⟩
  . refine .inr ⟨hno1,.inl ⟨?_,e⟩⟩
    rcases one_free h1 with ⟨_,k1,_⟩ | ⟨t',ht,hf,_,k1,_⟩
    . omega
    have:=hno t' ht hf;unfold Fits at this;omega
  refine .inr ⟨hno1,.inr ?_⟩;generalize wz S.sizes t=k at *;have hul:u ∈ L:=by rw [hL];simp
  have hle:=h.parts.lay.mem hul;have hfo:freeOf L=freeOf P ++ u :: freeOf Q:=by rw [hL];simp [freeOf,hu]
  unfold OneFree at h1;rw [hfo] at h1;simp only [List.length_append,List.length_cons] at h1;have hP0:freeOf P=[]:=List.length_eq_zero_iff.1 (by omega);have hQ0:freeOf Q=[]:=List.length_eq_zero_iff.1 (by omega);have hsum:freeSum L=u.k:=by rw [freeSum_of,hfo,hP0,hQ0];simp
  have hfit':u.k=k \/ k+3<=u.k:=hfit;have hfr:freeOf (P ++ ⟨u.a,k,false⟩ :: ((if u.k=k then [] else [⟨u.a+k,u.k-k,true⟩]) ++ Q))=freeOf P ++ (freeOf (if u.k=k then [] else [⟨u.a+k,u.k-k,true⟩]) ++ freeOf Q):=by simp [freeOf]
  refine ⟨u.a,S',_,_,e,by omega,hp,hw', ?_, ?_⟩
  . unfold OneFree;rw [hfr,hP0,hQ0]
    split <;> simp [freeOf]
  rw [freeSum_of,hfr,hP0,hQ0,hsum]
  split
  . simp [freeOf];omega
  simp [freeOf];omega
end Hp
namespace Nd
open Hp
namespace Dia
def rk (d:Dia) (k:Int):Int:=if k < 0 then d.order.length else index d.order (d.nodeAt k.toNat).1
structure Loose (d:Dia):Prop where
 fr:FrOk d.sizes d.order
 ends:∀ v ∈ d.ends,0<=v.1/\v.1<=4/\(0 < v.1->v.2=0) /\ -9999<=v.2/\v.2<=9999
 var:∀ q ∈ d.nodes,0<=q.1/\q.1 < d.sizes.length/\q.2.length=(d.sizes.getD q.1.toNat 0).toNat
 kids:∀ i,i < d.nodes.length -> ∀ k ∈ (d.nodeAt i).2,d.Ref k i/\index d.order (d.nodeAt i).1 < d.rk k
 root:d.Ref d.root d.nodes.length
theorem Loose.low {d:Dia} (h:d.Loose):d.Low:=fun i hi k hk=>(h.kids i hi k hk).1
end Dia
def ad (A N:List Nat) (k:Int):Nat:=if k < 0 then A.getD (-1-k).toNat 0 else N.getD k.toNat 0
def toA (A N:List Int) (k:Int):Int:=if k < 0 then A.getD (-1-k).toNat 0 else N.getD k.toNat 0
def putE:Hs->List (Int × Int)->List Int->Option (Int × List Int × Hs)
 | S,[],A=>some (0,A,S)
 | S,v :: r,A=>do
  let (a,e,S) <- S.end' v.1 v.2
  if e ≠ 0 then some (e,A,S) else putE S r (A ++ [a])
def putN (A:List Int):Hs->List (Int × List Int)->List Int->Option (Int × List Int × Hs)
 | S,[],N=>some (0,N,S)
 | S,q :: r,N=>do
  let (a,e,S) <- S.make q.1 (q.2.map (toA A N))
  if e ≠ 0 then some (e,N,S) else putN A S r (N ++ [a])
def put (d:Dia) (S:Hs):Option (Int × Int × Hs):=do
 let (e,A,S) <- putE S d.ends []
 if e ≠ 0 then some (0,e,S) else
 let (e,N,S) <- putN A S d.nodes []
 if e ≠ 0 then some (0,e,S) else some (toA A N d.root,0,S)
structure PutAt (d:Dia) (S:Hs) (A N:List Nat):Prop where
 sizes:S.sizes=d.sizes
 order:S.order=d.order
 al:A.length<=d.ends.length
 nl:N.length<=d.nodes.length
 all':N=[] \/ A.length=d.ends.length
 ends:∀ i a,A[i]? = some a->a ∈ S.taken/\ow S.words a=20+(d.endAt i).1/\ow S.words (a+4)=(d.endAt i).2
 nodes:∀ i a,N[i]? = some a->a ∈ S.taken/\ow S.words a=(d.nodeAt i).1+1/\fz (ow S.words) S.sizes a=(d.nodeAt i).2.map fun k=>(ad A N k:Int)
structure PutIn (d:Dia) (B n:Nat) (S:Hs) (A N:List Nat):Prop extends PutAt d S A N where
 wf:∃ L ch,Wf S B L ch/\OneFree L/\n<=freeSum L+16 * (A.length+N.length)
 all:∀ a ∈ S.taken,a ∈ A \/ a ∈ N
 many:S.taken.length=A.length+N.length
section
variable {d:Dia}
theorem endAt_mem (h:i < d.ends.length):d.endAt i ∈ d.ends/\d.ends[i]? = some (d.endAt i):=by
 unfold Dia.endAt
 rw [List.getElem?_eq_getElem h]
 exact ⟨List.getElem_mem h,rfl⟩
theorem nodeAt_mem (h:i < d.nodes.length):d.nodeAt i ∈ d.nodes/\d.nodes[i]? = some (d.nodeAt i):=by
 unfold Dia.nodeAt
 rw [List.getElem?_eq_getElem h]
 exact ⟨List.getElem_mem h,rfl⟩
theorem getD_of (h:i < A.length):A[i]? = some (A.getD i 0):=by
 rw [List.getD_eq_getElem?_getD,List.getElem?_eq_getElem h];rfl
theorem PutAt.end_ (P:PutAt d S A N) {k:Int} (hk:k < 0) (h : -1-k < A.length):A[(-1-k).toNat]? = some (ad A N k):=by
 unfold ad
 rw [if_pos hk]
 exact getD_of (by omega)
theorem PutAt.node_ (P:PutAt d S A N) {k:Int} (hk:¬ k < 0) (h:k < N.length):N[k.toNat]? = some (ad A N k):=by
 unfold ad
 rw [if_neg hk]
 exact getD_of (by omega)
theorem isEnd_end (hL:d.Loose) (h:i < d.ends.length):isEnd (20+(d.endAt i).1)=true:=by
 have:=hL.ends _ (endAt_mem h).1
 exact isEnd_of this.1 this.2.1
theorem small (h:FrOk z o):z.length<=6:=h.toFr.few
theorem isEnd_node (hL:d.Loose) (h:i < d.nodes.length):isEnd ((d.nodeAt i).1+1)=false:=by
 have h1:=hL.var _ (nodeAt_mem h).1
 have h2:=small hL.fr
 simp [isEnd,within]
 omega
theorem map_inj_on {α β:Type} {f:α->β}:∀ {l l':List α},(∀ x ∈ l,∀ y ∈ l',f x=f y->x=y)->l.map f=l'.map f->l=l'
 | [],[],_,_=>rfl
 | [],_ :: _,_,h=>by simp at h
 | _ :: _,[],_,h=>by simp at h
 | x :: l,y :: l',hi,h=>by
  simp only [List.map_cons,List.cons.injEq] at h;rw [hi x (by simp) y (by simp) h.1,map_inj_on (fun a ha b hb=>hi a (by simp [ha]) b (by simp [hb])) h.2]
theorem PutAt.inj (P:PutAt d S A N) (hL:d.Loose) (O:Once d) (hA:A.length=d.ends.length):∀ (n:Nat) (k k':Int),k < n->k < N.length->k' < N.length -> -1-k < d.ends.length -> -1-k' < d.ends.length->ad A N k=ad A N k'->k=k'
 | 0,k,k',h0,h1,h2,h3,h4,e=>by
  have hk:k < 0:=by omega
  have q1:=P.ends _ _ (P.end_ hk (by omega));have he:=isEnd_end hL (i:=(-1-k).toNat) (by omega)
  by_cases hk':k' < 0
  . have q2:=P.ends _ _ (P.end_ hk' (by omega));rw [<- e] at q2;have:d.endAt (-1-k).toNat=d.endAt (-1-k').toNat:=by
     apply Prod.ext
     . have:=q1.2.1;have:=q2.2.1;omega
     rw [<- q1.2.2,<- q2.2.2]
    have:=nodup_inj O.ends (endAt_mem (d:=d) (i:=(-1-k).toNat) (by omega)).2 (this ▸ (endAt_mem (d:=d) (i:=(-1-k').toNat) (by omega)).2);omega
  have q2:=P.nodes _ _ (P.node_ hk' h2);have hn:=isEnd_node hL (i:=k'.toNat) (by have:=P.nl;omega);rw [<- e,q1.2.1] at q2;rw [<- q2.2.1,he] at hn
  cases hn
 | n+1,k,k',h0,h1,h2,h3,h4,e=>by
  by_cases hk:k < 0
  . exact PutAt.inj P hL O hA 0 k k' (by omega) h1 h2 h3 h4 e
  have q1:=P.nodes _ _ (P.node_ hk h1);have hn:=isEnd_node hL (i:=k.toNat) (by have:=P.nl;omega)
  by_cases hk':k' < 0
  . have q2:=P.ends _ _ (P.end_ hk' (by omega));have he:=isEnd_end hL (i:=(-1-k').toNat) (by omega);rw [<- e,q1.2.1] at q2;rw [<- q2.2.1,hn] at he
    cases he
  have q2:=P.nodes _ _ (P.node_ hk' h2);rw [<- e] at q2;have hkn:k.toNat < d.nodes.length:=by have:=P.nl;omega
  have hkn':k'.toNat < d.nodes.length:=by have:=P.nl;omega
  have hkids:(d.nodeAt k.toNat).2=(d.nodeAt k'.toNat).2:=by
   have hmap:=q1.2.2.symm.trans q2.2.2;refine map_inj_on (f:=fun k=>(ad A N k:Int)) ?_ hmap;intro x hx y hy exy;have r1:=hL.kids _ hkn x hx;have r2:=hL.kids _ hkn' y hy;exact PutAt.inj P hL O hA n x y (by have:=r1.1.1;omega) (by have:=r1.1.1;omega) (by have:=r2.1.1;omega) r1.1.2 r2.1.2 (by exact Int.ofNat.inj exy)
  have:d.nodeAt k.toNat=d.nodeAt k'.toNat:=Prod.ext (by have:=q1.2.1;have:=q2.2.1;omega) hkids;have:=nodup_inj O.nodes (nodeAt_mem hkn).2 (this ▸ (nodeAt_mem hkn').2);omega
end
end Nd
end Go.Proofs.YtdokmmhjmclmnaaGreat
