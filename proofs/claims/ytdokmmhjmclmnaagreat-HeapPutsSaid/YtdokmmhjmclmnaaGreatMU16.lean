/- Part 16 of a proof. -/
import Derived.Test.YtdokmmhjmclmnaaGreatMU12
import Derived.Test.YtdokmmhjmclmnaaGreatMU15
set_option linter.unusedSimpArgs false
set_option linter.unusedVariables false
set_option linter.unusedSectionVars false
set_option linter.unnecessarySimpa false
set_option maxHeartbeats 8000000
set_option maxRecDepth 100000
namespace Go.Proofs.YtdokmmhjmclmnaaGreat
open Go.Proofs.Tryz
variable {W' w w' w0 wb:World} {B a b bx c ca cap ce cn f g i j k lb m n qc:Nat} {choice e t x:Int} {A W fs ks l o z:List Int} {D T Y:List Nat} {p p2 pa pe pn q:Option Addr} {d:Hd} {S S':Hp.Hs} {L:List Hp.Tl} {M:List (Nat × Int)} {s:Hp.Sc}
open Go.RowKit Go.Maps Go.Sort Go.Shelf
theorem S1a {P:Program} (w:World) {ops:Array Oper} {rest:List Oper} {o:Oper} {a:Act} {Q:Exit->Act->World->Prop} (hg:o.guard=none) (it:Operand) (hop:o.op=Op.next it false)
    (hk:P.underlying 3=some (.int .i64)) (he:P.underlying 4=some .bool) (b r n:Nat) (T:List Nat) (left:Lit->Bool) (cnt:Nat) (hit:a.eval it = .pointer (some ⟨r,0,none⟩))
    (h:w.ranges P 3 (plainElem (H:=Unit) P 4) b r n (mapOf T) left cnt)
    (hDone:(∀ kl,left kl=false)->wpList P ops Q rest (a.put o.dst (.tuple #[.bool false])) w)
    (hMore:∀ (x:Nat) (c:Value) (w':World) (cnt':Nat),x ∈ T->left (.int .i64 x)=true->w'.ranges P 3 (plainElem (H:=Unit) P 4) b r n (mapOf T) (fun z=>left z && !z.sameKey (.int .i64 x)) cnt'->cnt' < cnt ->
     But [r] w w'->(Instr.entry (.pointer (some ⟨r,0,none⟩))).run P w' = .ok (.tuple #[.int .i64 x,c]) w'->wpList P ops Q rest (a.put o.dst (.tuple #[.bool true,.int .i64 x,c])) w') :
    wpList P ops Q (o :: rest) a w:=by
  refine wpList_next_ranges w hg it hop 3 (int_keyed hk) (plainElem (H:=Unit) P 4) (Value.int .i64) Value.bool (fun key kl hkey=>by obtain ⟨x,rfl,_⟩:=Maps.keyOf_int_inv hk hkey;exact ⟨x,rfl⟩)
   (fun v y hv=>by
    unfold plainElem at hv;rw [he] at hv
    cases v <;> simp at hv
    exact ⟨_,rfl⟩) b r n _ left cnt hit h (fun _ hl=>hDone hl) ?_
  intro x c kl y w' cnt' hkey hl hv hat hrg hlt hgr _ hen;obtain ⟨x',ex,rfl,_⟩:=Maps.keyOf_int_inv hk hkey
  cases ex
  have hy:y=(.lit (.bool c),[]):=by
   unfold plainElem at hv;rw [he] at hv
   simpa using hv.symm
  subst hy;have hin:H9a T (.int .i64 x)=true:=by
   cases hh:H9a T (.int .i64 x) with
   | true=>rfl
   | false=>
    have:=hat (.map []);rw [P3a hh] at this
    cases this
  obtain ⟨m,hm,e⟩:=(H1a T _).1 hin
  cases e
  exact hMore m (.bool c) w' cnt' hm hl hrg hlt (g4a hgr) hen
structure O2a (T D:List Nat) (left:Lit->Bool):Prop where
 nd:D.Nodup
 sub:∀ x ∈ D,x ∈ T
 all:∀ x ∈ T,left (.int .i64 (x:Int))=false->x ∈ D
 out:∀ x ∈ D,left (.int .i64 (x:Int))=false
theorem O2a.nil (T:List Nat):O2a T [] (Maps.has (mapOf T)) where
 nd:=List.Pairwise.nil
 sub:=by simp
 all x hx h:=by
  rw [L2a,K6a] at h;have:T.contains x=true:=by simpa using hx
  rw [this] at h
  cases h
 out:=by simp
theorem O2a.step {left:Lit->Bool} {x:Nat} (h:O2a T D left) (hx:x ∈ T) (hl:left (.int .i64 (x:Int))=true):O2a T (D ++ [x]) (fun z=>left z && !z.sameKey (.int .i64 x)):=by
 have hn:x ∉ D:=fun hm=>by
  have:=h.out x hm;rw [hl] at this
  cases this
 refine ⟨y8b.2 ⟨h.nd,by simp,fun a ha b hb e=>?_⟩,fun y hy=>?_,fun y hy hh=>?_,fun y hy=>?_⟩
 . have:b=x:=by simpa using hb
   subst this e;exact hn ha
 . rcases C4c.1 hy with hy | hy
   . exact h.sub y hy
   have:y=x:=by simpa using hy
   subst this;exact hx
 . rcases c3a hh with h1 | rfl
   . simp [h.all y hy h1]
   simp
 rcases C4c.1 hy with hy | hy
 . show (left (.int .i64 (y:Int)) && _)=false;rw [h.out y hy];rfl
 have:y=x:=by simpa using hy
 subst this
 show (left (.int .i64 (y:Int)) && !(Lit.int .i64 (y:Int)).sameKey (.int .i64 y))=false
 simp [Lit.sameKey]
theorem O2a.perm {left:Lit->Bool} (h:O2a T D left) (hT:T.Nodup) (hl:∀ kl,left kl=false):D.Perm T:=by
 rw [List.perm_ext_iff_of_nodup h.nd hT]
 exact fun x=>⟨h.sub x,fun hx=>h.all x hx (hl _)⟩
theorem Hp.Wf.l4b {ch:Nat->List Nat} (h:Hp.Wf S B L ch) (a:Nat):Hp.cnt (Hp.ow S.words) S.sizes a S.taken<=100000:=by
 have h1:=Hp.cnt_le (f:=Hp.ow S.words) (z:=S.sizes) a S.taken
 have h3:=h.Q4a
 have h4:=h.hi
 omega
theorem V3b {f:Nat->Int} {z:List Int} {a:Nat}:∀ {D T:List Nat},D.Nodup->(∀ x ∈ D,x ∈ T)->Hp.cnt f z a D<=Hp.cnt f z a T
 | [],_,_,_=>G9c _
 | b :: D,T,hd,hs=>by
  obtain ⟨d1,d2⟩:=C2c.1 hd;have hb:=hs b (by simp);have h1:=V3b (f:=f) (z:=z) (a:=a) (D:=D) (T:=T.erase b) d2 fun x hx=>(t9b (by rintro rfl;exact d1 hx)).2 (hs x (by simp [hx]))
  have h2:=Hp.g0a (f:=f) (z:=z) (a:=a) (List.perm_cons_erase hb);rw [h2];show (Hp.kz f z b).count (a:Int)+Hp.cnt f z a D<=(Hp.kz f z b).count (a:Int)+Hp.cnt f z a (T.erase b);omega
def a2b (w W:World) (T:List Nat) (e:Ending) (w':World):Prop:=∃ p c ss,e = .returned (.slice p ss.length c)/\ss.Perm (D5a T)/\SliceAt w' p c ss/\Ext W w'
theorem p9a (h:MapAt prog w g T) (hT:∀ x ∈ T,x < 1000000) :
    Calls prog 129 #[.func (.func 171) #[] #[.pointer (some ⟨w.heap.size,0,none⟩)]] (w.alloc (.cells #[.map (some g)] 102)) (a2b w (w.alloc (.cells #[.map (some g)] 102)) T):=by
  have hbl:=h.lt;have hlen:=V3a h.sorted hT;have hown:=h.owns
  have hseq:SeqGives Fence.wide 3 prog 171 #[.pointer (some ⟨w.heap.size,0,none⟩)] encZ (fun ss=>ss.Perm (intKeys (mapOf T))) (Maps.size (mapOf T)) (w.alloc (.cells #[.map (some g)] 102)):=
   AnyZI.keys_gives (ρ:=Tryz.keysB_ren) { Tryz.keysB with } Fence.wide _ trivial rfl (by omega) w.heap.size g T.length (mapOf T) _ (by simp) (by simp) (hown.alloc _)
  have cS:=AnyZI.collect_in (ρ:=Tryz.sortedA_ren) { Tryz.sortedA with } Fence.wide 5 trivial trivial rfl (by omega) 171 #[.pointer (some ⟨w.heap.size,0,none⟩)] trivial (enters_of func171 (by kernel_rfl) rfl) _ _ (by rw [M8a];unfold maxLen;omega) (by rw [M8a];omega) _ hseq;refine (callsIn_wide.1 cS).mono ?_;rintro e w' ⟨v,ss,rfl,hS,hrow,hnil,hb⟩;rw [a8a] at hS;have hl:ss.length=T.length:=by rw [hS.length_eq,E9a]
  have hbd:∀ x ∈ ss,-9223372036854775808<=x/\x<=9223372036854775807:=by
   intro x hx;obtain ⟨y,hy,rfl⟩:=F7c.1 (hS.mem_iff.1 hx);have:=hT y hy;omega
  rcases hrow.2 with ⟨rfl,hz⟩ | ⟨gb,cap,cur,rfl,hbase,hgb,r1,r2,r3,r4⟩
  . have:ss=[]:=p8b hz;subst this;exact ⟨none,0,[],rfl,hS,⟨by simp,by omega,by simp,fun h=>by simp at h⟩,hb⟩
  refine ⟨some ⟨gb,0,none⟩,cap,ss,rfl,hS,⟨by omega,by unfold maxLen at *;omega,hbd,fun h0=>⟨gb,0,rfl,(q4b.1 hgb).1,fun j x hj=>?_⟩⟩,hb⟩;have hj2:(ss.map encZ)[j]? = some (.int .i64 x):=by
   unfold Hp.rd at hj;simp [hj,encZ]
  have:=hrow.cells (g:=gb) rfl j _ hj2;rw [G8c] at this
  simpa using this
def N4a (S:Hp.Hs) (D:List Nat) (part:List Int) (M:List (Nat × Int)):Prop:=∀ y:Nat,(getI y M).getD 0=((Hp.cnt (Hp.ow S.words) S.sizes y D+part.count (y:Int):Nat):Int)
theorem N4a.put {part:List Int} (h:N4a S D part M) (hu:J6a M):N4a S D (part ++ [(b:Int)]) (putI b ((getI b M).getD 0+1) M):=fun y=>by
 rw [M4a hu,z3b]
 by_cases e:y=b
 . subst e;rw [H5c rfl,B6c,h y];simp;omega
 rw [H4c e,h y]
 have:List.count (y:Int) [(b:Int)]=0:=by
  rw [w5b];simp;omega
 rw [this]
 rfl
theorem b8b (h:J6a M) (hb:∀ q ∈ M,q.1 < n):M.length<=n:=by
 have h1:(M.map fun q=>q.1).Pairwise (· < ·):=by
  rw [y9b];exact h
 have:=V3a (n:=n) h1 (fun a ha=>by
  obtain ⟨q,hq,rfl⟩:=F7c.1 ha;exact hb q hq)
 simpa using this
theorem B3b {v:Value} {G:List Int} {ch:Nat->List Nat} (h:LdAt w0 w lb d S v p k G) (hw:Hp.Wf S B L ch) :
    Calls prog 64 #[.pointer (some ⟨lb,0,none⟩)] w (Rt w (.bool true)):=by
  have H:=hZ h;have HW:=hZ hw;have hhi:=hw.hi;have z1:=h.toHAt.D1a;have zl:=h.lt1;clear h hw;have hmm:=@run_makeMap prog;go_enter func64,ntmps64;go_upto_region 2 with (fail)
  have E0:Ext w (((w.alloc (.cells #[.pointer (some ⟨lb,0,none⟩)] 107)).alloc (.map #[] 0)).alloc (.cells #[.map (some (w.heap.size+1))] 119)):=exx;have x1:(((w.alloc (.cells #[.pointer (some ⟨lb,0,none⟩)] 107)).alloc (.map #[] 0)).alloc (.cells #[.map (some (w.heap.size+1))] 119)).cell? ⟨w.heap.size,0,none⟩=some (.pointer (some ⟨lb,0,none⟩)):=by go_simp
  have x3:(((w.alloc (.cells #[.pointer (some ⟨lb,0,none⟩)] 107)).alloc (.map #[] 0)).alloc (.cells #[.map (some (w.heap.size+1))] 119)).cell? ⟨w.heap.size+1+1,0,none⟩=some (.map (some (w.heap.size+1))):=by go_simp
  have sz:(((w.alloc (.cells #[.pointer (some ⟨lb,0,none⟩)] 107)).alloc (.map #[] 0)).alloc (.cells #[.map (some (w.heap.size+1))] 119)).heap.size=w.heap.size+3:=by simp
  have MI0:G4a prog (((w.alloc (.cells #[.pointer (some ⟨lb,0,none⟩)] 107)).alloc (.map #[] 0)).alloc (.cells #[.map (some (w.heap.size+1))] 119)) (w.heap.size+1) []:=by
   have:=(G4a.made (P:=prog) (w.alloc (.cells #[.pointer (some ⟨lb,0,none⟩)] 107))).ext (Ext.alloc (Ext.refl _) (.cells #[.map (some (w.heap.size+1))] 119))
   simpa using this
  generalize ((w.alloc (.cells #[.pointer (some ⟨lb,0,none⟩)] 107)).alloc (.map #[] 0)).alloc (.cells #[.map (some (w.heap.size+1))] 119)=wc at *;have N0:=hZ (H.out.ext E0);have h0:=N0.out.h0;have c3:=N0.out.c3;have ownd:=N0.out.map.owns
  go_wp2_with (at_range;refine wpList_range_own _ rfl _ 102 rfl 3 4 (int_keyed underlying3) underlying102 _ d.gm _ _ rfl ownd ?_;intro w1 hrg0 hg0 hs0;go_frame)
  have E1:Ext wc w1:=⟨hg0.os,hg0.tape,hg0.output,hg0.size,fun k hk=>hg0.block k hk (by simp)⟩
  have E01:=hZ (E0.trans E1);have MI1:=hZ (MI0.ext E1);have RG:=hZ hrg0;have y1:=(E1.cell (b:=w.heap.size) (by omega) 0).trans x1;have y3:=(E1.cell (b:=w.heap.size+1+1) (by omega) 0).trans x3;have Y:=hZ (And.intro y1 y3);have sz1:wc.heap.size < w1.heap.size:=by omega
  rw [sz] at sz1 RG ⊢;clear hrg0 ownd c3 h0 hg0 hs0 E1 E0 MI0 x1 x3 y1 y3 N0 sz;generalize hrr:w.heap.size+3=rr at RG sz1 ⊢
  go_loopg [4] (Maps.size (mapOf S.taken)) (fun g _ wr=>∃ (left:Lit->Bool) (cnt:Nat) (D:List Nat) (M:List (Nat × Int)),cnt<=g/\Hid (wr.ranges prog 3 (plainElem (H:=Unit) prog 4) d.gm rr S.taken.length (mapOf S.taken) left cnt)/\Hid (G4a prog wr (w.heap.size+1) M)/\Hid (Ext w wr)/\Hid (wr.cell? ⟨w.heap.size,0,none⟩=some (.pointer (some ⟨lb,0,none⟩))/\wr.cell? ⟨w.heap.size+1+1,0,none⟩=some (.map (some (w.heap.size+1))))/\Hid (N4a S D [] M)/\Hid (∀ q ∈ M,q.1 < S.words.length)/\Aside (O2a S.taken D left))
  case atStart=>exact ⟨_,_,[],[],H0c _,RG,MI1,E01,Y,hZ (fun y=>by simp [getI,Hp.cnt]),hZ (by simp),O2a.nil _⟩
  case round=>
   obtain ⟨left,cnt,D,M,hg,RR,MM,EE,YY,CA,KB,SI⟩:=hrel;clear RG MI1 E01 Y
   go_wp2_with (at_next;refine S1a _ rfl _ rfl underlying3 underlying4 d.gm rr _ S.taken left cnt rfl RR.out ?_ ?_)
   . intro hl;have hperm:=SI.out.perm (Hp.K7a HW.out.up) hl;have hca:∀ y:Nat,(getI y M).getD 0=((Hp.cnt (Hp.ow S.words) S.sizes y S.taken:Nat):Int):=fun y=>by
      rw [CA.out y,Hp.g0a hperm];simp
     have N:=hZ (H.out.ext EE.out);have h0:=N.out.h0;have c3:=N.out.c3;obtain ⟨y1,y3⟩:=YY.out;have KEYS:=hZ (fun W=>n6a d.gm W);have hlt6:∀ x ∈ S.taken,x < 1000000:=fun x hx=>by have:=HW.out.part hx;omega
     have COLL:=hZ (p9a N.out.map hlt6);have HCA:=hZ hca;clear hca hperm hlt6
     go_wp2_with (first
      | (go_at_call 130;refine (KEYS.out _).mono ?_;rintro e w5 ⟨rfl,rfl⟩)
      | (go_at_call 129;refine COLL.out.mono ?_;rintro e w6 ⟨p6,c6,ss,rfl,hP6,hS6,hE6⟩))
     have EX6:Ext wr w6:=Ext.trans (exx) hE6;have N6:=hZ (N.out.ext EX6);have SAYS:X9a w6 131 #[] #[.pointer (some ⟨w.heap.size,0,none⟩),.pointer (some ⟨w.heap.size+1+1,0,none⟩)] ss (fun _=>true):=fun j x hx _ W hW=>by
      obtain ⟨a,ha,rfl⟩:=F7c.1 (hP6.mem_iff.1 (u1b hx));have pa:=HW.out.part ha;have zz1:=cell_lt y1;have zz3:=cell_lt y3;have EXW:=EX6.trans hW;have hc:=w0a (a:=a) (N6.out.ext hW) (EXW.q y1) (EXW.q y3) (MM.out.ext EXW) (by omega);have hu:=HW.out.uses a ha;have hh:=HW.out.holds a ha;have e1:Hp.W6b S.words M (a:Int)=true:=by
       unfold Hp.W6b;rw [z5b,Hp.F7a (by omega),Hp.F7a (by omega)];simp only [B8c,beq_iff_eq,A1c];rw [HCA.out a,hu];exact ⟨rfl,hh.1⟩
      rw [e1] at hc
      simpa using hc
     have EV:=hZ (I0a (b:=true) (enters_of func131 (by kernel_rfl) rfl) hS6 SAYS (by simp));have EEX:=hZ (EE.out.trans EX6);clear SAYS hS6 hP6 EX6;refine EV.out.mono ?_;rintro e w7 ⟨rfl,hE7⟩
     go_wp2_with fail
     go_returns;exact ⟨rfl,EEX.out.trans hE7⟩
   intro x c w' cnt' hx hlx hrg' hlt hbut hen;have hbx:But [rr] wr w':=hbut;have E2:=hZ (But.D3a EE.out hbut (by simp;omega));have N:=hZ (H.out.ext E2.out);have h0:=N.out.h0;obtain ⟨y1,y3⟩:=YY.out;have y1':=(hbut.cell (cell_lt y1) (by simp;omega) 0).trans y1;have y3':=(hbut.cell (cell_lt y3) (by simp;omega) 0).trans y3;have M2:=hZ (MM.out.but hbut (by simp;omega));have Y2:=hZ (And.intro y1' y3');have RN:=hZ hrg';have px:=HW.out.part hx;have S2:=SI.out.step hx hlx;have S2H:=hZ S2;obtain ⟨ks,hks⟩:∃ ks,Hp.kz (Hp.ow S.words) S.sizes x=ks:=⟨_,rfl⟩
   obtain ⟨t,ht⟩:∃ t,Hp.ow S.words x=t:=⟨_,rfl⟩
   have ktag:=HW.out.tag_ hx;rw [ht] at ktag;have kkids:=HW.out.U1b hx;rw [hks] at kkids;have KIDS:=hZ (fun W (hW:Ext w W)=>V5a (H.out.ext hW).toHAt ktag kkids);have KAT:=hZ (fun W (hW:Ext w W)=>r9a (H.out.ext hW).toHAt ktag kkids);have kl:=Hp.u7a (f:=Hp.ow S.words) (z:=S.sizes) (a:=x);rw [hks] at kl;have kl12:ks.length<=12:=by omega
   have KN:∀ j y,Hp.rd ks j=some y -> ∃ b:Nat,y=b/\b ∈ S.taken:=fun j y hy=>by
    rw [<- hks] at hy;obtain ⟨b,hb,e,_⟩:=HW.out.cells.kids x hx y (u1b hy);exact ⟨b,e,hb⟩
   have KNH:=hZ KN;have HKS:=hZ hks;obtain ⟨pk,hpk⟩:∃ pk,kp d x t=pk:=⟨_,rfl⟩
   rw [hpk] at KIDS KAT;clear hrg' hbut hx hlx S2 px ktag kkids hks ht kl KN y1 y3 YY EE RR MM SI hpk hmm;have CB:Hid (∀ y,Hp.cnt (Hp.ow S.words) S.sizes y D<=100000):=hZ (fun y=>by
    have h1:=V3b (f:=Hp.ow S.words) (z:=S.sizes) (a:=y) (D:=D) (T:=S.taken) (by
     have:=S2H.out.nd;exact (y8b.1 this).1) (fun q hq=>S2H.out.sub q (by simp [hq]))
    have h2:=HW.out.l4b y;omega)
   go_wp2_with (go_at_call 80;refine (KIDS.out _ E2.out).mono ?_;rintro e w5 ⟨rfl,hE5⟩)
   have RN5:=hZ (H3a RN.out (hE5.block _ (by have:=RN.out.lt;have:=N.out.map.lt;omega)) (hE5.block _ RN.out.lt));have M5:=hZ (M2.out.ext hE5);have E5:=hZ (E2.out.trans hE5);have Y5:=hZ (And.intro (hE5.q Y2.out.1) (hE5.q Y2.out.2))
   go_loopg [27] ks.length (fun g i wx=>∃ (j:Nat) (M':List (Nat × Int)),j<=ks.length/\ks.length-j<=g/\i = .int .i64 j/\Hid (wx.ranges prog 3 (plainElem (H:=Unit) prog 4) d.gm rr S.taken.length (mapOf S.taken) (fun z=>left z && !z.sameKey (.int .i64 x)) cnt')/\Hid (G4a prog wx (w.heap.size+1) M')/\Hid (Ext w wx)/\Hid (wx.cell? ⟨w.heap.size,0,none⟩=some (.pointer (some ⟨lb,0,none⟩))/\wx.cell? ⟨w.heap.size+1+1,0,none⟩=some (.map (some (w.heap.size+1))))/\Hid (N4a S D (ks.take j) M')/\Hid (∀ q ∈ M',q.1 < S.words.length))
   case atStart=>exact ⟨0,M,G9c _,by omega,rfl,RN5,M5,E5,Y5,hZ (by simpa using CA.out),KB⟩
   case round=>
    obtain ⟨j,M',hj,hg2,rfl,R6,M6,E6,Y6,C6,K6⟩:=hrel;clear RN5 M5 E5 Y5 RN M2 E2 Y2 N h0 y1' y3' hE5;obtain ⟨y1,y3⟩:=Y6.out
    by_cases hlt2:j < ks.length
    . obtain ⟨y,hy⟩:=A4a (l:=ks) (j:=j) hlt2;obtain ⟨b,rfl,hb⟩:=KNH.out j y hy;obtain ⟨kb,ko,hkp,hkb,hkc⟩:=(KAT.out _ E6.out).cells (by omega);have gk:=hkc j _ hy;have pb:=HW.out.part hb;have tk:decide ((j:Int) < (ks.length:Int))=true:=dT;have tk2:decide (j < ks.length)=true:=dT;have hlk:=M6.out.look (t:=119) underlying3 underlying119 (zeroValue3 wr) (k:=b) (by omega);have hcv:=C6.out b;have hcb:=CB.out b;have hcl:=u0b (a:=(b:Int)) (l:=ks.take j);have hcl2:(ks.take j).length<=ks.length:=List.length_take_le' _ _;obtain ⟨cv,hcv2⟩:∃ cv,(getI b M').getD 0=cv:=⟨_,rfl⟩
      rw [hcv2] at hlk hcv;have hcv3:0<=cv/\cv<=200000:=by omega
      obtain ⟨cv1,cv2⟩:=hcv3;have hml:=b8b M6.out.up K6.out;obtain ⟨w7,hup,hm7,ht7⟩:=M6.out.put (t:=119) underlying3 underlying119 (by unfold maxLen;omega) (a:=b) (x:=cv+1) (by omega) (by omega) (by omega);have B7:But [w.heap.size+1] wr w7:=(But.refl _ _).turned ht7 (.inl (by simp));have E7:=hZ (But.D3a E6.out B7 (by simp));have own1:=H.out.toHAt.D1a _ d.I7a;have R7:=hZ (H3a R6.out (B7.block _ (by have:=E6.out.le;omega) (by simp;omega)) (B7.block _ R6.out.lt (by simp;omega)));have Y7:=hZ (And.intro ((B7.cell (cell_lt y1) (by simp) 0).trans y1) ((B7.cell (cell_lt y3) (by simp) 0).trans y3));have M7:=hZ hm7
      have C7:Hid (N4a S D (ks.take (j+1)) (putI b (cv+1) M')):=hZ (by
       rw [b8a hy,<- hcv2];exact C6.out.put M6.out.up)
      have K7:Hid (∀ q ∈ putI b (cv+1) M',q.1 < S.words.length):=hZ (fun q hq=>by
       rcases t4a hq with e | ⟨q',hq',e⟩
       . rw [e];omega
       . rw [<- e];exact K6.out q' hq')
      clear hcv hcb hcl hcl2 hcv2 hml hm7 ht7 B7 own1 hkc hy hb pb;subst hkp
      go_wp2_with fail
      go_roundg (ks.length-(j+1))
      case measure=>omega
      case rel=>exact ⟨j+1,_,by omega,H0c _,by go_num,R7,M7,E7,Y7,C7,K7⟩
    have:j=ks.length:=by omega
    subst this;have tk:decide ((ks.length:Int) < (ks.length:Int))=false:=dF;have tk2:decide (ks.length < ks.length)=false:=dF;have C8:Hid (N4a S (D ++ [x]) [] M'):=hZ (fun y=>by
     rw [C6.out y,A8c,Hp.C7b];show _=((Hp.cnt _ _ y D+(List.count (y:Int) (Hp.kz (Hp.ow S.words) S.sizes x)+0)+0:Nat):Int);rw [HKS.out];rfl)
    go_wp2_with fail
    go_roundg cnt'
    case measure=>omega
    case rel=>exact ⟨_,cnt',D ++ [x],M',H0c _,R6,M6,E6,Y6,C8,K6,(show Aside _ from S2H.out)⟩
open Go.RowKit Go.Maps
theorem cellKT:prog.keyTypeAt 3 152=true:=by kernel_rfl
theorem cellTI:prog.tiled 3 152=true:=by kernel_rfl
theorem p3a:3+1<=10000:=Nat.le_of_ble_eq_true (by kernel_rfl)
theorem o7b:WideMaps.KeyLaw prog 152:=deep_law (m:=3) p3a cellKT cellTI (by rw [underlying152])
theorem i9a:Maps.Keyed prog 152:=Maps.Keyed.of_law o7b
theorem keyLits_int (d:Nat) (h : -9223372036854775808<=x/\x<=9223372036854775807):prog.keyLits (d+1) 3 [.int .i64 x]=some [.int .i64 x]:=by
 unfold Program.keyLits
 rw [underlying3]
 have wf:(Lit.int .i64 x).wf=true:=WalkArith.wf_i64 (by omega)
 simp [wf]
theorem q1a:3<=prog.types.size:=Nat.le_of_ble_eq_true (by kernel_rfl)
theorem e0a:prog.cellsOf 152=13:=by kernel_rfl
theorem R5a:prog.cellsOf 150=12:=by kernel_rfl
theorem O0a:prog.cellsOf 3=1:=by kernel_rfl
theorem v9a:prog.keyType 152=true:=by kernel_rfl
theorem m6a (hl:l.length=13) (h:∀ x ∈ l,-9223372036854775808<=x/\x<=9223372036854775807):∃ k,keyOf prog 152 (.agg (ints l).toArray)=some k:=by
 match l,hl with
 | [a0,a1,a2,a3,a4,a5,a6,a7,a8,a9,a10,a11,a12],_=>
  obtain ⟨d,hd⟩:∃ d,prog.types.size=d+2:=⟨prog.types.size-2,by have:=q1a;omega⟩
  have e:∀ x ∈ [a0,a1,a2,a3,a4,a5,a6,a7,a8,a9,a10,a11,a12],∀ d,prog.keyLits (d+1) 3 [.int .i64 x]=some [.int .i64 x]:=fun x hx d=>keyLits_int d (h x hx)
  have arr:∃ k,prog.keyLits (d+2) 150 [.int .i64 a1,.int .i64 a2,.int .i64 a3,.int .i64 a4,.int .i64 a5,.int .i64 a6,.int .i64 a7,.int .i64 a8,.int .i64 a9,.int .i64 a10,.int .i64 a11,.int .i64 a12]=some k:=by
   unfold Program.keyLits;rw [underlying150];simp only [R5a,O0a];simp [List.range,List.range.loop,e a1 (by simp),e a2 (by simp),e a3 (by simp),e a4 (by simp),e a5 (by simp),e a6 (by simp),e a7 (by simp),e a8 (by simp),e a9 (by simp),e a10 (by simp),e a11 (by simp),e a12 (by simp)]
  obtain ⟨k,hk⟩:=arr;have top:∃ k,prog.keyLits (d+3) 152 [.int .i64 a0,.int .i64 a1,.int .i64 a2,.int .i64 a3,.int .i64 a4,.int .i64 a5,.int .i64 a6,.int .i64 a7,.int .i64 a8,.int .i64 a9,.int .i64 a10,.int .i64 a11,.int .i64 a12]=some k:=by
   unfold Program.keyLits;rw [underlying152];simp only [e0a];simp [R5a,O0a,e a0 (by simp),hk]
  obtain ⟨k',hk'⟩:=top;unfold keyOf;rw [underlying152];simp only;have hf:(Value.agg (ints [a0,a1,a2,a3,a4,a5,a6,a7,a8,a9,a10,a11,a12]).toArray).formed prog 152=true:=by
   simp [Value.formed,underlying152,e0a,ints]
  rw [v9a,hf,hd];simp only [Bool.and_self,H2c];rw [show (Value.agg (ints [a0,a1,a2,a3,a4,a5,a6,a7,a8,a9,a10,a11,a12]).toArray).cells.toList=[.int .i64 a0,.int .i64 a1,.int .i64 a2,.int .i64 a3,.int .i64 a4,.int .i64 a5,.int .i64 a6,.int .i64 a7,.int .i64 a8,.int .i64 a9,.int .i64 a10,.int .i64 a11,.int .i64 a12] from rfl,hk'];exact ⟨_,rfl⟩
def I4a (w:World) (g:Nat) (Ks:List (List Int)):Prop:=∃ D:DataW Unit,w.ownsMap prog 152 (plainElem (H:=Unit) prog 4) g Ks.length D /\ ∀ (l:List Int) (kl:Lit),l ∉ Ks->keyOf prog 152 (.agg (ints l).toArray)=some kl -> ∀ z,D.atKey kl z=z
theorem p4a:∀ {a b:List Int},ints a=ints b->a=b
 | [],[],_=>rfl
 | [],_ :: _,h=>by simp [ints] at h
 | _ :: _,[],h=>by simp [ints] at h
 | x :: a,y :: b,h=>by
  simp only [ints,E7c,D6c] at h;obtain ⟨h1,h2⟩:=h;injection h1 with _ h1
  rw [h1,p4a h2]
namespace I4a
variable {w w':World} {g:Nat} {Ks:List (List Int)}
theorem made (w:World):I4a (w.alloc (.map #[] 0)) w.heap.size []:=
 ⟨_,y0b w prog 152 (plainElem (H:=Unit) prog 4),fun _ _ _ _ _=>rfl⟩
theorem lt (h:I4a w g Ks):g < w.heap.size:=by
 obtain ⟨D,h1,_⟩:=h
 exact h1.lt
theorem F9a (h:I4a w g Ks) (e:w'.heap[g]? = w.heap[g]?):I4a w' g Ks:=by
 obtain ⟨D,⟨es,clock,hb,r⟩,h2⟩:=h
 exact ⟨D,⟨es,clock,e.trans hb,r⟩,h2⟩
theorem but (h:I4a w g Ks) {l:List Nat} (k:But l w w') (hg:g ∉ l):I4a w' g Ks:=h.F9a (k.block g h.lt hg)
theorem ext (h:I4a w g Ks) (k:Ext w w'):I4a w' g Ks:=h.F9a (k.block g h.lt)
theorem look (h:I4a w g Ks) (hl:l.length=13) (hb:∀ x ∈ l,-9223372036854775808<=x/\x<=9223372036854775807) (hn:l ∉ Ks):(Instr.lookup 149 (.map (some g)) (.agg (ints l).toArray) false).run prog w = .ok (.bool false) w:=by
 obtain ⟨D,h1,h2⟩:=h
 obtain ⟨kl,hk⟩:=m6a hl hb
 obtain ⟨v,ps,hrun,hv⟩:=h1.lookup i9a underlying149 (zeroValue4 w) (plainElem_bool underlying4 false) hk
 rw [hrun]
 rw [h2 l kl hn hk] at hv
 rw [J1a underlying4 hv]
theorem put (h:I4a w g Ks) (hl:l.length=13) (hb:∀ x ∈ l,-9223372036854775808<=x/\x<=9223372036854775807) (hn:Ks.length < maxLen):∃ w',(Instr.mapUpdate 149 (.map (some g)) (.agg (ints l).toArray) (.bool true)).run prog w = .ok () w'/\I4a w' g (l :: Ks)/\w.mapTurned w' g:=by
 obtain ⟨D,h1,h2⟩:=h
 obtain ⟨kl,hk⟩:=m6a hl hb
 obtain ⟨w',hrun,ho,ht⟩:=h1.store i9a underlying149 hn hk (plainElem_bool underlying4 true)
 refine ⟨w',hrun,⟨_,ho,fun l' kl' hm hk' z=>?_⟩,ht⟩
 simp only [E6c,not_or] at hm
 rw [atKey_put_other (fun e=>hm.1 ?_)]
 . exact h2 l' kl' hm.2 hk' z
 subst e
 have h3:=Value.agg.inj (i9a.inj hk' hk)
 exact p4a (List.toArray_inj h3)
end I4a
def keyL (S:Hp.Hs) (a:Nat):List Int:=Hp.ow S.words a :: (Hp.fz (Hp.ow S.words) S.sizes a ++ List.replicate (12-(Hp.fz (Hp.ow S.words) S.sizes a).length) 0)
theorem p7a {ch:Nat->List Nat} (h:Hp.Wf S B L ch) (ha:a ∈ S.taken):(keyL S a).length=13:=by
 have:=h.part ha
 have:=Hp.D7a (Hp.ow S.words) S.sizes a
 simp [keyL]
 omega
theorem B5b {ch:Nat->List Nat} (h:Hp.Wf S B L ch) (ha:a ∈ S.taken):∀ x ∈ keyL S a,-9223372036854775808<=x/\x<=9223372036854775807:=fun x hx=>by
 unfold keyL at hx
 rcases E6c.1 hx with rfl | hx
 . have:=h.W0a ha;omega
 rcases C4c.1 hx with hx | hx
 . have:=h.H7b ha x hx;omega
 rw [r4b hx];omega
theorem Y8b {ch:Nat->List Nat} (h:Hp.Wf S B L ch) (ha:a ∈ S.taken) (hb:b ∈ S.taken) (e:keyL S a=keyL S b):a=b:=by
 unfold keyL at e
 injection e with e1 e2
 have hl:(Hp.fz (Hp.ow S.words) S.sizes a).length=(Hp.fz (Hp.ow S.words) S.sizes b).length:=by rw [Hp.D7a,Hp.D7a,e1]
 exact h.cells.one a ha b hb e1 (List.append_inj e2 hl).1
end Go.Proofs.YtdokmmhjmclmnaaGreat
