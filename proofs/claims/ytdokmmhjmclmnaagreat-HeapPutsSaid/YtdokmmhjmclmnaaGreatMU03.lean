/- Part 3 of a proof. -/
import Derived.Laws.EntriesVeiled
import Derived.Test.YtdokmmhjmclmnaaGreatMU02
set_option linter.unusedSimpArgs false
set_option linter.unusedVariables false
set_option linter.unusedSectionVars false
set_option linter.unnecessarySimpa false
set_option maxHeartbeats 16000000
set_option maxRecDepth 100000
namespace Go.Proofs.YtdokmmhjmclmnaaGreat
open Go.Proofs.Tryz
variable {W' w w' w0 wb:World} {B a b bx c ca cap ce cn f g i j k lb m n qc:Nat} {choice e t x:Int} {A W fs ks l o z:List Int} {D T Y:List Nat} {p p2 pa pe pn q:Option Addr} {d:Hd} {S S':Hp.Hs} {M:List (Nat × Int)}
open Go.RowKit
theorem W9a (a:Nat) (S:Hp.Hs):Hp.Hs.full (a,S)=((a:Int),err8 a,S):=by
 unfold Hp.Hs.full err8
 by_cases h:a=0 <;> simp [h]
def Added (d:Hd) (w:World) (r:Int × Int × Hp.Hs) (e:Ending) (w':World):Prop:=e = .returned (.tuple #[.int .i64 r.1,.int .i64 r.2.1])/\Now w w' d r.2.2
theorem SliceAt.one (w:World) (n:Int) (h1 : -9223372036854775808<=n) (h2:n<=9223372036854775807) (t:TypeId):SliceAt (w.alloc (.cells #[.int .i64 n] t)) (some ⟨w.heap.size,0,none⟩) 1 [n]:=by
 refine ⟨by simp,by omega,by simp;omega,fun _=>⟨w.heap.size,0,rfl,by simp,fun j x hx=>?_⟩⟩
 cases j with
 | zero=>
  have:n=x:=by simpa [Hp.rd] using hx
  subst this;have:=s8b w #[.int .i64 n] t (0,0) 0;rw [this];rfl
 | succ j=>simp [Hp.rd] at hx
theorem HAt.D1a (h:HAt w d S):∀ b ∈ d.own,b < w.heap.size:=by
 intro b hb
 simp [Hd.own] at hb
 rcases hb with rfl | rfl | rfl
 . exact h.lt
 . exact h.words.lt
 exact h.map.lt
theorem C5b {n:Int} {r:Int × Int × Hp.Hs} (h:HAt w d S) (hf:f < 256) (hn1 : -9223372036854775808<=n) (hn2:n<=9223372036854775807) (hr:S.end' f n=some r) :
    Calls prog 43 #[.pointer (some ⟨d.hb,0,none⟩),.agg #[.int .u8 f,.int .i64 n]] w (Added d w r):=by
  have H:=hZ (Now.refl h);clear h;unfold Hp.Hs.end' at hr
  by_cases h1:(f:Int) > 4
  . rw [H5c (Or.inl h1)] at hr
    cases hr
    go_enter func43,ntmps43
    go_wp2_with (go_at_call 72;refine m4_ (C7a (H.out.ext (exx)).toHAt) fun w1 hb1 hc1 hf1 hs1=>?_;obtain ⟨hz1_0,hc1_0,hf1_0⟩:=c3_ hb1 w.heap.size)
    go_ret2
    exact ⟨rfl,H.out.ext (exx)⟩
  by_cases h2:(f:Int) > 0/\n ≠ 0
  . rw [H5c (Or.inr (Or.inl h2))] at hr
    cases hr
    have t0:(n != 0)=true:=by simpa using h2.2
    have h3:=h2.1;clear h2;go_enter func43,ntmps43
    go_wp2_with (go_at_call 72;refine m4_ (C7a (H.out.ext (exx)).toHAt) fun w1 hb1 hc1 hf1 hs1=>?_;obtain ⟨hz1_0,hc1_0,hf1_0⟩:=c3_ hb1 w.heap.size)
    go_ret2
    exact ⟨rfl,H.out.ext (exx)⟩
  cases hw:Hp.within (-9999) 9999 n with
  | false=>
   rw [H5c (Or.inr (Or.inr hw))] at hr
   cases hr
   by_cases hf0:f=0
   . subst hf0;clear h1 h2;have HW:=hZ hw;clear hw;go_enter func43,ntmps43
     go_wp2_with (first
      | (go_at_call 72;refine m4_ (C7a (H.out.ext (exx)).toHAt) fun w1 hb1 hc1 hf1 hs1=>?_;obtain ⟨hz1_0,hc1_0,hf1_0⟩:=c3_ hb1 w.heap.size)
      | (go_at_call 105;refine m4_ ((HW.out ▸ E5a (-9999) 9999 n _)) fun w2 hb2 hc2 hf2 hs2=>?_))
     go_ret2
     exact ⟨rfl,H.out.ext (exx)⟩
   have:n=0:=by
    apply r0b;intro hne;exact h2 ⟨by omega,hne⟩
   subst this;simp [Hp.within] at hw
  | true=>
   rw [H4c (by rw [hw];simp;exact ⟨by omega,fun hx=>by
    apply r0b;intro hne;exact h2 ⟨by omega,hne⟩⟩)] at hr
   simp only [v9b,s0b,C9c,z7b] at hr;obtain ⟨⟨a,S'⟩,ha,rfl⟩:=hr;rw [W9a];have HA:=hZ ha;have HW:=hZ hw;clear ha hw;have key:∀ w2,Ext w w2->Calls prog 107 #[.pointer (some ⟨d.hb,0,none⟩),.int .i64 (20+f),.slice (some ⟨w2.heap.size,0,none⟩) 1 1] (w2.alloc (.cells #[.int .i64 n] 3)) (fun e w'=>e = .returned (.int .i64 a)/\Now w w' d S'):=by
    intro w2 E;have E2:Ext w (w2.alloc (.cells #[.int .i64 n] 3)):=E.alloc _;refine (add_any (H.out.ext E2).toHAt (SliceAt.one w2 n hn1 hn2 3) (by simp) (fun b o e=>?_) HA.out).mono ?_
    . cases e
      intro hm;have:=H.out.toHAt.D1a _ hm;have:=E.le;omega
    rintro e w' ⟨rfl,h1,h2⟩;exact ⟨rfl,h1,(But.E7a E2).trans h2⟩
   have KEY:=hZ key;clear key
   by_cases hf0:f=0
   . subst hf0;clear h1 h2;go_enter func43,ntmps43
     go_wp2_with (first
      | (go_at_call 72;refine m4_ (C7a (H.out.ext (exx)).toHAt) fun w1 hb1 hc1 hf1 hs1=>?_;obtain ⟨hz1_0,hc1_0,hf1_0⟩:=c3_ hb1 w.heap.size)
      | (go_at_call 105;refine m4_ ((HW.out ▸ E5a (-9999) 9999 n _)) fun w2 hb2 hc2 hf2 hs2=>?_)
      | (go_at_call 107;refine (KEY.out _ (exx)).mono ?_;rintro e w3 ⟨rfl,N3⟩)
      | (go_at_call 106;refine m4_ (r1a a _) fun w4 hb4 hc4 hf4 hs4=>?_))
     go_ret2
     exact ⟨rfl,N3.ext hb4⟩
   have hn0:n=0:=by
    apply r0b;intro hne;exact h2 ⟨by omega,hne⟩
   subst hn0;have q1:0 < (f:Int):=by omega
   have q2:(f:Int)<=4:=by omega
   clear h1 h2 hf0 hn1 hn2 HA;go_enter func43,ntmps43
   go_wp2_with (first
    | (go_at_call 72;refine m4_ (C7a (H.out.ext (exx)).toHAt) fun w1 hb1 hc1 hf1 hs1=>?_;obtain ⟨hz1_0,hc1_0,hf1_0⟩:=c3_ hb1 w.heap.size)
    | (go_at_call 105;refine m4_ ((HW.out ▸ E5a (-9999) 9999 0 _)) fun w2 hb2 hc2 hf2 hs2=>?_)
    | (go_at_call 107;refine (KEY.out _ (exx)).mono ?_;rintro e w3 ⟨rfl,N3⟩)
    | (go_at_call 106;refine m4_ (r1a a _) fun w4 hb4 hc4 hf4 hs4=>?_))
   go_ret2
   exact ⟨rfl,N3.ext hb4⟩
theorem M6b (h:S.D0a choice l=some 0):∃ (i:Nat) (n:Int),choice=i/\i < S.sizes.length/\Hp.rd S.sizes i=some n/\(l.length:Int)=n:=by
 unfold Hp.Hs.D0a at h
 split at h
 . cases h
 rename_i hw
 obtain ⟨i,rfl,hi⟩:=n2a (by simpa using hw)
 simp only [v9b,s0b,z5b] at h
 obtain ⟨n,hn,h⟩:=h
 split at h
 . cases h
 rename_i hl
 exact ⟨i,n,rfl,hi,hn,by simpa using hl⟩
theorem s9a {r:Int × Int × Hp.Hs} (h:HAt w d S) (hs:SliceAt w p c l) (far:∀ b o,p=some ⟨b,o,none⟩->b ∉ d.own)
    (hc1 : -9223372036854775808<=choice) (hc2:choice<=9223372036854775807) (hr:S.make choice l=some r) :
    Calls prog 44 #[.pointer (some ⟨d.hb,0,none⟩),.int .i64 choice,.slice p l.length c] w (Added d w r):=by
  unfold Hp.Hs.make at hr;simp only [v9b,s0b] at hr;obtain ⟨e0,he,hr⟩:=hr;have H:=hZ (Now.refl h);have HS:=hZ hs;have HE:=hZ he
  by_cases h0:e0=0
  case neg=>
   rw [H5c h0] at hr
   cases hr
   have t0:(e0 != 0)=true:=by simpa using h0
   clear h hs he h0 far;go_enter func44,ntmps44
   go_wp2_with (go_at_call 108;refine m4_ (R3a H.out.toHAt HS.out hc1 hc2 HE.out) fun w1 hb1 hc1 hf1 hs1=>?_)
   go_ret2
   exact ⟨rfl,H.out.ext hb1⟩
  case pos=>
   subst h0;rw [H4c (by simp)] at hr;obtain ⟨i,n,rfl,hi,hn,hl⟩:=M6b he;have hsz:=H4b h hn;have h0l:0 < l.length:=by omega
   have hfew:=h.few;obtain ⟨y,hy⟩:=A4a h0l;obtain ⟨b,o,hp,hb,hcell⟩:=hs.cells h0l;have g:=hcell 0 y hy;simp only [G0c] at g;have hle:=hs.le;have hcap:=hs.cap;have FAR:=hZ far;subst hp
   cases ha:Hp.Hs.alike l with
   | true=>
    rw [H5c ha] at hr;simp only [s0b] at hr;obtain ⟨y',hy',hr⟩:=hr
    cases hr
    have:y'=y:=by
     cases l with
     | nil=>cases hy
     | cons a r=>
      have e1:a=y':=by simpa using hy'
      have e2:a=y:=by simpa [Hp.rd] using hy
      rw [<- e1,e2]
    subst this;have HA:=hZ ha;clear h hs he hy hy' far ha hn hl hcell;have L0:=hZ h0l;have z:=hZ hb;go_enter func44,ntmps44
    go_wp2_with (first
     | (go_at_call 108;refine m4_ (R3a H.out.toHAt HS.out hc1 hc2 HE.out) fun w1 hb1 hc1 hf1 hs1=>?_)
     | (go_at_call 109;refine m4_ (alike_any (HS.out.ext hb1) L0.out HA.out) fun w2 hb2 hc2 hf2 hs2=>?_;have g2:=((hb1.trans hb2).cell z.out o).trans g))
    go_ret2
    exact ⟨rfl,(H.out.ext hb1).ext hb2⟩
   | false=>
    rw [H4c (by rw [ha];simp)] at hr;simp only [s0b,C9c,z7b] at hr;obtain ⟨⟨a,S'⟩,had,rfl⟩:=hr;rw [W9a];have HA:=hZ ha;have HAD:=hZ had;have L0:=hZ h0l;clear h hs he hy far ha hn hl hcell had g h0l;go_enter func44,ntmps44
    go_wp2_with (first
     | (go_at_call 108;refine m4_ (R3a H.out.toHAt HS.out hc1 hc2 HE.out) fun w1 hb1 hc1 hf1 hs1=>?_)
     | (go_at_call 109;refine m4_ (alike_any (HS.out.ext hb1) L0.out HA.out) fun w2 hb2 hc2 hf2 hs2=>?_)
     | (go_at_call 107;refine (add_any ((H.out.ext hb1).ext hb2).toHAt ((HS.out.ext hb1).ext hb2) L0.out FAR.out HAD.out).mono ?_;rintro e w3 ⟨rfl,hA3,hB3⟩)
     | (go_at_call 106;refine m4_ (r1a a _) fun w4 hb4 hc4 hf4 hs4=>?_))
    go_ret2
    exact ⟨rfl,(Now.mk hA3 ((But.E7a (hb1.trans hb2)).trans hB3)).ext hb4⟩
def missing (n:Nat) (L:List Nat):Nat:=((List.range n).filter fun x=>!L.contains x).length
theorem x6a {L L':List Nat} (h:∀ x ∈ L,x ∈ L'):missing n L'<=missing n L:=by
 unfold missing
 generalize List.range n=R
 induction R with
 | nil=>simp
 | cons a r ih=>
  simp only [B3c]
  cases h1:L'.contains a <;> cases h2:L.contains a <;> simp only [F2c,E2c,x6b,H1c,H2c,A5c]
  . omega
  . exfalso;have h3:=h a (by simpa using h2);have h4:L'.contains a=true:=by simpa using h3
    rw [h1] at h4
    cases h4
  . omega
  exact ih
theorem h5a {L:List Nat} (ha:a < n) (hL:a ∉ L):missing n (Hp.Hs.insert a L) < missing n L:=by
 unfold missing
 have e:(List.range n).filter (fun x=>!(Hp.Hs.insert a L).contains x)=((List.range n).filter fun x=>!L.contains x).filter (fun x=>x != a):=by
  rw [List.filter_filter];apply y4b;intro x _
  by_cases hx:x=a
  . subst hx;simp [D6a]
  simp [D6a,hx]
 rw [e]
 have hm:a ∈ (List.range n).filter fun x=>!L.contains x:=by simp [ha,hL]
 generalize (List.range n).filter (fun x=>!L.contains x)=R at hm
 induction R with
 | nil=>cases hm
 | cons b r ih=>
  simp only [B3c]
  rcases E6c.1 hm with rfl | h
  . simp only [bne_self_eq_false,x6b,H1c,A5c];have:=t4b (fun x=>x != a) r;omega
  split
  . simp only [A5c];have:=ih h;omega
  have:=t4b (fun x=>x != a) r;simp only [A5c];omega
theorem V3a {L:List Nat} (hs:L.Pairwise (· < ·)) (hb:∀ a ∈ L,a < n):L.length<=n:=by
 have key:∀ (m:Nat) (T:List Nat),T.Pairwise (· < ·)->(∀ a ∈ T,m<=a/\a < n)->T.length+m<=n \/ T=[]:=by
  intro m T
  induction T generalizing m with
  | nil=>intro _ _;exact Or.inr rfl
  | cons a r ih=>
   intro hp hr;obtain ⟨h1,h2⟩:=w3b.1 hp;have ha:=hr a (by simp);left
   rcases ih (a+1) h2 (fun b hb=>⟨h1 b hb,(hr b (by simp [hb])).2⟩) with h | h
   . simp;omega
   subst h;simp;omega
 rcases key 0 L hs (fun a ha=>⟨G9c _,hb a ha⟩) with h | h
 . omega
 subst h;simp
theorem Hp.Hs.Kids.lt (h:S.Kids a):a < S.words.length:=by
 obtain ⟨ks,l,h1,_⟩:=h
 obtain ⟨t,ht,_⟩:=K8a h1
 exact G0a ht
structure Mk (w:World) (d:Hd) (S:Hp.Hs) (b1 b2 b3 gl:Nat) (L:List Nat):Prop extends HAt w d S where
 k1:w.cell? ⟨b1,0,none⟩=some (.map (some gl))
 k2:w.cell? ⟨b2,0,none⟩=some (.pointer (some ⟨d.hb,0,none⟩))
 k3:w.cell? ⟨b3,0,none⟩=some (.func (.func 138) #[] #[.pointer (some ⟨b1,0,none⟩),.pointer (some ⟨b2,0,none⟩),.pointer (some ⟨b3,0,none⟩)])
 mm:MapAt prog w gl L
 mlt:∀ x ∈ L,x < S.words.length
 n1:b1 ≠ gl
 n2:b2 ≠ gl
 n3:b3 ≠ gl
 m0:d.hb ≠ gl
 m1:d.gw ≠ gl
 m2:d.gm ≠ gl
 m3:∀ b o,d.sp=some ⟨b,o,none⟩->b ≠ gl
 m4:∀ b o,d.op=some ⟨b,o,none⟩->b ≠ gl
namespace Mk
variable {w w':World} {d:Hd} {S:Hp.Hs} {b1 b2 b3 gl:Nat} {L L':List Nat}
theorem ext (h:Mk w d S b1 b2 b3 gl L) (k:Ext w w'):Mk w' d S b1 b2 b3 gl L:=
 { h with
   toHAt:=h.toHAt.ext k
   k1:=k.q h.k1
   k2:=k.q h.k2
   k3:=k.q h.k3
   mm:=h.mm.ext k }
theorem put (h:Mk w d S b1 b2 b3 gl L) (k:But [gl] w w') (hm:MapAt prog w' gl L') (hl:∀ x ∈ L',x < S.words.length):Mk w' d S b1 b2 b3 gl L':=
 { h with
   toHAt:=h.toHAt.but k (by simp [h.m0]) (by simp [h.m1]) (by simp [h.m2]) (fun b o e=>by simp [h.m3 b o e]) (fun b o e=>by simp [h.m4 b o e])
   k1:=(k.cell (cell_lt h.k1) (by simp [h.n1]) 0).trans h.k1
   k2:=(k.cell (cell_lt h.k2) (by simp [h.n2]) 0).trans h.k2
   k3:=(k.cell (cell_lt h.k3) (by simp [h.n3]) 0).trans h.k3
   mm:=hm
   mlt:=hl }
end Mk
structure T3a (S:Hp.Hs) (L L':List Nat) (a:Nat):Prop where
 up:∀ x ∈ L,x ∈ L'
 self:a ∈ L'
 reach:∀ x ∈ L',x ∈ L \/ S.Reach [a] x
 closed:∀ x ∈ L',x ∈ L \/ ∀ b,S.Kid x b->b ∈ L'
def E1b (w:World) (d:Hd) (S:Hp.Hs) (b1 b2 b3 gl:Nat) (L:List Nat) (a:Nat) (e:Ending) (w':World):Prop:=
 e = .returned (.tuple #[]) /\ ∃ L',Mk w' d S b1 b2 b3 gl L'/\But [gl] w w'/\T3a S L L' a
theorem j0b {l:List Nat} (h:Hp.Hs.adrs ks=some l):l.length=ks.length /\ ∀ (j:Nat) (x:Int),Hp.rd ks j=some x -> ∃ k:Nat,l[j]? = some k/\x=k:=by
 induction ks generalizing l with
 | nil=>
  simp [Hp.Hs.adrs] at h;subst h;exact ⟨rfl,fun j x hx=>by cases hx⟩
 | cons a r ih=>
  unfold Hp.Hs.adrs at h;rw [List.mapM_cons] at h;simp only [v9b,s0b,C9c,z7b] at h;obtain ⟨k,hk,l',hl',rfl⟩:=h;obtain ⟨h1,h2⟩:=ih hl';refine ⟨by simp [h1],fun j x hx=>?_⟩
  cases j with
  | zero=>
   have:a=x:=by simpa [Hp.rd] using hx
   subst this;exact ⟨k,rfl,Z8a hk⟩
  | succ j=>simpa using h2 j x (by simpa [Hp.rd] using hx)
structure W5b (S:Hp.Hs) (L Lj:List Nat) (a:Nat) (l:List Nat) (j:Nat):Prop where
 up:∀ x ∈ L,x ∈ Lj
 self:a ∈ Lj
 kids:∀ i k,i < j->l[i]? = some k->k ∈ Lj
 reach:∀ x ∈ Lj,x ∈ L \/ S.Reach [a] x
 closed:∀ x ∈ Lj,x ∈ L \/ x=a \/ ∀ b,S.Kid x b->b ∈ Lj
theorem z9a {b1 b2 b3 gl:Nat} {L:List Nat} (h:Mk w d S b1 b2 b3 gl L) (hL:a ∈ L) :
    Calls prog 138 #[.int .i64 a,.pointer (some ⟨b1,0,none⟩),.pointer (some ⟨b2,0,none⟩),.pointer (some ⟨b3,0,none⟩)] w (E1b w d S b1 b2 b3 gl L a):=by
  have hal:=h.mlt a hL;have sm:=h.small;have H:=hZ h;have k1:=h.k1;have hlk:=h.mm.look (t:=102) underlying3 underlying4 underlying102 (zeroValue4 w) (x:=a) (by omega) (by omega);rw [K6a,show L.contains a=true by simpa using hL] at hlk;have HL:=hZ hL;clear h hL;go_enter func138,ntmps138
  go_wp2_with fail
  go_returns;exact ⟨rfl,L,H.out,But.refl _ _,fun x hx=>hx,HL.out,fun x hx=>.inl hx,fun x hx=>.inl hx⟩
theorem a0b (k:Nat):∀ (w:World) (d:Hd) (S:Hp.Hs) (b1 b2 b3 gl a:Nat) (L:List Nat) (_:missing S.words.length L<=k) (_:Mk w d S b1 b2 b3 gl L) (_:∀ x,S.Reach [a] x->S.Kids x),
    Calls prog 138 #[.int .i64 a,.pointer (some ⟨b1,0,none⟩),.pointer (some ⟨b2,0,none⟩),.pointer (some ⟨b3,0,none⟩)] w (E1b w d S b1 b2 b3 gl L a):=by
  induction k with
  | zero=>
   intro w d S b1 b2 b3 gl a L hm h hk;have hal:=(hk a (.root (by simp))).lt;have hL:a ∈ L:=by
    apply r0b;intro hL;have:=h5a hal hL;omega
   exact z9a h hL
  | succ k ih=>
   intro w d S b1 b2 b3 gl a L hm h hk;have hka:=hk a (.root (by simp));have hal:=hka.lt;have sm:=h.small;have H:=hZ h;have k1:=h.k1
   by_cases hL:a ∈ L
   . exact z9a h hL
   have hlk:=h.mm.look (t:=102) underlying3 underlying4 underlying102 (zeroValue4 w) (x:=a) (by omega) (by omega);rw [K6a,show L.contains a=false by simpa using hL] at hlk;obtain ⟨x1,hup,hmx,htx⟩:=h.mm.put (t:=102) underlying3 underlying4 underlying102 (by have:=V3a h.mm.sorted h.mlt;unfold maxLen;omega) (a:=a) (by omega);have B1:But [gl] w x1:=(But.refl _ _).turned htx (.inl (by simp));have M1:=hZ (h.put B1 hmx (fun x hx=>by
    rcases (D6a a x L).1 hx with rfl | hx
    . exact hal
    . exact h.mlt x hx))
   have hmis:=h5a hal hL;obtain ⟨ks,l,hks,hl⟩:=hka;obtain ⟨t,ht,hkq⟩:=K8a hks;obtain ⟨hll,hlr⟩:=j0b hl;have HK:=hZ hk;have HKS:=hZ hks;have HLL:=hZ hl;have HT:=hZ ht;have HLR:=hZ hlr;have BB:=hZ B1;have HIH:=hZ ih;have LL:=hZ hll;clear h hk hkq hks hl ht hlr hmx htx B1 ih hll hL;have k1':=M1.out.k1;have k2':=M1.out.k2;go_enter func138,ntmps138
   go_wp2_with (go_at_call 80;refine m4_ (V5a M1.out.toHAt HT.out HKS.out) fun w1 hb1 hc1 hf1 hs1=>?_)
   have M2:=hZ (M1.out.ext hb1);have B2:=hZ (BB.out.ext hb1);have K2:=hZ (r9a M2.out.toHAt HT.out HKS.out);generalize hpk:kp d a t=pk at K2;have hpn:∀ b o,pk=some ⟨b,o,none⟩->b=d.gw:=by
    intro b o e;rw [<- hpk] at e;unfold kp at e
    split at e
    . cases e
    cases e;rfl
   have HPN:=hZ hpn;have KL:=hZ K2.out.le;have ksm:ks.length<=1000000:=by
    obtain ⟨t',_,hq⟩:=K8a HKS.out
    rcases hq with ⟨_,rfl⟩ | ⟨_,hf⟩
    . simp
    obtain ⟨_,q,_,_,h1,h2,_⟩:=H7a hf;omega
   have MG0:W5b S L (Hp.Hs.insert a L) a l 0:=
    ⟨fun x hx=>(D6a a x L).2 (.inr hx),(D6a a a L).2 (.inl rfl),fun i k hi=>absurd hi (D0c _),
     fun x hx=>by
      rcases (D6a a x L).1 hx with rfl | hx
      . exact .inr (.root (by simp))
      exact .inl hx,
     fun x hx=>by
      rcases (D6a a x L).1 hx with rfl | hx
      . exact .inr (.inl rfl)
      . exact .inl hx⟩
   clear hpk hpn M1 BB hb1 hc1 hf1 hs1 hlk hup k1 k1' k2'
   go_loopg [16] ks.length (fun g i wr=>∃ (j:Nat) (Lj:List Nat),j<=ks.length/\ks.length-j<=g/\i = .int .i64 j/\Hid (Mk wr d S b1 b2 b3 gl Lj)/\Hid (But [gl] w wr)/\Hid (SliceAt wr pk ks.length ks)/\Aside (W5b S L Lj a l j))
   case atStart=>exact ⟨0,_,G9c _,by omega,rfl,M2,B2,K2,MG0⟩
   case round=>
    obtain ⟨j,Lj,hj,hg,rfl,M,B,K,MG⟩:=hrel;clear M2 B2 K2
    by_cases hlt:j < ks.length
    . obtain ⟨x,hx⟩:=A4a hlt;obtain ⟨kd,hkd,rfl⟩:=HLR.out j x hx;obtain ⟨b,o,hpb,hb,hcell⟩:=K.out.cells (by omega);have gx:=hcell j kd hx;have K3:=M.out.k3;have hkid:S.Kid a kd:=⟨ks,l,HKS.out,HLL.out,u1b hkd⟩
      have hmj:missing S.words.length Lj<=k:=by
       have h1:missing S.words.length Lj<=missing S.words.length (Hp.Hs.insert a L):=x6a (fun y hy=>by
        rcases (D6a a y L).1 hy with rfl | hy
        . exact MG.out.self
        . exact MG.out.up y hy)
       omega
      have hreach:∀ y,S.Reach [kd] y->S.Reach [a] y:=fun y hy=>hy.mono (fun z hz=>by
       have:z=kd:=by simpa using hz
       subst this;exact .step (.root (by simp)) hkid)
      have CALL:=hZ (HIH.out wr d S b1 b2 b3 gl kd Lj hmj M.out (fun y hy=>HK.out y (hreach y hy)));have HKD:=hZ hkd;have HRE:=hZ hreach;clear hx hcell hmj hreach hkd hkid;subst hpb
      go_wp2_with fail
      refine (Calls.mono CALL.out ?_);rintro e w' ⟨rfl,L',M',B',MD⟩
      go_wp2_with fail
      have bne:b ≠ gl:=by
       rw [HPN.out b o rfl];exact M.out.m1
      go_roundg (ks.length-(j+1))
      case measure=>omega
      case rel=>
       refine ⟨j+1,L',by omega,H0c _,by go_num,hZ M',hZ (B.out.trans B'),hZ (K.out.but B' (fun b' o' e=>by cases e;simp [bne])),(show Aside _ from ?_)⟩;refine ⟨fun x hx=>MD.up x (MG.out.up x hx),MD.up a MG.out.self,fun i k hi hk=>?_,fun x hx=>?_,fun x hx=>?_⟩
       . by_cases e:i=j
         . subst e;have:=HKD.out;rw [hk] at this
           cases this
           exact MD.self
         exact MD.up k (MG.out.kids i k (by omega) hk)
       . rcases MD.reach x hx with h | h
         . exact MG.out.reach x h
         exact .inr (HRE.out x h)
       rcases MD.closed x hx with h | h
       . rcases MG.out.closed x h with h | h | h
         . exact .inl h
         . exact .inr (.inl h)
         exact .inr (.inr fun b hb=>MD.up b (h b hb))
       exact .inr (.inr h)
    have:j=ks.length:=by omega
    subst this
    go_wp2_with fail
    go_returns;refine ⟨rfl,Lj,M.out,B.out,MG.out.up,MG.out.self,MG.out.reach,fun x hx=>?_⟩
    rcases MG.out.closed x hx with h | rfl | h
    . exact .inl h
    . refine .inr fun b hb=>?_
      obtain ⟨ks',l',h1,h2,hb⟩:=hb;have e1:=HKS.out;rw [h1] at e1
      cases e1
      have e2:=HLL.out;rw [h2] at e2
      cases e2
      obtain ⟨i,hi,rfl⟩:=u9b hb;exact MG.out.kids i _ (by have:=LL.out;omega) (r1b hi)
    exact .inr h
open Go.RowKit Go.Maps
theorem g4a {r:Nat} (h:w.grownBy w' (some r)):But [r] w w':=
 ⟨h.os,h.tape,h.output,h.size,fun i hi hn=>h.block i hi (fun e=>hn (by cases e;simp))⟩
theorem H3a {H:Type} {P:Program} {k:TypeId} {R:Value->Option (DataW H × List MemPlace)} {r:Nat} {D:DataW H} {left:Lit->Bool} {cnt:Nat} (h:w.ranges P k R b r n D left cnt) (e1:w'.heap[b]? = w.heap[b]?) (e2:w'.heap[r]? = w.heap[r]?):w'.ranges P k R b r n D left cnt:=by
 obtain ⟨es,clock,since,seen,c0,h1,h2,h3,h4,h5,h6⟩:=h
 exact ⟨es,clock,since,seen,c0,e1.trans h1,h2,h3,h4,e2.trans h5,h6⟩
theorem b7a {P:Program} (w:World) {ops:Array Oper} {rest:List Oper} {o:Oper} {a:Act} {Q:Exit->Act->World->Prop} (hg:o.guard=none) (it:Operand) (hop:o.op=Op.next it false)
    (hk:P.underlying 3=some (.int .i64)) (he:P.underlying 4=some .bool) (b r n:Nat) (T:List Nat) (left:Lit->Bool) (cnt:Nat) (hit:a.eval it = .pointer (some ⟨r,0,none⟩))
    (h:w.ranges P 3 (plainElem (H:=Unit) P 4) b r n (mapOf T) left cnt)
    (hDone:(∀ kl,left kl=false)->wpList P ops Q rest (a.put o.dst (.tuple #[.bool false])) w)
    (hMore:∀ (x:Nat) (c:Value) (w':World) (cnt':Nat),x ∈ T->w'.ranges P 3 (plainElem (H:=Unit) P 4) b r n (mapOf T) (fun z=>left z && !z.sameKey (.int .i64 x)) cnt'->cnt' < cnt ->
     But [r] w w'->(Instr.entry (.pointer (some ⟨r,0,none⟩))).run P w' = .ok (.tuple #[.int .i64 x,c]) w'->wpList P ops Q rest (a.put o.dst (.tuple #[.bool true,.int .i64 x,c])) w') :
    wpList P ops Q (o :: rest) a w:=by
  refine wpList_next_ranges w hg it hop 3 (int_keyed hk) (plainElem (H:=Unit) P 4) (Value.int .i64) Value.bool (fun key kl hkey=>by obtain ⟨x,rfl,_⟩:=Maps.keyOf_int_inv hk hkey;exact ⟨x,rfl⟩)
   (fun v y hv=>by
    unfold plainElem at hv;rw [he] at hv
    cases v <;> simp at hv
    exact ⟨_,rfl⟩) b r n _ left cnt hit h (fun _ hl=>hDone hl) ?_
  intro x c kl y w' cnt' hkey hl hv hat hrg hlt hgr _ hen;obtain ⟨x',ex,rfl,_⟩:=Maps.keyOf_int_inv hk hkey
  cases ex
  have hy:y=(.lit (.bool c),[]):=by
   unfold plainElem at hv;rw [he] at hv
   simpa using hv.symm
  subst hy;have hin:H9a T (.int .i64 x)=true:=by
   cases hh:H9a T (.int .i64 x) with
   | true=>rfl
   | false=>
    have:=hat (.map []);rw [P3a hh] at this
    cases this
  obtain ⟨m,hm,e⟩:=(H1a T _).1 hin
  cases e
  exact hMore m (.bool c) w' cnt' hm hrg hlt (g4a hgr) hen
namespace Mk
variable {w w':World} {d:Hd} {S:Hp.Hs} {b1 b2 b3 gl:Nat} {L L':List Nat}
theorem but (h:Mk w d S b1 b2 b3 gl L) {r:Nat} (k:But [r] w w') (h0:∀ b ∈ d.own,b ≠ r) (h1:b1 ≠ r) (h2:b2 ≠ r) (h3:b3 ≠ r) (h4:gl ≠ r) (h5:∀ b o,d.sp=some ⟨b,o,none⟩->b ≠ r) (h6:∀ b o,d.op=some ⟨b,o,none⟩->b ≠ r):Mk w' d S b1 b2 b3 gl L:=
 { h with
   toHAt:=h.toHAt.but k (by simpa using h0 _ d.S2a) (by simpa using h0 _ d.L6a) (by simpa using h0 _ d.I7a) (fun b o e=>by simpa using h5 b o e) (fun b o e=>by simpa using h6 b o e)
   k1:=(k.cell (cell_lt h.k1) (by simpa using h1) 0).trans h.k1
   k2:=(k.cell (cell_lt h.k2) (by simpa using h2) 0).trans h.k2
   k3:=(k.cell (cell_lt h.k3) (by simpa using h3) 0).trans h.k3
   mm:=h.mm.but k (by simpa using h4) }
end Mk
structure s2a (S:Hp.Hs) (R L:List Nat) (left:Lit->Bool):Prop where
 reach:∀ x ∈ L,S.Reach R x
 closed:∀ x ∈ L,∀ b,S.Kid x b->b ∈ L
 roots:∀ x:Nat,x ∈ R->left (.int .i64 x)=false->x ∈ L
theorem s2a.done {R L:List Nat} {left:Lit->Bool} (h:s2a S R L left) (hl:∀ kl,left kl=false) (hL:L.Pairwise (· < ·)) (hT:T.Pairwise (· < ·)) (hR:∀ x,x ∈ T ↔ S.Reach R x):L=T:=by
 have key:∀ x,S.Reach R x->x ∈ L:=by
  intro x hx
  induction hx with
  | root hx=>exact h.roots _ hx (hl _)
  | step _ hk ih=>exact h.closed _ ih _ hk
 exact Hp.Hs.o1a hL hT fun x=>⟨fun hx=>(hR x).2 (h.reach x hx),fun hx=>key x ((hR x).1 hx)⟩
theorem c3a {left:Lit->Bool} {y x:Nat} (h:(left (.int .i64 y) && !(Lit.int .i64 y).sameKey (.int .i64 x))=false):left (.int .i64 y)=false \/ y=x:=by
 by_cases e:y=x
 . exact .inr e
 left
 have:(Lit.int .i64 (y:Int)).sameKey (.int .i64 x)=false:=by
  simp [Lit.sameKey];omega
 rw [this] at h
 simpa using h
def b6b (w:World) (T:List Nat) (e:Ending) (w':World):Prop:=∃ g,e = .returned (.map (some g))/\w.heap.size<=g/\MapAt prog w' g T/\Ext w w'
namespace Mk
theorem cut {P:Program} {c:Code} {Q:Exit->Act->World->Prop} {a:Act} {W:World} {b1 b2 b3 gl:Nat} {L:List Nat} (h:Mk W d S b1 b2 b3 gl L) (e:Ext w W) (hs:W.heap.size=w.heap.size+4)
    (k:∀ w',Mk w' d S b1 b2 b3 gl L->Ext w w'->w'.heap.size=w.heap.size+4->c.wp P Q a w'):c.wp P Q a W:=k W h e hs
theorem start (h:HAt w d S) {t1 t2 t3:TypeId}:Mk ((((w.alloc (.cells #[.pointer (some ⟨d.hb,0,none⟩)] t1)).alloc (.map #[] 0)).alloc (.cells #[.map (some (w.heap.size+1))] t2)).alloc (.cells #[.func (.func 138) #[] #[.pointer (some ⟨w.heap.size+1+1,0,none⟩),.pointer (some ⟨w.heap.size,0,none⟩),.pointer (some ⟨w.heap.size+1+1+1,0,none⟩)]] t3))
    d S (w.heap.size+1+1) w.heap.size (w.heap.size+1+1+1) (w.heap.size+1) []:=by
  have ho:=h.D1a;have q0:=ho _ d.S2a;have q1:=ho _ d.L6a;have q2:=ho _ d.I7a;refine ⟨h.ext exx, ?_, ?_, ?_, ?_,by simp,by omega,by omega,by omega,by omega,by omega,by omega,fun b o e=>by have:=h.old1 b o e;omega,fun b o e=>by have:=h.old2 b o e;omega⟩
  . go_simp
  . go_simp
  . go_simp
  refine ⟨?_,List.Pairwise.nil⟩;have:=y0b (w.alloc (.cells #[.pointer (some ⟨d.hb,0,none⟩)] t1)) prog 3 (plainElem (H:=Unit) prog 4);have:=(this.alloc (.cells #[.map (some (w.heap.size+1))] t2)).alloc (.cells #[.func (.func 138) #[] #[.pointer (some ⟨w.heap.size+1+1,0,none⟩),.pointer (some ⟨w.heap.size,0,none⟩),.pointer (some ⟨w.heap.size+1+1+1,0,none⟩)]] t3)
  simpa [mapOf] using this
end Mk
theorem F7b (h:HAt w d S) (hr:S.live=some T) :
    Calls prog 73 #[.pointer (some ⟨d.hb,0,none⟩)] w (b6b w T):=by
  obtain ⟨R,hR,hT,hTR,hKids⟩:=Hp.Hs.u9a hr;have H:=hZ h;have HRH:=hZ hR;have HT:=hZ hT;have HTR:=hZ hTR;have HKI:=hZ hKids;clear h hr hR hT hTR hKids;have hmm:=@run_makeMap prog;go_enter func73,ntmps73;go_upto_region 4 with (fail)
  refine Mk.cut (w:=w) (d:=d) (S:=S) (b1:=w.heap.size+1+1) (b2:=w.heap.size) (b3:=w.heap.size+1+1+1) (gl:=w.heap.size+1) (L:=[]) ?start ?_ (by simp) ?rest
  case start=>exact Mk.start H.out
  . exact exx
  intro w0 M0 E0 sz;have M:=hZ M0;have k2:=M.out.k2;have c3:=M.out.c3;have ownd:=M.out.map.owns;have z1:=H.out.D1a;clear M0
  go_wp2_with (at_range;refine wpList_range_own _ rfl _ 102 rfl 3 4 (int_keyed underlying3) underlying102 _ d.gm _ _ rfl ownd ?_;intro w1 hrg0 hg0 hs0;go_frame)
  have E1:Ext w0 w1:=⟨hg0.os,hg0.tape,hg0.output,hg0.size,fun k hk=>hg0.block k hk (by simp)⟩
  have M1:=hZ (M.out.ext E1);have E01:=hZ (E0.trans E1);have LI0:s2a S R [] (Maps.has (mapOf S.taken)):=⟨by simp,by simp,fun x hx hl=>by
   have h1:=((Hp.Hs.U6a HRH.out) x).1 hx;rw [L2a,K6a] at hl;have:S.taken.contains x=true:=by simpa using h1.1
   rw [this] at hl
   cases hl⟩
  have RG:=hZ hrg0;have sz1:w0.heap.size < w1.heap.size:=by omega
  clear hrg0 ownd c3 k2 M hg0 hs0 E1 z1 hmm E0;have sz2:w.heap.size+4<=w0.heap.size:=by omega
  clear sz;generalize w0.heap.size=rr at RG sz1 sz2 ⊢
  go_loopg [5] (Maps.size (mapOf S.taken)) (fun g _ wr=>∃ (left:Lit->Bool) (cnt:Nat) (L:List Nat),cnt<=g/\Hid (wr.ranges prog 3 (plainElem (H:=Unit) prog 4) d.gm rr S.taken.length (mapOf S.taken) left cnt)/\Hid (Mk wr d S (w.heap.size+1+1) w.heap.size (w.heap.size+1+1+1) (w.heap.size+1) L)/\Hid (Ext w wr)/\Aside (s2a S R L left))
  case atStart=>exact ⟨_,_,[],H0c _,RG,M1,E01,LI0⟩
  case round=>
   obtain ⟨left,cnt,L,hg,RR,MR,ER,LI⟩:=hrel;clear RG M1 E01;have k1:=MR.out.k1
   go_wp2_with (at_next;refine b7a _ rfl _ rfl underlying3 underlying4 d.gm rr _ S.taken left cnt rfl RR.out ?_ ?_)
   . intro hl
     go_wp2_with fail
     go_returns;refine ⟨_,rfl,by omega, ?_,ER.out⟩;have:=LI.out.done hl MR.out.mm.sorted HT.out HTR.out;rw [<- this];exact MR.out.mm
   intro x c w' cnt' hx hrg' hlt hbut hen;have o0:=H.out.D1a;have ne0:∀ b ∈ d.own,b ≠ rr:=fun b hb=>by have:=o0 b hb;omega
   have MN:=hZ (MR.out.but hbut ne0 (by omega) (by omega) (by omega) (by omega) (fun b o e=>by have:=H.out.old1 b o e;omega) (fun b o e=>by have:=H.out.old2 b o e;omega));have EN:=hZ (But.D3a ER.out hbut (by simp;omega));obtain ⟨v,hv⟩:=Hp.Hs.T4b HRH.out x hx;have hvl:=G0a hv;have gv:=MN.out.words.get hv;have k2:=MN.out.k2;have k3:=MN.out.k3;have c2:=MN.out.c2;have sm:=MN.out.small;have hlen:=MN.out.le;have hcap:=MN.out.cap;have RN:=hZ hrg';have HV:=hZ hv;have HX:=hZ hx;clear hrg' hbut o0 ne0 hv hx
   by_cases hp:v > 0
   . have hxR:x ∈ R:=(Hp.Hs.U6a HRH.out x).2 ⟨HX.out,v,HV.out,hp⟩;have CALL:=hZ (a0b _ w' d S _ _ _ _ x L (H0c _) MN.out (fun y hy=>HKI.out y (hy.mono fun z hz=>by
      have:z=x:=by simpa using hz
      subst this;exact .root hxR)))
     have HXR:=hZ hxR;clear hxR
     go_wp2_with fail
     refine (Calls.mono CALL.out ?_);rintro e w2 ⟨rfl,L',M',B',MD⟩
     go_wp2_with fail
     go_roundg cnt'
     case measure=>omega
     case rel=>
      have q:=H.out.D1a _ d.I7a;refine ⟨_,cnt',L',H0c _,hZ (H3a RN.out (B'.block _ MN.out.map.lt (by simp;omega)) (B'.block _ RN.out.lt (by simp;omega))),hZ M',hZ (But.D3a EN.out B' (by simp)),(show Aside _ from ?_)⟩;refine ⟨fun y hy=>?_,fun y hy b hb=>?_,fun y hy hl=>?_⟩
      . rcases MD.reach y hy with h | h
        . exact LI.out.reach y h
        exact h.mono fun z hz=>by
         have:z=x:=by simpa using hz
         subst this;exact .root HXR.out
      . rcases MD.closed y hy with h | h
        . exact MD.up b (LI.out.closed y h b hb)
        exact h b hb
      rcases c3a hl with h | rfl
      . exact MD.up y (LI.out.roots y hy h)
      exact MD.self
   go_wp2_with fail
   go_roundg cnt'
   case measure=>omega
   case rel=>
    refine ⟨_,cnt',L,H0c _,RN,MN,EN,(show Aside _ from ⟨LI.out.reach,LI.out.closed,fun y hy hl=>?_⟩)⟩
    rcases c3a hl with h | rfl
    . exact LI.out.roots y hy h
    obtain ⟨_,v',hv',hp'⟩:=(Hp.Hs.U6a HRH.out y).1 hy;have e:=HV.out;rw [hv'] at e
    cases e
    omega
open Go.RowKit Go.Maps
theorem F5a {W':List Int} {link:Nat} (h:Hp.Hs.C5a T n W link=some W'):∃ n' a,n=n'+1/\Hp.ra W link=some a /\
    ((a=0/\W'=W) \/ (a ≠ 0/\T.contains a=true/\Hp.Hs.C5a T n' W (a+3)=some W') \/ (a ≠ 0/\T.contains a=false /\ ∃ x W1,Hp.rd W (a+3)=some x/\Hp.wr W link x=some W1/\Hp.Hs.C5a T n' W1 link=some W')):=by
  cases n with
  | zero=>simp [Hp.Hs.C5a] at h
  | succ n=>
   unfold Hp.Hs.C5a at h;simp only [v9b,s0b] at h;obtain ⟨a,ha,h⟩:=h;refine ⟨n,a,rfl,ha, ?_⟩
   split at h
   . rename_i h0;exact .inl ⟨h0,by simpa using h.symm⟩
   rename_i h0
   split at h
   . rename_i hc;exact .inr (.inl ⟨h0,hc,h⟩)
   rename_i hc;simp only [s0b] at h;obtain ⟨x,hx,W1,hW,h⟩:=h;exact .inr (.inr ⟨h0,by simpa using hc,x,W1,hx,hW,h⟩)
theorem d6a {W':List Int} (hk:k < 16) (h:Hp.Hs.J9a T n W ((List.range 16).drop k)=some W'):∃ W1,Hp.Hs.C5a T n W k=some W1/\Hp.Hs.J9a T n W1 ((List.range 16).drop (k+1))=some W':=by
 rw [q8b (by simpa using hk)] at h
 simp only [Hp.Hs.J9a,v9b,s0b,x0b] at h
 exact h
theorem c8a:∀ {n:Nat} {T:List Nat} {W W':List Int} {link:Nat},Hp.Hs.C5a T n W link=some W'->W'.length=W.length
 | 0,_,_,_,_,h=>by simp [Hp.Hs.C5a] at h
 | n+1,T,W,W',link,h=>by
  obtain ⟨n',a,hn,_,hq⟩:=F5a h;obtain rfl:n=n':=by omega
  rcases hq with ⟨_,rfl⟩ | ⟨_,_,h1⟩ | ⟨_,_,x,W1,_,h1,h2⟩
  . rfl
  . exact c8a h1
  rw [c8a h2,(HAt.D9a h1).1]
theorem J4b {gl:Nat} (h:HAt w d S) (hl:MapAt prog w gl T) (hg:gl ∉ d.own) (hr:S.unlink T=some S') :
    Calls prog 160 #[.pointer (some ⟨d.hb,0,none⟩),.map (some gl)] w (Turned d w (.tuple #[]) S'):=by
  unfold Hp.Hs.unlink at hr;simp only [v9b,s0b,C9c,z7b] at hr;obtain ⟨W',hW,rfl⟩:=hr;have sm:=h.small;have hle:=h.le;have hcap:=h.cap;have H:=hZ (Now.refl h);have HU:=hZ (show Hp.Hs.J9a T S.fuel S.words ((List.range 16).drop 0)=some W' from hW);have HG:=hZ hg;have ML:=hZ hl;have apn:=h.apart1;have apn':=h.apart1.symm;clear h hl hg hW;generalize hn:S.words.length=n at sm hle;have EN:=hZ hn;clear hn;go_enter func160,ntmps160
  go_wp2_with fail
  go_loopg [6] 16 (fun g i wr=>∃ (k:Nat) (W:List Int),k<=16/\16-k<=g/\i = .int .i64 k/\Hid (Now w wr d { S with words:=W })/\Hid (Hp.Hs.J9a T S.fuel W ((List.range 16).drop k)=some W')/\Hid (W.length=n))
  case atStart=>exact ⟨0,S.words,by omega,by omega,rfl,H,HU,EN⟩
  case round=>
   obtain ⟨k,W,hk,hgk,rfl,N,U,EL⟩:=hrel;clear H HU
   by_cases hlt:k < 16
   . obtain ⟨W1,h1,h2⟩:=d6a hlt U.out;have U1:=hZ h1;have U2:=hZ h2;obtain ⟨fu,a,_,ha,_⟩:=F5a h1;have A:=hZ ha;have L1:=hZ ((c8a h1).trans EL.out);have gcell:=N.out.words.get (C6a ha);have lk:=G0a (C6a ha);have c2:=N.out.len EL.out;rw [EL.out] at lk;clear h1 h2 ha U;have tk:decide ((k:Int) < 16)=true:=by simpa using (by omega:(k:Int) < 16)
     go_wp2_with fail
     clear tk
     go_loopg [4,5] S.fuel (fun g l s wx=>∃ (m link a:Nat) (V:List Int),m<=g/\l = .int .i64 link/\s = .int .i64 a/\link < n/\Hid (Now w wx d { S with words:=V })/\Hid (Hp.ra V link=some a)/\Hid (Hp.Hs.C5a T m V link=some W1)/\Hid (V.length=n))
     case atStart=>exact ⟨S.fuel,k,a,W,H0c _,rfl,rfl,lk,N,A,U1,EL⟩
     case round=>
      obtain ⟨m,link,b,V,hm,rfl,rfl,hll,NV,AV,UV,LV⟩:=hrel;clear N A U1 EL gcell c2;obtain ⟨n',b',hn',hb',hq⟩:=F5a UV.out;have e:=AV.out;rw [hb'] at e
      cases e
      have HN:=hZ hn';clear hn' hb'
      rcases hq with ⟨rfl,rfl⟩ | ⟨hb0,hct,hq⟩ | ⟨hb0,hct,x,V1,hx,hV,hq⟩
      . go_wp2_with fail
        go_roundg (16-(k+1))
        case measure=>omega
        case rel=>exact ⟨k+1,_,by omega,H0c _,by go_num,NV,U2,LV⟩
      . have t0:((b:Int) != 0)=true:=by simpa using hb0
        obtain ⟨_,b2,_,hb2,_⟩:=F5a hq;have g2:=NV.out.words.get (C6a hb2);have l2:=G0a (C6a hb2);rw [LV.out] at l2;have c2:=NV.out.len LV.out;have MX:=ML.out.but NV.out.but HG.out;have hlk:=MX.look (t:=102) underlying3 underlying4 underlying102 (zeroValue4 _) (x:=b) (by omega) (by omega);rw [K6a,hct] at hlk;have B2:=hZ hb2;have HQ:=hZ hq;clear hb2 hq MX hct hb0
        go_wp2_with fail
        go_roundg n'
        case measure=>have:=HN.out;omega
        case rel=>exact ⟨n',b+3,b2,V,H0c _,by go_num,rfl,l2,NV,B2,HQ,LV⟩
      have t0:((b:Int) != 0)=true:=by simpa using hb0
      obtain ⟨_,b2,_,hb2,_⟩:=F5a hq;have HBX:=NV.out.words.bound hx;have hbx1:=HBX.1;have hbx2:=HBX.2;have l3:=G0a hx;rw [LV.out] at l3;have c2:=NV.out.len LV.out;have MX:=ML.out.but NV.out.but HG.out;have hlk:=MX.look (t:=102) underlying3 underlying4 underlying102 (zeroValue4 _) (x:=b) (by omega) (by omega);rw [K6a,hct] at hlk;have B2:=hZ hb2;have HQ:=hZ hq;have HX:=hZ hx;have EV:=hZ hV;have LV1:=hZ ((HAt.D9a hV).1.trans LV.out);clear hb2 hq MX hct hb0 HBX hx hV;go_upto_region 8 with (fail)
      clear hlk c2;refine wp_region_still_tail 13 (by kernel_rfl) (by kernel_rfl) ?_;change wpStill _ _ (World.drew wr) (fun a'=>wpList _ _ _ _ a' (World.drew wr)) _ _;have ED:Ext wr (World.drew wr):=Ext.drew (Ext.refl _);have ND:=hZ (NV.out.ext ED);generalize World.drew wr=wd at ND ED ⊢;have c3:=ND.out.c3;have f2:=ND.out.f2;have z1:=ND.out.lt;have z2:=ND.out.words.lt;have c2':=ND.out.len LV.out;have g1:=ND.out.words.get HX.out;have g0:=ND.out.words.get (C6a AV.out);have fr:=ND.out.words.froz link;obtain ⟨i1,i2,i3,i4⟩:IntKind.i64.wrap (((b:Nat):Int)+3)=((b:Nat):Int)+3/\(0:Int)<=((b:Nat):Int)+3/\((b:Nat):Int)+3 < ((n:Nat):Int)/\(((b:Nat):Int)+3).toNat=b+3:=⟨E4c _ (by omega),by omega,by omega,by omega⟩
      simp only [v1b,E0c,v0b,D9c]
      repeat still_step
      refine wpStill_nil ?_;clear i1 i2 i3 i4 g1;have N1:=hZ (ND.out.set EV.out hbx1 hbx2);go_upto_region 5 with (fail)
      refine Now.cut N1.out ?_;clear N1 ND g0 fr f2 c3 c2' z1 z2 ED;intro w5 N5;have N6:=hZ N5;clear N5;have c2:=N6.out.len LV1.out;have g2:=N6.out.words.get (C6a B2.out)
      go_wp2_with fail
      go_roundg n'
      case measure=>have:=HN.out;omega
      case rel=>exact ⟨n',link,b2,V1,H0c _,rfl,rfl,hll,N6,B2,HQ,LV1⟩
   have:k=16:=by omega
   subst this;have hu:=U.out;rw [show (List.range 16).drop 16=[] from rfl] at hu;obtain rfl:W=W':=by simpa [Hp.Hs.J9a] using hu
   clear hu U
   go_wp2_with fail
   go_returns;exact N.out.done
theorem X1a {ops:Array Oper} {rest:List Oper} {o:Oper} {a:Act} {Q:Exit->Act->World->Prop} (hg:o.guard=none) (m x:Operand)
    (hop:o.op=Op.call { callee:=Callee.builtin Builtin.delete,args:=#[m,x],argTypes:=#[102,3] }) {g k:Nat} {T:List Nat} (hm:a.eval m = .map (some g)) (hx:a.eval x = .int .i64 k) (h:MapAt prog w g T) (hk:(k:Int)<=9223372036854775807)
    (hK:∀ w',MapAt prog w' g (T.erase k)->w.mapTurned w' g->wpList prog ops Q rest (a.put o.dst (.tuple #[])) w'):wpList prog ops Q (o :: rest) a w:=by
  refine wpList_plain hg fun K' hK'=>?_
  obtain ⟨w',hrun,r1,r2⟩:=h.del (t:=102) underlying3 underlying102 hk o.type;unfold Oper.wp;simp [execOp,hop,resolve,invoke,builtin,hm,hx,hrun,Result.andThen];exact hK' _ _ (hK w' r1 r2)
theorem j9a {before link:Nat} {r:Nat × Nat} (h:Hp.Hs.seek W a n before link=some r):∃ n' next,n=n'+1/\Hp.ra W link=some next /\
    ((next ≠ 0/\next < a/\Hp.Hs.seek W a n' next (next+2)=some r) \/ (¬ (next ≠ 0/\next < a)/\r=(before,link))):=by
  cases n with
  | zero=>simp [Hp.Hs.seek] at h
  | succ n=>
   unfold Hp.Hs.seek at h;simp only [v9b,s0b] at h;obtain ⟨next,hx,h⟩:=h;refine ⟨n,next,rfl,hx, ?_⟩
   split at h
   . rename_i hc;exact .inl ⟨hc.1,hc.2,h⟩
   rename_i hc;exact .inr ⟨hc,by simpa using h.symm⟩
def O5a (W:List Int) (a before link:Nat) (wide next:Int):Option (List Int):=do
 let joined <- (if before ≠ 0 then do some (decide (before+(<- Hp.rc W (before+1))=a)) else some false:Option Bool)
 if joined then
  let w <- Hp.rc W (before+1)
  Hp.wr (<- Hp.wr W (before+1) (w+wide)) (before+2) next
 else
  Hp.wr (<- Hp.wr (<- Hp.wr W (a+1) wide) (a+2) next) link a
theorem q6a {W':List Int} {before link:Nat} {wide next:Int} (h:O5a W a before link wide next=some W') :
    (before ≠ 0 /\ ∃ v,Hp.rc W (before+1)=some v/\(before:Int)+v=a /\ ∃ W1,Hp.wr W (before+1) (v+wide)=some W1/\Hp.wr W1 (before+2) next=some W') \/
    ((before=0 \/ (before ≠ 0 /\ ∃ v,Hp.rc W (before+1)=some v/\(before:Int)+v ≠ a)) /\ ∃ W1 W2,Hp.wr W (a+1) wide=some W1/\Hp.wr W1 (a+2) next=some W2/\Hp.wr W2 link a=some W'):=by
  unfold O5a at h;simp only [v9b,s0b] at h;obtain ⟨j,hj,h⟩:=h
  by_cases hb:before=0
  . rw [H4c (by simp [hb])] at hj
    cases hj
    rw [H4c (by simp)] at h;simp only [s0b] at h;obtain ⟨W1,h1,W2,h2,h3⟩:=h;exact .inr ⟨.inl hb,_,_,h1,h2,h3⟩
  rw [H5c hb] at hj;simp only [s0b,z7b] at hj;obtain ⟨v,hv,rfl⟩:=hj
  by_cases hc:(before:Int)+v=a
  . rw [H5c (E5c hc)] at h;simp only [s0b] at h;obtain ⟨v',hv',W1,h1,h2⟩:=h;rw [hv] at hv'
    cases hv'
    exact .inl ⟨hb,v,hv,hc,W1,h1,h2⟩
  rw [H4c (by simp [hc])] at h;simp only [s0b] at h;obtain ⟨W1,h1,W2,h2,h3⟩:=h;exact .inr ⟨.inr ⟨hb,v,hv,hc⟩,_,_,h1,h2,h3⟩
theorem X6b (h:S.free a=some S'):∃ t k W before link next,S.tag a=some t/\Hp.wide S.sizes t=some k/\Hp.zero S.words a k=some W/\Hp.Hs.seek W a S.fuel 0 16=some (before,link)/\Hp.rd W link=some next /\
    ∃ W',S' = { S with words:=W',taken:=S.taken.erase a } /\ ((next=((a+k:Nat):Int) /\ ∃ after v W1 W2,Hp.rd W (a+k+2)=some after/\Hp.rc W (a+k+1)=some v/\Hp.ck ((k:Int)+v)=some ((k:Int)+v)/\Hp.wr W (a+k+1) 0=some W1/\Hp.wr W1 (a+k+2) 0=some W2/\O5a W2 a before link ((k:Int)+v) after=some W') \/
     (next ≠ ((a+k:Nat):Int)/\O5a W a before link (k:Int) next=some W')):=by
  unfold Hp.Hs.free at h;simp only [v9b,s0b] at h;obtain ⟨k,hk,W,hW,⟨before,link⟩,hs,next,hx,⟨wd,nx,W2⟩,hq,j,hj,h⟩:=h;obtain ⟨t,ht,hk⟩:=s0b.1 hk;refine ⟨t,k,W,before,link,next,ht,hk,hW,hs,hx, ?_⟩
  have key:∀ V (wd nx:Int) ,(∃ j,(if before ≠ 0 then (Hp.rc V (before+1)).bind fun v=>some (decide ((before:Int)+v=a)) else some false)=some j /\
      (if j=true then (Hp.rc V (before+1)).bind fun v=>(Hp.wr V (before+1) (v+wd)).bind fun W1=>(Hp.wr W1 (before+2) nx).bind fun W3=>some ({ S with words:=W3,taken:=S.taken.erase a }:Hp.Hs) else
       (Hp.wr V (a+1) wd).bind fun W1=>(Hp.wr W1 (a+2) nx).bind fun W3=>(Hp.wr W3 link a).bind fun W4=>some ({ S with words:=W4,taken:=S.taken.erase a }:Hp.Hs))=some S') ->
      ∃ W',S' = { S with words:=W',taken:=S.taken.erase a } /\ O5a V a before link wd nx=some W':=by
    rintro V wd nx ⟨j,hj,h⟩
    cases j with
    | true=>
     rw [H5c rfl] at h;simp only [s0b,z7b] at h;obtain ⟨v,hv,W1,h1,W3,h3,rfl⟩:=h;refine ⟨W3,rfl, ?_⟩;unfold O5a;simp only [v9b];rw [hj];simp [hv,h1,h3]
    | false=>
     rw [H4c (by simp)] at h;simp only [s0b,z7b] at h;obtain ⟨W1,h1,W3,h3,W4,h4,rfl⟩:=h;refine ⟨W4,rfl, ?_⟩;unfold O5a;simp only [v9b];rw [hj];simp [h1,h3,h4]
  by_cases hn:next=((a+k:Nat):Int)
  . rw [H5c hn] at hq;simp only [s0b,z7b,F1c] at hq;obtain ⟨after,ha,v,hv,c,hc,V1,h1,V2,h2,rfl,rfl,rfl⟩:=hq;obtain ⟨rfl,_⟩:=J4a hc;obtain ⟨W',e,hW'⟩:=key _ _ _ ⟨j,hj,h⟩;exact ⟨W',e,.inl ⟨hn,_,v,V1,_,ha,hv,hc,h1,h2,hW'⟩⟩
  rw [H4c hn] at hq;simp only [z7b,F1c] at hq;obtain ⟨rfl,rfl,rfl⟩:=hq;obtain ⟨W',e,hW'⟩:=key _ _ _ ⟨j,hj,h⟩;exact ⟨W',e,.inr ⟨hn,hW'⟩⟩
theorem Z2b (h:HAt w d S) (hr:S.free a=some S') :
    Calls prog 161 #[.pointer (some ⟨d.hb,0,none⟩),.int .i64 a] w (Turned d w (.tuple #[]) S'):=by
  obtain ⟨t,k,W,before,link,next,ht,hk,hW,hs,hx,W',rfl,hq⟩:=X6b hr;have hwk:=A7b h hk;have sm:=h.small;have hle:=h.le;have hcap:=h.cap;have apn:=h.apart1;have apn':=h.apart1.symm;have c0:=h.c0;have c1:=h.c1;have z1:=h.lt;have hz:=HAt.O7a hW;generalize hn:S.words.length=n at sm hle hz;have EN:=hZ hn;have EL:=hZ hz.1;have hzl:=hz.2;have H:=hZ (Now.refl h);have HTG:=hZ ht;have HK:=hZ hk;have HW:=hZ hW;have HS:=hZ hs;have HX:=hZ hx;have HQ0:=hZ hq;clear h hr ht hk hW hs hx hz hn hq;go_enter func161,ntmps161
  go_wp2_with fail
  have pr10a:=Ext.r c0;have pr10b:=Ext.r c1
  refine rg0 w ?_
  refine' tkd 0 ?_;refine' tkd 2 ?_;refine' tkd 4 ?_;refine' tkC 6 (.int .i64 t) 76 (fun w hE=>F4a (H.out.toHAt.ext hE).c2 rfl H.out.le H.out.cap (H.out.toHAt.ext hE).words HTG.out) ?_;refine' tkC 7 (.int .i64 k) 123 (fun w hE=>V7a (H.out.toHAt.ext hE).sizes HK.out (by omega)) ?_;refine' tkL 8 ?_;refine A0a (by kernel_rfl) ?_ _;intro x1 _ Ex1;clear pr10a pr10b;have N0:=hZ (H.out.ext Ex1);have c3:=N0.out.c3;clear c0 c1 z1;go_upto_region 2 with (at_delete;refine X1a rfl _ _ rfl rfl rfl N0.out.map (by omega) ?_;intro w2 hm2 ht2;go_frame)
  have N2:=hZ (N0.out.mapped ht2 hm2 (fun x hx=>N0.out.below x (List.mem_of_mem_erase hx)));clear hm2 ht2 c3 N0 Ex1;have c2:=N2.out.len EN.out;have hcl:=fun c ty=>N9a N2.out.toHAt HW.out (by omega) c ty
  have N2c:=hZ (N2.out.clear HW.out);go_upto_region 3 with (fail)
  refine Now.cut N2c.out ?_;intro w3 N3';have N3:=hZ N3';clear N3' c2 hcl N2c N2;obtain ⟨_,x16,_,h16,_⟩:=j9a HS.out;have g16:=N3.out.words.get (C6a h16);have l16:=G0a (C6a h16);rw [EL.out] at l16;have c2:=N3.out.len EL.out;have X16:=hZ h16;clear h16
  go_wp2_with fail
  clear c2 g16
  go_loopg [5,6,7] S.fuel (fun g b l s wr=>∃ m bf lk nx:Nat,wr=w3/\m<=g/\b = .int .i64 bf/\l = .int .i64 lk/\s = .int .i64 nx/\lk < n/\Hid (Hp.ra W lk=some nx)/\Hid (Hp.Hs.seek W a m bf lk=some (before,link)))
  case atStart=>exact ⟨S.fuel,0,16,x16,rfl,H0c _,rfl,rfl,rfl,l16,X16,HS⟩
  case round=>
   obtain ⟨m,bf,lk,nx,rfl,hm,rfl,rfl,rfl,hll,RA,SK⟩:=hrel;obtain ⟨n',nx',hn',hnx',hsk⟩:=j9a SK.out;have e:=RA.out;rw [hnx'] at e
   cases e
   have HN:=hZ hn';clear hn' hnx'
   rcases hsk with ⟨h0,h1,h2⟩ | ⟨hne0,he⟩
   . have u0:((nx:Int) != 0)=true:=by simpa using h0
     have u1:decide (nx < a)=true:=E5c h1;obtain ⟨_,nx2,_,hnx2,_⟩:=j9a h2;have g2:=N3.out.words.get (C6a hnx2);have l2:=G0a (C6a hnx2);rw [EL.out] at l2;have c2:=N3.out.len EL.out;have X2:=hZ hnx2;have SK2:=hZ h2;clear h0 h1 h2 hnx2
     go_wp2_with fail
     go_roundg n'
     case measure=>have:=HN.out;omega
     case rel=>exact ⟨n',nx,nx+2,nx2,rfl,H0c _,rfl,by go_num,rfl,l2,X2,SK2⟩
   obtain ⟨rfl,rfl⟩:=by simpa using he
   obtain rfl:next=(nx:Int):=by
    have h1:=HX.out;rw [C6a RA.out] at h1;exact (D3c h1).symm
   have hq:=HQ0.out;clear he HQ0;go_upto_region 5 with (fail)
   go_cut [45] (fun s45 W=>s45 = .bool false/\W=wr)
   case first=>
    by_cases hz0:nx=0
    . have u0:((nx:Int) != 0)=false:=by simpa using hz0
      clear hq
      go_wp2_with fail
      go_meet
      exact ⟨rfl,rfl⟩
    have hge:a<=nx:=by
     apply r0b;intro hlt;exact hne0 ⟨hz0,by omega⟩
    have u0:((nx:Int) != 0)=true:=by simpa using hz0
    have u1:decide (nx < a)=false:=dF;clear hq
    go_wp2_with fail
    go_meet
    exact ⟨rfl,rfl⟩
   case rest=>
   obtain ⟨rfl,hw⟩:=hcut;obtain rfl:=hw.symm;have c2:=N3.out.len EL.out;have gl:=N3.out.words.get (C6a RA.out);have hnx:=N3.out.words.bound (C6a RA.out);have hnx1:=hnx.1;have hnx2:=hnx.2;have HQ:=hZ hq;have HNE:=hZ hne0;clear hnx hq hne0
   go_upto_if 67 with (fail)
   clear gl c2
   go_cut [4,8] (fun s4 s8 w5=>∃ (K X:Int) (V:List Int),s4 = .int .i64 K/\s8 = .int .i64 X/\Hid (Now w w5 d { S with words:=V,taken:=S.taken.erase a })/\Hid (V.length=n)/\Hid (O5a V a before link K X=some W')/\(-4611686018427387904 < K/\K < 4611686018427387904)/\(-9223372036854775808<=X/\X<=9223372036854775807))
   case first=>
    rcases HQ.out with ⟨hne,after,v0,U1,U2,haf,hv0,hck,hU1,hU2,hft⟩ | ⟨hne,hft⟩
    . have e:a+k=nx:=by omega
      have u2:((nx:Int) == (a:Int)+(k:Int))=true:=by simpa using (by omega:(nx:Int)=(a:Int)+(k:Int))
      rw [e] at haf hv0 hU1 hU2;obtain ⟨hv0,hv1,hv2⟩:=S3a hv0;obtain ⟨-,hw1,hw2⟩:=J4a hck;have ha:=N3.out.words.bound haf;have ha1:=ha.1;have ha2:=ha.2;have g0:=N3.out.words.get hv0;have g4:=N3.out.words.get haf;have l3:=G0a hv0;rw [EL.out] at l3;have l4:=G0a haf;rw [EL.out] at l4;have EL5:=hZ (((HAt.D9a hU2).1.trans (HAt.D9a hU1).1).trans EL.out);have HT:=hZ hft;have HV0:=hZ hv0;have HAF:=hZ haf;have HU1:=hZ hU1;have HU2:=hZ hU2;clear hne e hft hv0 haf hU1 hU2 ha hck;have c2:=N3.out.len EL.out;go_upto_region 12 with (fail)
      clear u2 g0 g4 c2;have c2:=N3.out.len EL.out;have z1:=N3.out.lt;obtain ⟨i1,i2,i3,i4⟩:IntKind.i64.wrap (((nx:Nat):Int)+1)=((nx:Nat):Int)+1/\(0:Int)<=((nx:Nat):Int)+1/\((nx:Nat):Int)+1 < ((n:Nat):Int)/\(((nx:Nat):Int)+1).toNat=nx+1:=⟨E4c _ (by omega),by omega,by omega,by omega⟩
      obtain ⟨j1,j2,j3,j4⟩:IntKind.i64.wrap (((nx:Nat):Int)+2)=((nx:Nat):Int)+2/\(0:Int)<=((nx:Nat):Int)+2/\((nx:Nat):Int)+2 < ((n:Nat):Int)/\(((nx:Nat):Int)+2).toNat=nx+2:=⟨E4c _ (by omega),by omega,by omega,by omega⟩
      refine wp_region_any (by kernel_rfl) ?_;refine' tkB 10 ?_;refine' tkB 11 ?_;have pr11a:=Ext.r c2
      refine B3a (S:=fun W=>Ext wr W) (R:=Ext) 12 10 Ext.refl ?_ ?_ (by rfl)
      . exact Ext.drew exx
      refine' tkY 0 ?_;refine' tkY 1 ?_;refine' tkY 2 ?_;refine' tkY 3 ?_;refine' tkY 4 ?_;refine' tkY 5 ?_;refine' tkY 6 ?_;refine' tkY 7 ?_;refine' tkY 8 ?_;refine' tkY 9 ?_;refine A9a (by kernel_rfl) ?_;intro wq _ Ewq;clear pr11a;simp only [v0b,D9c];clear c2 z1 i1 i2 i3 i4 j1 j2 j3 j4;have N4:=hZ (N3.out.ext Ewq);have g1:=N4.out.words.get HV0.out;have g2:=N4.out.words.get HAF.out;have f1:=N4.out.words.froz (nx+1);have f2:=N4.out.words.froz (nx+2);have N5':=hZ ((N4.out.set HU1.out (by omega) (by omega)).set HU2.out (by omega) (by omega));go_upto_region 13 with (fail)
      refine Now.cut N5'.out ?_;clear N5' N4 g1 g2 f1 f2 Ewq;intro w5 N5';have N5:=hZ N5';clear N5'
      go_wp2_with fail
      go_meet
      exact ⟨_,_,_,rfl,rfl,N5,EL5,HT,⟨hw1,hw2⟩,ha1,ha2⟩
    have u2:((nx:Int) == (a:Int)+(k:Int))=false:=by
     simpa using (fun e=>hne (by rw [e];simp):¬ (nx:Int)=(a:Int)+(k:Int))
    have HT:=hZ hft;clear hne hft
    go_wp2_with fail
    go_meet
    exact ⟨_,_,_,rfl,rfl,N3,EL,HT,⟨by omega,by omega⟩,by omega,by omega⟩
   case rest=>
   obtain ⟨K,X,V,rfl,rfl,N5,EL5,HT,⟨hK1,hK2⟩,hX1,hX2⟩:=hcut;obtain ⟨w5,hw5⟩:∃ x,x=wc:=⟨_,rfl⟩
   subst hw5;clear HQ HNE hnx1 hnx2
   rcases q6a HT.out with ⟨hb,v,hv,hc,V1,h1,h2⟩ | ⟨hb,V1,V2,h1,h2,h3⟩
   . have t0:((before:Int) != 0)=true:=by simpa using hb
     obtain ⟨hv,hv1,hv2⟩:=S3a hv;have gv:=N5.out.words.get hv;have lv:=G0a hv;rw [EL5.out] at lv;have t1:((before:Int)+v == (a:Int))=true:=by simpa using hc
     have c2:=N5.out.len EL5.out;have fv:=N5.out.words.froz (before+1);have NY:=hZ (N5.out.set h1 (by omega) (by omega));have EL1:=hZ ((HAt.D9a h1).1.trans EL5.out);have H2:=hZ h2;have l2:=(HAt.D9a h2).2;rw [EL1.out] at l2;clear hb hv hc h1 h2;go_upto_region 16 with (fail)
     refine Now.cut NY.out ?_;clear NY gv fv c2;intro wy NY';have NY:=hZ NY';clear NY';have c2:=NY.out.len EL1.out;obtain ⟨y3,hy3⟩:=A4a (HAt.D9a H2.out).2;have g3:=NY.out.words.get hy3;have f3:=NY.out.words.froz (before+2);have Y3:=hZ hy3;clear hy3
     go_wp2_with fail
     go_returns;exact (NY.out.set H2.out hX1 hX2).done
   have c2:=N5.out.len EL5.out;go_upto_region 14 with (fail)
   go_cut [116] (fun s116 W=>s116 = .bool false/\W=w5)
   case first=>
    rcases hb with hb | ⟨hb,v,hv,hc⟩
    . have t0:((before:Int) != 0)=false:=by simpa using hb
      clear hb h1 h2 h3
      go_wp2_with fail
      go_meet
      exact ⟨rfl,rfl⟩
    have t0:((before:Int) != 0)=true:=by simpa using hb
    obtain ⟨hv,hv1,hv2⟩:=S3a hv;have gv:=N5.out.words.get hv;have lv:=G0a hv;rw [EL5.out] at lv;have t1:((before:Int)+v == (a:Int))=false:=by simpa using hc
    clear hb hv hc h1 h2 h3
    go_wp2_with fail
    go_meet
    exact ⟨rfl,rfl⟩
   case rest=>
    obtain ⟨rfl,hw⟩:=hcut;obtain rfl:=hw.symm;clear hb;have e1:=HAt.D9a h1;have e2:=HAt.D9a h2;have e3:=HAt.D9a h3;have l1:=e1.2;rw [EL5.out] at l1;have l2:=e2.2;rw [e1.1,EL5.out] at l2;obtain ⟨y1,hy1⟩:=A4a (l:=V) (j:=a+1) (by rw [EL5.out];exact l1);obtain ⟨y2,hy2⟩:=A4a (l:=V) (j:=a+2) (by rw [EL5.out];exact l2);have EL2:=hZ (e2.1.trans (e1.1.trans EL5.out));have Y1:=hZ hy1;have Y2:=hZ hy2;have H1:=hZ h1;have H2:=hZ h2;have H3:=hZ h3;clear e1 e2 e3 hy1 hy2 h1 h2 h3;go_upto_region 17 with (fail)
    (try clear c2)
    have c2:=N5.out.len EL5.out;have z1:=N5.out.lt;obtain ⟨i1,i2,i3,i4⟩:IntKind.i64.wrap (((a:Nat):Int)+1)=((a:Nat):Int)+1/\(0:Int)<=((a:Nat):Int)+1/\((a:Nat):Int)+1 < ((n:Nat):Int)/\(((a:Nat):Int)+1).toNat=a+1:=⟨E4c _ (by omega),by omega,by omega,by omega⟩
    obtain ⟨j1,j2,j3,j4⟩:IntKind.i64.wrap (((a:Nat):Int)+2)=((a:Nat):Int)+2/\(0:Int)<=((a:Nat):Int)+2/\((a:Nat):Int)+2 < ((n:Nat):Int)/\(((a:Nat):Int)+2).toNat=a+2:=⟨E4c _ (by omega),by omega,by omega,by omega⟩
    refine wp_region_any (by kernel_rfl) ?_;refine' tkB 10 ?_;refine' tkB 11 ?_;refine' tkB 13 ?_;have pr12a:=Ext.r c2
    refine B3a (S:=fun W=>Ext w5 W) (R:=Ext) 14 11 Ext.refl ?_ ?_ (by rfl)
    . exact Ext.drew exx
    refine' tkY 0 ?_;refine' tkY 1 ?_;refine' tkY 2 ?_;refine' tkY 3 ?_;refine' tkY 4 ?_;refine' tkY 5 ?_;refine' tkY 6 ?_;refine' tkY 7 ?_;refine' tkY 8 ?_;refine' tkY 9 ?_;refine' tkY 12 ?_;refine A9a (by kernel_rfl) ?_;intro wz _ Ewz;clear pr12a;simp only [v0b,D9c];clear c2 z1 i1 i2 i3 i4 j1 j2 j3 j4;have NZ:=hZ (N5.out.ext Ewz);have g1:=NZ.out.words.get Y1.out;have g2:=NZ.out.words.get Y2.out;have f1:=NZ.out.words.froz (a+1);have f2:=NZ.out.words.froz (a+2);have NY:=hZ ((NZ.out.set H1.out (by omega) (by omega)).set H2.out hX1 hX2);go_upto_region 18 with (fail)
    refine Now.cut NY.out ?_;clear NY NZ g1 g2 f1 f2 Ewz;intro wy NY';have NY:=hZ NY';clear NY';have c2:=NY.out.len EL2.out;obtain ⟨y3,hy3⟩:=A4a (HAt.D9a H3.out).2;have g3:=NY.out.words.get hy3;have f3:=NY.out.words.froz link;have Y3:=hZ hy3;clear hy3
    go_wp2_with fail
    go_returns;exact (NY.out.set H3.out (by omega) (by omega)).done
open Go.RowKit Go.Maps Go.WideElems Go.ChangeMaps
end Go.Proofs.YtdokmmhjmclmnaaGreat
