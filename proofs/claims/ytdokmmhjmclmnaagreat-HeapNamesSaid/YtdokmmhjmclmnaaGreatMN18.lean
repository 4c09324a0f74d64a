/-
  Part 18 of a proof: PL6 PL7 PL8 PL9 PL10 PL11 PL12 PL14 PL15 PL16.
-/
import Derived.Test.YtdokmmhjmclmnaaGreatMN01
import Derived.Test.YtdokmmhjmclmnaaGreatMN03
import Derived.Test.YtdokmmhjmclmnaaGreatMN16
import Derived.Test.YtdokmmhjmclmnaaGreatMN17
set_option linter.unusedSimpArgs false
set_option linter.unusedVariables false
set_option linter.unusedSectionVars false
set_option linter.unnecessarySimpa false
namespace Go.Proofs.YtdokmmhjmclmnaaGreat
namespace Hp
structure New (S:Hs) (t:Int) (fs:List Int):Prop where
 tag:okTag S.sizes t=true
 len:fs.length=wz S.sizes t-4
 ends:isEnd t=true → ∀ x ∈ fs,-9999 ≤ x ∧ x ≤ 9999 ∧ (20 < t → x=0)
 kids:isEnd t=false → ∀ x ∈ fs,∃ b ∈ S.taken,x=(b:Int) ∧ rank S.order t < rank S.order (ow S.words b)
 flat:isEnd t=false → Hs.alike fs=false
def ksOf (t:Int) (fs:List Int):List Int:=if isEnd t then [] else fs
structure Put (S S':Hs) (t:Int) (fs:List Int) (a:Nat):Prop where
 sizes:S'.sizes=S.sizes
 order:S'.order=S.order
 len:S'.words.length=S.words.length
 taken:S'.taken=Hs.insert a S.taken
 new:a ∉ S.taken
 tag:ow S'.words a=t
 fs:fz (ow S'.words) S.sizes a=fs
 one:ow S'.words (a+1)=0
 two:ow S'.words (a+2)=0
 old:Same (ow S.words) (ow S'.words) S.sizes S.taken
 hold:∀ b ∈ S.taken,ow S'.words (b+2)=ow S.words (b+2)
theorem ck_of {S:Hs} {B:Nat} {L:List Tl} {ch:Nat → List Nat} (h:Wf S B L ch) {t:Int} {fs:List Int} (hn:New S t fs):chain t fs=some (cz t fs):=by
 have h1:=okTag_le h.fr.toFr hn.tag
 have h2:=wz_ok h.fr.toFr hn.tag
 refine chain_cz (by omega) (fun x hx=>?_) (by rw [hn.len];omega)
 cases he:isEnd t with
 | true=>have:=hn.ends he x hx;omega
 | false=>
  obtain ⟨b,hb,rfl,_⟩:=hn.kids he x hx;have:=h.part hb;have:=h.hi;omega
theorem getD_cut {fs:List Int} {i:Nat} {g:Nat → Int} (h:∀ k,k < fs.length → g (i+k)=fs.getD k 0):cut g i fs.length=fs:=by
 apply List.ext_getElem?
 intro k
 by_cases hk:k < fs.length
 · rw [cut_get hk,h k hk,List.getElem?_eq_getElem hk];simp [List.getD,List.getElem?_eq_getElem hk]
 · rw [List.getElem?_eq_none (by rw [cut_length];omega),List.getElem?_eq_none (by omega)]
theorem Links.move {f g:Nat → Int}:∀ {l l':Nat} {L:List Tl} {x:Int},Links f l L x → g l'=f l → (∀ t ∈ L,t.fr=true → g (t.a+2)=f (t.a+2)) → Links g l' L x
 | _,_,[],_,h,e,_=>e.trans h
 | l,l',t :: r,x,h,e,hm=>by
  unfold Links at h ⊢
  cases hf:t.fr
  · rw [hf] at h;simp only [Bool.false_eq_true,if_false] at h ⊢;exact Links.move h e fun u hu=>hm u (by simp [hu])
  · rw [hf] at h;simp only [if_true] at h ⊢;exact ⟨e.trans h.1,Links.move h.2 (hm t (by simp) hf) fun u hu=>hm u (by simp [hu])⟩
theorem Path.move {f g:Nat → Int}:∀ {l l':Nat} {r:List Nat},Path f l r → g l'=f l → (∀ a ∈ r,g (a+3)=f (a+3)) → Path g l' r
 | _,_,[],h,e,_=>e.trans h
 | _,_,a :: r,h,e,hm=>⟨e.trans h.1,h.2.1,Path.move h.2.2 (hm a (by simp)) fun b hb=>hm b (by simp [hb])⟩
theorem Sep.cons {t:Tl} {Q:List Tl}:Sep (t :: Q) ↔ ¬ (t.fr=true ∧ hdF Q=true) ∧ Sep Q:=by
 cases Q with
 | nil=>simp [Sep,hdF]
 | cons u r=>rfl
theorem cnt_zero {f:Nat → Int} {z:List Int} {a:Nat}:∀ {Src:List Nat},(∀ b ∈ Src,∀ x ∈ kz f z b,x ≠ (a:Int)) → cnt f z a Src=0
 | [],_=>rfl
 | b :: r,h=>by
  unfold cnt;rw [cnt_zero fun c hc=>h c (by simp [hc]),List.count_eq_zero.2 fun hm=>h b (by simp) _ hm rfl]
theorem takeF_out {f:Nat → Int} {link wide j:Nat} {t:Tl} (hf:Fits wide t) (hj:j < t.a ∨ t.a+t.k ≤ j) (hl:j ≠ link):takeF f link t wide j=f j:=by
 unfold Fits at hf
 unfold takeF
 rw [if_neg (show ¬ (t.a ≤ j ∧ j < t.a+wide) by omega)]
 by_cases hk:t.k=wide
 · rw [if_pos hk,if_neg hl]
 · rw [if_neg hk,if_neg hl,if_neg (show ¬ j=t.a+wide+2 by omega),if_neg (show ¬ j=t.a+wide+1 by omega),if_neg (show ¬ j=t.a+wide by omega)]
theorem use_bd {x n:Int} (h1:0 ≤ x) (h2:x ≤ 100000) (h3:0 ≤ n) (h4:n ≤ 100) : -1000000000+n ≤ x ∧ x+n ≤ 1000000000:=by omega
theorem lastL_where {l:Nat} {L:List Tl}:lastL l L=l ∨ ∃ t ∈ L,t.fr=true ∧ lastL l L=t.a+2:=lastL_is
set_option maxHeartbeats 2000000 in
theorem add_wf {S:Hs} {B:Nat} {L:List Tl} {ch:Nat → List Nat} (h:Wf S B L ch) {t:Int} {fs:List Int} (hn:New S t fs) :
    (∃ a ∈ S.taken,ow S.words a=t ∧ fz (ow S.words) S.sizes a=fs ∧ S.add t fs=some (a,S)) ∨
    (∀ a ∈ S.taken,¬ (ow S.words a=t ∧ fz (ow S.words) S.sizes a=fs)) ∧
     (((∀ u ∈ L,u.fr=true → ¬ Fits (wz S.sizes t) u) ∧ S.add t fs=some (0,S)) ∨
      ∃ P u Q S',L=P ++ u :: Q ∧ (∀ v ∈ P,v.fr=true → ¬ Fits (wz S.sizes t) v) ∧ u.fr=true ∧ Fits (wz S.sizes t) u ∧ S.add t fs=some (u.a,S') ∧ Put S S' t fs u.a ∧
       Wf S' B (P ++ ⟨u.a,wz S.sizes t,false⟩ :: ((if u.k=wz S.sizes t then [] else [⟨u.a+wz S.sizes t,u.k-wz S.sizes t,true⟩]) ++ Q)) (fun c=>if c=cz t fs then u.a :: ch c else ch c)):=by
  have hck:=ck_of h hn;have hlen:=hn.len;have hwz:=wz_ok h.fr.toFr hn.tag;have hlo:=h.lo;have hhi:=h.hi
  rcases look_spec h hck (cz_lt _ _) with ⟨a,ha,h1,h2,h3⟩ | ⟨hmiss,h3⟩
  · left;refine ⟨a,ha,h1,h2, ?_⟩;have:=h.part ha;unfold Hs.add;rw [h3];simp only [Option.bind_eq_bind,Option.bind_some];rw [if_pos (by omega)]
  · right;refine ⟨hmiss, ?_⟩
    have hadd:S.add t fs=(do
        let (a,W) ← S.take (wz S.sizes t)
        if a=0 then some (0,{ S with words:=W }) else
        let x ← rd W (cz t fs)
        let W ← wr (← wr W a t) (a+3) x
        let W ← lay W (a+4) fs
        let W ← wr W (cz t fs) a
        let S1:Hs:={ S with words:=W,taken:=Hs.insert a S.taken }
        let W ← Hs.use 1 (← S1.kids a).length (a+4) W
        some (a,{ S1 with words:=W })):=by
      unfold Hs.add;rw [h3,hwz.1,hck];simp only [Option.bind_eq_bind,Option.bind_some];rfl
    have hLl:=lay_len_ h.parts.lay
    rcases first_fit (wz S.sizes t) L with hf | ⟨P,u,Q,hL,hP,hu,hfit⟩
    · left;refine ⟨hf, ?_⟩;have e:=takeFrom_miss (W:=S.words) (z:=S.sizes) (wide:=wz S.sizes t) hhi L 16 S.fuel 17 h.parts.links h.parts.lay h.parts.ok (by omega) (by omega) hf (by unfold Hs.fuel;omega);rw [hadd];unfold Hs.take;rw [e];rfl
    · right;subst hL;obtain ⟨W1,e1,l1,g1⟩:=takeFrom_hit (W:=S.words) (z:=S.sizes) (wide:=wz S.sizes t) hhi hwz.2.1 hu hfit P 16 S.fuel 17 h.parts.links h.parts.lay h.parts.ok (by omega) (by omega) hP (by simp only [List.length_append,List.length_cons] at hLl;unfold Hs.fuel;omega);have hk:S.take (wz S.sizes t)=some (u.a,W1):=e1;obtain ⟨lP,l3,lQ⟩:=h.parts.lay.parts;have hum:=h.parts.lay.mem (t:=u) (by simp);have hll:=lastL_lt lP (l:=16) (by omega);have huk:wz S.sizes t ≤ u.k:=by unfold Fits at hfit;omega
      obtain ⟨um1,um2,um3⟩:=hum;have hc16:=cz_lt t fs;generalize hw0:wz S.sizes t=wd at *;generalize hc0:cz t fs=c at *;generalize ha0:u.a=a at *;generalize hlk:lastL 16 P=link at *;obtain ⟨W2,e2,l2,g2⟩:=wr_ow (W:=W1) (i:=a) t (by omega);obtain ⟨W3,e3,l3',g3⟩:=wr_ow (W:=W2) (i:=a+3) (ow W1 c) (by omega);obtain ⟨W4,e4,l4,g4⟩:=lay_ow (W:=W3) (i:=a+4) (l:=fs) (by omega);obtain ⟨W5,e5,l5,g5⟩:=wr_ow (W:=W4) (i:=c) (a:Int) (by omega);have hfl:fs.length=wd-4:=hlen
      -- the words behind all this
      have G:∀ j,ow W5 j=if j=c then (a:Int) else if a+4 ≤ j ∧ j < a+wd then fs.getD (j-(a+4)) 0 else if j=a+3 then ow S.words c else if j=a then t else takeF (ow S.words) link u wd j:=fun j=>by
       rw [g5,g4,g3,g2];have ec:ow W1 c=ow S.words c:=by
        rw [g1];exact takeF_out hfit (by omega) (by omega)
       rw [ec,← g1];simp only [show a+4+fs.length=a+wd by omega]
      have hkids:Hs.kids { S with words:=W5,taken:=Hs.insert a S.taken } a=some (ksOf t fs):=by
       have et:ow W5 a=t:=by
        rw [G,if_neg (by omega),if_neg (by omega),if_neg (by omega),if_pos rfl]
       have:=kids_ow (S:={ S with words:=W5,taken:=Hs.insert a S.taken }) (a:=a) h.fr.toFr (by show okTag S.sizes (ow W5 a)=true;rw [et];exact hn.tag) (by show a+wz S.sizes (ow W5 a) ≤ W5.length;rw [et,hw0];omega);rw [this];unfold kz ksOf;show some (if isEnd (ow W5 a)=true then [] else fz (ow W5) S.sizes a)=_;rw [et]
       congr 1
       split
       · rfl
       · unfold fz;rw [et,hw0,← hfl];exact getD_cut fun k hk=>by
          rw [G,if_neg (by omega),if_pos (by omega)]
          congr 1
          omega
      have hks:∀ x ∈ ksOf t fs,∃ b ∈ S.taken,x=(b:Int) ∧ rank S.order t < rank S.order (ow S.words b):=by
       intro x hx;unfold ksOf at hx
       cases he:isEnd t with
       | true=>rw [he] at hx;simp at hx
       | false=>
        rw [he] at hx;exact hn.kids he x (by simpa using hx)
      have hksl:(ksOf t fs).length ≤ wd-4:=by
       unfold ksOf
       split
       · simp
       · omega
      have huL:u ∈ P ++ u :: Q:=by simp
      have uap:∀ b ∈ S.taken,b+wz S.sizes (ow S.words b) ≤ a ∨ a+u.k ≤ b:=fun b hb=>by
       have:=h.apart hb huL hu;rw [ha0] at this;exact this
      have linkP:link=16 ∨ ∃ v ∈ P,v.fr=true ∧ link=v.a+2:=by
       rw [← hlk];exact lastL_where
      have linkC:∀ b ∈ S.taken,∀ i,i < wz S.sizes (ow S.words b) → b+i ≠ link:=fun b hb i hi=>by
       have:=h.part hb
       rcases linkP with e | ⟨v,hv,hvf,e⟩
       · omega
       · have:=h.apart hb (t:=v) (by simp [hv]) hvf;have:=h.parts.lay.mem (t:=v) (by simp [hv]);omega
      have G0:∀ b ∈ S.taken,∀ i,i < wz S.sizes (ow S.words b) → ow W5 (b+i)=ow S.words (b+i):=fun b hb i hi=>by
       have h1:=h.part hb;have h2:=uap b hb;have h3:=linkC b hb i hi;rw [G,if_neg (by omega),if_neg (by omega),if_neg (by omega),if_neg (by omega)];exact takeF_out hfit (by omega) h3
      have cutk:cut (ow W5) (a+4) (ksOf t fs).length=ksOf t fs:=by
       unfold ksOf
       split
       · rfl
       · exact getD_cut fun k hk=>by
           rw [G,if_neg (by omega),if_pos (by omega)]
           congr 1
           omega
      have hks12:((ksOf t fs).length:Int) ≤ 100:=by omega
      have hks0:(0:Int) ≤ ((ksOf t fs).length:Int):=by omega
      obtain ⟨W6,e6,l6,g6⟩:=use_spec 1 (by omega) (ksOf t fs).length (a+4) W5 (by omega) (fun i hi=>by
       have hm:ow W5 (a+4+i) ∈ ksOf t fs:=by
        rw [← cutk];exact mem_cut.2 ⟨i,hi,rfl⟩
       obtain ⟨b,hb,e,_⟩:=hks _ hm;have h1:=h.part hb;have h2:=uap b hb;have h3:=h.uses_le hb;have h4:=G0 b hb 1 (by omega);rw [← h4] at h3;have h5:=use_bd h3.1 h3.2 hks0 hks12;have h6:b+1 < W5.length:=by clear h3 h4 h5;omega
       have h7:b+1 < a+4 ∨ a+4+(ksOf t fs).length ≤ b+1:=by clear h3 h4 h5;omega
       exact ⟨b,e,h6,h7,h5⟩)
      rw [cutk] at g6;have g6':∀ x,(∀ b ∈ S.taken,x ≠ b+1) → ow W6 x=ow W5 x:=fun x hx=>by
       rw [g6,List.count_eq_zero.2]
       · simp
       · intro hm;obtain ⟨b,hb,e,_⟩:=hks _ hm;exact hx b hb (by omega)
      have F1:∀ b ∈ S.taken,∀ i,i < wz S.sizes (ow S.words b) → i ≠ 1 → ow W6 (b+i)=ow S.words (b+i):=fun b hb i hi h1=>by
       rw [g6' _ fun b' hb'=>h.ne hb hb' hi (by have:=h.part hb';omega) (.inr h1)];exact G0 b hb i hi
      have F2:∀ b ∈ S.taken,ow W6 (b+1)=ow S.words (b+1)+((ksOf t fs).count (b:Int):Nat):=fun b hb=>by
       rw [g6,G0 b hb 1 (by have:=h.part hb;omega)]
       push_cast
       rw [show (b:Int)+1-1=b by omega];omega
      have F3:∀ j,a ≤ j → j < a+u.k → ow W6 j=ow W5 j:=fun j h1 h2=>g6' _ fun b hb=>by
       have:=uap b hb;have:=h.part hb;omega
      have F4:∀ j,j < 18 → ow W6 j=ow W5 j:=fun j h1=>g6' _ fun b hb=>by
       have:=h.part hb;omega
      have F5:∀ v ∈ P ++ u :: Q,v.fr=true → ∀ j,v.a ≤ j → j < v.a+v.k → ow W6 j=ow W5 j:=fun v hv hf j h1 h2=>g6' _ fun b hb=>by
       have:=h.apart hb hv hf;have:=h.part hb;omega
      have hold:Same (ow S.words) (ow W6) S.sizes S.taken:=fun b hb=>by
       have:=h.part hb;refine ⟨by simpa using F1 b hb 0 (by omega) (by omega),fun i hi=>?_⟩;have:=F1 b hb (4+i) (by omega) (by omega);rw [← Nat.add_assoc] at this;exact this
      have hnew:a ∉ S.taken:=fun ha=>by
       have:=uap a ha;have:=h.part ha;omega
      have nt:ow W6 a=t:=by
       rw [F3 a (by omega) (by omega),G,if_neg (by omega),if_neg (by omega),if_neg (by omega),if_pos rfl]
      have nf:fz (ow W6) S.sizes a=fs:=by
       unfold fz;rw [nt,hw0,← hfl];exact getD_cut fun k hk=>by
        rw [F3 _ (by omega) (by omega),G,if_neg (by omega),if_pos (by omega)]
        congr 1
        omega
      have nk:kz (ow W6) S.sizes a=ksOf t fs:=by
       unfold kz ksOf;rw [nt,nf]
      have n1:ow W6 (a+1)=0:=by
       rw [F3 _ (by omega) (by omega),G,if_neg (by omega),if_neg (by omega),if_neg (by omega),if_neg (by omega)];unfold takeF;rw [ha0,if_pos (by omega)]
      have n2:ow W6 (a+2)=0:=by
       rw [F3 _ (by omega) (by omega),G,if_neg (by omega),if_neg (by omega),if_neg (by omega),if_neg (by omega)];unfold takeF;rw [ha0,if_pos (by omega)]
      have n3:ow W6 (a+3)=ow S.words c:=by
       rw [F3 _ (by omega) (by omega),G,if_neg (by omega),if_neg (by omega),if_pos rfl]
      have hc:ow W6 c=(a:Int):=by rw [F4 _ (by omega),G,if_pos rfl]
      have TK:∀ j,(j < a ∨ a+wd ≤ j) → j ≠ c → ow W5 j=takeF (ow S.words) link u wd j:=fun j h1 h2=>by
       rw [G,if_neg h2,if_neg (by omega),if_neg (by omega),if_neg (by omega)]
      have hh:∀ c',c' < 16 → c' ≠ c → ow W6 c'=ow S.words c':=fun c' h1 h2=>by
       rw [F4 _ (by omega),TK _ (by omega) h2];exact takeF_out hfit (by omega) (by omega)
      -- free parts but this one
      have FV:∀ v ∈ P ++ u :: Q,v.fr=true → v ≠ u → ∀ j,v.a ≤ j → j < v.a+v.k → j ≠ link → ow W6 j=ow S.words j:=fun v hv hf hne j h1 h2 h3=>by
       have hm:=h.parts.lay.mem hv;have hs:=h.parts.lay.sep hv huL;rw [ha0] at hs;have hs:v.a+v.k ≤ a ∨ a+u.k ≤ v.a:=by
        rcases hs with e | e
        · exact absurd e hne
        · exact e
       rw [F5 v hv hf j h1 h2,TK _ (by omega) (by omega)];exact takeF_out hfit (by omega) h3
      have PNE:∀ v ∈ P,v ≠ u ∧ v.a+v.k ≤ a:=fun v hv=>by
       have:=lP.mem hv;refine ⟨fun e=>?_,this.2.1⟩;rw [e,ha0] at this;omega
      have QNE:∀ v ∈ Q,v ≠ u ∧ a+u.k ≤ v.a:=fun v hv=>by
       have:=lQ.mem hv;refine ⟨fun e=>?_,this.1⟩;rw [e,ha0] at this;omega
      obtain ⟨k1,k2⟩:=Links.app.1 h.parts.links;rw [hlk] at k2;simp only [Links,hu,if_true,ha0] at k2;have hlink:ow W6 link=if u.k=wd then ow S.words (a+2) else ((a+wd:Nat):Int):=by
       have e:ow W6 link=ow W5 link:=by
        rcases linkP with e | ⟨v,hv,hvf,e⟩
        · exact F4 _ (by omega)
        · have:=h.parts.lay.mem (t:=v) (by simp [hv]);exact F5 v (by simp [hv]) hvf _ (by omega) (by omega)
       rw [e,TK _ (by omega) (by omega)];unfold takeF;rw [ha0,if_neg (by omega)]
       split
       · rw [if_pos rfl]
       · rw [if_pos rfl]
      obtain ⟨s1,s2,s3⟩:=Sep.app.1 h.parts.sep;obtain ⟨s4,s5⟩:=Sep.cons.1 s2;generalize hR:(if u.k=wd then ([]:List Tl) else [⟨a+wd,u.k-wd,true⟩])=R;have hRo:R=[] ∧ u.k=wd ∨ R=[⟨a+wd,u.k-wd,true⟩] ∧ wd+3 ≤ u.k:=by
       rw [← hR]
       split
       · rename_i e;exact .inl ⟨rfl,e⟩
       · exact .inr ⟨rfl,by unfold Fits at hfit;omega⟩
      have hlay:Lay 17 (P ++ ⟨a,wd,false⟩ :: (R ++ Q)) S.words.length:=by
       refine Lay.app.2 ⟨a,lP,rfl,by show 3 ≤ wd;omega, ?_⟩;show Lay (a+wd) (R ++ Q) _
       rcases hRo with ⟨e,e'⟩ | ⟨e,e'⟩
       · rw [e,← e'];exact lQ
       · rw [e];refine ⟨rfl,by show 3 ≤ u.k-wd;omega, ?_⟩;show Lay (a+wd+(u.k-wd)) Q _;rw [show a+wd+(u.k-wd)=a+u.k by omega];exact lQ
      have hads:adsOf (P ++ ⟨a,wd,false⟩ :: (R ++ Q))=adsOf P ++ a :: adsOf Q:=by
       have e1:adsOf R=[]:=by rcases hRo with ⟨e,_⟩ | ⟨e,_⟩ <;> rw [e] <;> rfl
       rw [adsOf_app];show adsOf P ++ (adsOf ([⟨a,wd,false⟩] ++ (R ++ Q)))=_;rw [adsOf_app,adsOf_app,e1];rfl
      have htk0:S.taken=adsOf P ++ adsOf Q:=by
       rw [h.taken,adsOf_app];show adsOf P ++ adsOf ([u] ++ Q)=_;rw [adsOf_app];simp [adsOf,hu]
      have htk:Hs.insert a S.taken=adsOf (P ++ ⟨a,wd,false⟩ :: (R ++ Q)):=by
       refine up_ext (up_insert h.up) (adsOf_up hlay) fun x=>?_
       rw [mem_insert,hads,htk0];simp only [List.mem_append,List.mem_cons];constructor
       · rintro (h | h | h)
         · exact .inr (.inl h)
         · exact .inl h
         · exact .inr (.inr h)
       · rintro (h | h | h)
         · exact .inr (.inl h)
         · exact .inl h
         · exact .inr (.inr h)
      have ml:∀ b,b ∈ Hs.insert a S.taken ↔ b=a ∨ b ∈ S.taken:=fun b=>mem_insert
      have PUT:Put S { S with words:=W6,taken:=Hs.insert a S.taken } t fs a:=⟨rfl,rfl,by show W6.length=_;omega,rfl,hnew,nt,nf,n1,n2,hold,fun b hb=>F1 b hb 2 (by have:=h.part hb;omega) (by omega)⟩
      refine ⟨P,u,Q,{ S with words:=W6,taken:=Hs.insert a S.taken },rfl,hP,hu,hfit, ?_,by rw [ha0];exact PUT, ?_⟩
      · rw [hadd,hk,ha0];simp only [Option.bind_eq_bind,Option.bind_some];rw [if_neg (by omega:¬ a=0),rd_ow (by omega:c < W1.length)];simp only [Option.bind_some,e2,e3,e4,e5,hkids,e6]
      · rw [ha0,hR];have hl6:W6.length=S.words.length:=by omega
        exact
        { fr:=h.fr
          lo:=by show 20 ≤ W6.length;omega
          hi:=by show W6.length ≤ 100000;omega
          bd:=h.bd
          parts:=by
           show Parts (ow W6) S.sizes _ W6.length;rw [hl6];refine ⟨hlay,Links.app.2 ⟨?_, ?_⟩,Sep.app.2 ⟨s1,Sep.cons.2 ⟨by simp, ?_⟩,by simp [hdF]⟩,fun v hv=>?_⟩
           · refine k1.turn _ lP (by omega) ?_ (fun hne=>?_) fun v hv hf hne=>?_
             · rw [hlk,hlink];show _=headF (R ++ Q) 0
               rcases hRo with ⟨e,e'⟩ | ⟨e,e'⟩
               · rw [if_pos e',e];exact k2.2.head
               · rw [if_neg (by omega),e];rfl
             · rw [hlk] at hne;rw [F4 _ (by omega),TK _ (by omega) (by omega)];exact takeF_out hfit (by omega) hne
             · rw [hlk] at hne;have:=lP.mem hv;exact FV v (by simp [hv]) hf (PNE v hv).1 _ (by omega) (by omega) hne
           · rw [hlk];show Links (ow W6) link (R ++ Q) 0;have hq:∀ v ∈ Q,v.fr=true → ow W6 (v.a+2)=ow S.words (v.a+2):=fun v hv hf=>by
              have:=lQ.mem hv;exact FV v (by simp [hv]) hf (QNE v hv).1 _ (by omega) (by omega) (by omega)
             rcases hRo with ⟨e,e'⟩ | ⟨e,e'⟩
             · rw [e];rw [if_pos e'] at hlink;exact k2.2.move hlink hq
             · rw [e];rw [if_neg (by omega)] at hlink;refine ⟨hlink,k2.2.move ?_ hq⟩;show ow W6 (a+wd+2)=ow S.words (a+2);rw [F3 _ (by omega) (by omega),TK _ (by omega) (by omega)];unfold takeF;rw [ha0,if_neg (by omega),if_neg (by omega),if_neg (by omega),if_pos rfl]
           · rcases hRo with ⟨e,e'⟩ | ⟨e,e'⟩
             · rw [e];exact s5
             · rw [e];refine Sep.cons.2 ⟨fun hx=>s4 ⟨hu,hx.2⟩,s5⟩
           · have hcase:v ∈ P ∨ v=⟨a,wd,false⟩ ∨ v ∈ R ∨ v ∈ Q:=by simpa using hv
             have hold':∀ v ∈ P ++ u :: Q,v ≠ u → PartOk (ow W6) S.sizes v:=fun v hv hne=>by
              refine (h.parts.ok v hv).congr ?_ fun hf=>?_
              · cases hf:v.fr with
                | false=>
                 have hb:v.a ∈ S.taken:=by rw [h.taken];exact mem_adsOf.2 ⟨v,hv,hf,rfl⟩
                 exact (hold _ hb).1
                | true=>
                 have:=h.parts.lay.mem hv;refine FV v hv hf hne _ (by omega) (by omega) ?_
                 rcases linkP with e | ⟨v',hv',hvf',e⟩
                 · omega
                 · have h1:=h.parts.lay.mem (t:=v') (by simp [hv'])
                   rcases h.parts.lay.sep hv (u:=v') (by simp [hv']) with e2 | e2
                   · rw [e2];omega
                   · omega
              · have hm:=h.parts.lay.mem hv;have nl:∀ j,v.a ≤ j → j < v.a+v.k → j ≠ v.a+2 → j ≠ link:=fun j h1 h2 h3=>by
                 rcases linkP with e | ⟨v',hv',hvf',e⟩
                 · omega
                 · have h1:=h.parts.lay.mem (t:=v') (by simp [hv'])
                   rcases h.parts.lay.sep hv (u:=v') (by simp [hv']) with e2 | e2
                   · rw [e,← e2];omega
                   · omega
                refine ⟨FV v hv hf hne _ (by omega) (by omega) (nl _ (by omega) (by omega) (by omega)),fun j h1 h2=>FV v hv hf hne _ (by omega) (by omega) (nl _ (by omega) (by omega) (by omega))⟩
             rcases hcase with hv | rfl | hv | hv
             · exact hold' v (by simp [hv]) (PNE v hv).1
             · unfold PartOk;simp only [Bool.false_eq_true,if_false];rw [nt];exact ⟨hn.tag,hw0.symm⟩
             · rcases hRo with ⟨e,e'⟩ | ⟨e,e'⟩
               · rw [e] at hv;cases hv
               · rw [e] at hv;have:v=⟨a+wd,u.k-wd,true⟩:=by simpa using hv
                 subst this;have z0:=(h.parts.ok u huL).free hu;rw [ha0] at z0;unfold PartOk;simp only [if_true];have TT:∀ j,a+wd ≤ j → j < a+u.k → ow W6 j=takeF (ow S.words) link u wd j:=fun j h1 h2=>by
                  rw [F3 _ (by omega) (by omega),TK _ (by omega) (by omega)]
                 refine ⟨?_, ?_,fun j h1 h2=>?_⟩
                 · rw [TT _ (by omega) (by omega)];unfold takeF;rw [ha0,if_neg (by omega),if_neg (by omega),if_neg (by omega),if_neg (by omega),if_neg (by omega),if_pos rfl]
                 · rw [TT _ (by omega) (by omega)];unfold takeF;rw [ha0,if_neg (by omega),if_neg (by omega),if_neg (by omega),if_neg (by omega),if_pos rfl];omega
                 · rw [TT _ (by omega) (by omega)];unfold takeF;rw [ha0,if_neg (by omega),if_neg (by omega),if_neg (by omega),if_neg (by omega),if_neg (by omega),if_neg (by omega)];exact z0.2.2 j (by omega) (by omega)
             · exact hold' v (by simp [hv]) (QNE v hv).1
          taken:=htk
          chains:=by
           show Chains (ow W6) S.sizes (Hs.insert a S.taken) _;refine ⟨fun c' hc'=>?_,fun c' hc'=>?_,fun c' hc' x=>?_⟩
           · have h3:∀ b ∈ ch c',ow W6 (b+3)=ow S.words (b+3):=fun b hb=>by
               have hb:=((h.chains.mem c' hc' b).1 hb).1;exact F1 b hb 3 (by have:=h.part hb;omega) (by omega)
             by_cases e:c'=c
             · subst e;simp only [if_true];exact ⟨hc,by omega,(h.chains.path _ hc').move n3 h3⟩
             · simp only [if_neg e];exact (h.chains.path _ hc').congr (hh _ hc' e) h3
           · by_cases e:c'=c
             · subst e;simp only [if_true];exact List.nodup_cons.2 ⟨fun hm=>hnew ((h.chains.mem _ hc' a).1 hm).1,h.chains.nodup _ hc'⟩
             · simp only [if_neg e];exact h.chains.nodup _ hc'
           · have hx:∀ b ∈ S.taken,cz (ow W6 b) (fz (ow W6) S.sizes b)=cz (ow S.words b) (fz (ow S.words) S.sizes b):=fun b hb=>by rw [(hold b hb).1,hold.fz_ hb]
             rw [ml]
             by_cases exa:x=a
             · subst exa;rw [nt,nf,hc0]
               by_cases e:c'=c
               · subst e;simp
               · simp only [if_neg e];constructor
                 · intro hm;exact absurd ((h.chains.mem c' hc' x).1 hm).1 hnew
                 · rintro ⟨_,e'⟩;exact absurd e'.symm e
             · have:(x ∈ if c'=c then a :: ch c' else ch c') ↔ x ∈ ch c':=by
                 split
                 · simp [exa]
                 · rfl
               rw [this,h.chains.mem c' hc' x];constructor
               · rintro ⟨h1,h2⟩;exact ⟨.inr h1,by rw [hx x h1];exact h2⟩
               · rintro ⟨h1 | h1,h2⟩
                 · exact absurd h1 exa
                 · exact ⟨h1,by rw [← hx x h1];exact h2⟩
          cells:=by
           show Cells (ow W6) S.sizes S.order (Hs.insert a S.taken);have k:=hold.cells h.fr.toFr h.cells;refine ⟨fun b hb=>?_,fun b hb=>?_,fun b hb x hx=>?_,fun b hb=>?_,fun b hb b' hb' h1 h2=>?_⟩
           · rcases (ml b).1 hb with rfl | hb
             · rw [nt];exact hn.tag
             · exact k.tags b hb
           · rcases (ml b).1 hb with rfl | hb
             · rw [nt];intro he;have:wd=5:=by rw [← hw0];simp [wz,he]
               have e4:ow W6 (b+4)=fs.getD 0 0:=by
                rw [F3 _ (by omega) (by omega),G,if_neg (by omega),if_pos (by omega),Nat.sub_self]
               have hm:fs.getD 0 0 ∈ fs:=by
                have:0 < fs.length:=by rw [hfl,this];decide
                rw [List.getD_eq_getElem?_getD,List.getElem?_eq_getElem this];exact List.getElem_mem this
               rw [e4];exact hn.ends he _ hm
             · exact k.ends b hb
           · rcases (ml b).1 hb with rfl | hb
             · rw [nk] at hx;obtain ⟨b',hb',e,hr⟩:=hks x hx;exact ⟨b',(ml b').2 (.inr hb'),e,by rw [nt,(hold b' hb').1];exact hr⟩
             · obtain ⟨b',hb',e,hr⟩:=k.kids b hb x hx;exact ⟨b',(ml b').2 (.inr hb'),e,hr⟩
           · rcases (ml b).1 hb with rfl | hb
             · rw [nt,nf];exact hn.flat
             · exact k.flat b hb
           · rcases (ml b).1 hb with e1 | hb1 <;> rcases (ml b').1 hb' with e2 | hb2
             · exact e1.trans e2.symm
             · subst e1;rw [nt,(hold b' hb2).1] at h1;rw [nf,hold.fz_ hb2] at h2;exact absurd ⟨h1.symm,h2.symm⟩ (hmiss b' hb2)
             · subst e2;rw [nt,(hold b hb1).1] at h1;rw [nf,hold.fz_ hb1] at h2;exact absurd ⟨h1,h2⟩ (hmiss b hb1)
             · exact k.one b hb1 b' hb2 h1 h2
          uses:=by
           intro b hb;show ow W6 (b+1)=cnt (ow W6) S.sizes b (Hs.insert a S.taken);rw [cnt_perm (perm_insert hnew)];unfold cnt;rw [nk,hold.cnt_ b fun x hx=>hx]
           rcases (ml b).1 hb with rfl | hb
           · rw [n1,List.count_eq_zero.2,cnt_zero]
             · rfl
             · intro b' hb' x hx e;obtain ⟨b'',hb'',e',_⟩:=h.cells.kids b' hb' x hx;have:b=b'':=by omega
               subst this;exact hnew hb''
             · intro hm;obtain ⟨b'',hb'',e',_⟩:=hks _ hm;have:b=b'':=by omega
               subst this;exact hnew hb''
           · rw [F2 b hb,h.uses b hb]
             push_cast
             omega
          holds:=fun b hb=>by
           show 0 ≤ ow W6 (b+2) ∧ ow W6 (b+2) ≤ B
           rcases (ml b).1 hb with rfl | hb
           · rw [n2];exact ⟨Int.le_refl _,Int.natCast_nonneg _⟩
           · rw [F1 b hb 2 (by have:=h.part hb;omega) (by omega)];exact h.holds b hb }
end Hp
namespace Hp
end Hp
namespace Hp
def lastB:Nat → List Tl → Nat
 | b,[]=>b
 | b,t :: r=>if t.fr then lastB t.a r else lastB b r
theorem Lay.cast {s n m:Nat} {L:List Tl} (h:Lay s L n) (e:n=m):Lay s L m:=e ▸ h
theorem seek_spec {W:List Int} {a:Nat} {X:List Tl} (hX:headF X 0=0 ∨ (a:Int) ≤ headF X 0):∀ (P:List Tl) (b l m s:Nat),Links (ow W) l (P ++ X) 0 → Lay s P a → l < s → l < W.length → a < W.length → P.length < m → Hs.seek W a m b l=some (lastB b P,lastL l P)
 | [],b,l,m,s,h,_,_,hl,_,hm=>by
  cases m with
  | zero=>simp at hm
  | succ m=>
   have e:ow W l=headF X 0:=Links.head h;have h0:0 ≤ ow W l:=by rcases hX with h | h <;> omega
   unfold Hs.seek;rw [ra_ow (a:=(ow W l).toNat) hl (by omega)];simp only [Option.bind_eq_bind,Option.bind_some];rw [if_neg (by omega)];rfl
 | t :: r,b,l,m,s,h,hL,hls,hl,ha,hm=>by
  obtain ⟨h1,h2,h3⟩:=hL;simp only [List.cons_append] at h;simp only [List.length_cons] at hm;unfold Links at h
  cases hf:t.fr with
  | false=>
   rw [hf] at h;simp only [Bool.false_eq_true,if_false] at h;have:=seek_spec hX r b l m _ h h3 (by omega) hl ha (by omega)
   simpa [lastB,lastL,hf] using this
  | true=>
   rw [hf] at h;simp only [if_true] at h
   cases m with
   | zero=>simp at hm
   | succ m=>
    have hle:=h3.le;have:=seek_spec hX r t.a (t.a+2) m _ h.2 h3 (by omega) (by omega) ha (by omega);unfold Hs.seek;rw [ra_ow hl h.1];simp only [Option.bind_eq_bind,Option.bind_some];rw [if_pos (by omega),this];simp [lastB,lastL,hf]
theorem last_split:∀ (P:List Tl) (b l:Nat),((∀ t ∈ P,t.fr=false) ∧ lastB b P=b ∧ lastL l P=l) ∨ ∃ P1 v P2,P=P1 ++ v :: P2 ∧ v.fr=true ∧ (∀ t ∈ P2,t.fr=false) ∧ lastB b P=v.a ∧ lastL l P=v.a+2
 | [],b,l=>.inl ⟨by simp,rfl,rfl⟩
 | t :: r,b,l=>by
  cases hf:t.fr with
  | false=>
   rcases last_split r b l with ⟨h1,h2,h3⟩ | ⟨P1,v,P2,rfl,h2,h3,h4,h5⟩
   · refine .inl ⟨fun u hu=>?_,by simpa [lastB,hf] using h2,by simpa [lastL,hf] using h3⟩
     rcases List.mem_cons.1 hu with rfl | hu
     · exact hf
     · exact h1 u hu
   · exact .inr ⟨t :: P1,v,P2,rfl,h2,h3,by simpa [lastB,hf] using h4,by simpa [lastL,hf] using h5⟩
  | true=>
   rcases last_split r t.a (t.a+2) with ⟨h1,h2,h3⟩ | ⟨P1,v,P2,rfl,h2,h3,h4,h5⟩
   · exact .inr ⟨[],t,r,rfl,hf,h1,by simpa [lastB,hf] using h2,by simpa [lastL,hf] using h3⟩
   · exact .inr ⟨t :: P1,v,P2,rfl,h2,h3,by simpa [lastB,hf] using h4,by simpa [lastL,hf] using h5⟩
theorem headF_ge {s n:Nat}:∀ {Q:List Tl},Lay s Q n → headF Q 0=0 ∨ (s:Int) ≤ headF Q 0
 | [],_=>.inl rfl
 | t :: r,h=>by
  obtain ⟨h1,h2,h3⟩:=h;unfold headF
  cases t.fr
  · rcases headF_ge h3 with h | h
    · exact .inl (by simpa using h)
    · right;simp only [Bool.false_eq_true,if_false];omega
  · right;simp;omega
structure Right (W1 W2:List Int) (z:List Int) (a k k2 n:Nat) (nx:Int) (Q Q2:List Tl):Prop where
 len:W2.length=W1.length
 lay:Lay (a+k2) Q2 n
 le:k ≤ k2
 hd:hdF Q2=false
 nxe:nx=headF Q2 0
 ads:adsOf Q2=adsOf Q
 sub:∀ t ∈ Q2,t ∈ Q
 sep:Sep Q2
 out:∀ j,j < a+k ∨ a+k2 ≤ j → ow W2 j=ow W1 j
 inn:∀ j,a+k ≤ j → j < a+k2 → ow W2 j=0
 links:∀ (g:Nat → Int) (l':Nat),g l'=nx → (∀ t ∈ Q2,t.fr=true → g (t.a+2)=ow W1 (t.a+2)) → Links g l' Q2 0
theorem join_run {W1 W2 W3 : List Int} {x y : Nat} {k w after s : Int} (h1 : rd W1 x = some after) (h2 : rc W1 y = some w) (h3 : ck (k + w) = some s) (h4 : wr W1 y 0 = some W2) (h5 : wr W2 x 0 = some W3) : (do
      let after ← rd W1 x
      let w ← rc W1 y
      some (← ck (k+w),after,← wr (← wr W1 y 0) x 0):Option (Int × Int × List Int))=some (s,after,W3):=by
  rw [h1,h2];simp only [Option.bind_eq_bind,Option.bind_some];rw [h3,h4];simp only [Option.bind_some];rw [h5];rfl
theorem right_spec {W1:List Int} {z:List Int} {a k link:Nat} {Q:List Tl} (hk:3 ≤ k) (hn:W1.length ≤ 100000) (hl:link < W1.length) (h:Links (ow W1) link Q 0) (hL:Lay (a+k) Q W1.length) (hS:Sep Q) (hp:∀ t ∈ Q,PartOk (ow W1) z t) :
    ∃ k2 nx W2 Q2,(if ow W1 link=((a+k:Nat):Int) then do
     let after ← rd W1 (a+k+2)
     let w ← rc W1 (a+k+1)
     some (← ck (((k:Nat):Int)+w),after,← wr (← wr W1 (a+k+1) 0) (a+k+2) 0)
    else some (((k:Nat):Int),ow W1 link,W1):Option (Int × Int × List Int))=some (((k2:Nat):Int),nx,W2) ∧ Right W1 W2 z a k k2 W1.length nx Q Q2:=by
  cases Q with
  | nil=>
   have e:ow W1 link=0:=h;refine ⟨k,0,W1,[], ?_,rfl,hL,Nat.le_refl _,rfl,rfl,rfl,by simp,trivial,fun _ _=>rfl,fun j h1 h2=>by omega,fun g l' e' _=>e'⟩;rw [if_neg (by omega),e]
  | cons v Q=>
   obtain ⟨l1,l2,l3⟩:=hL;obtain ⟨s1,s2⟩:=Sep.cons.1 hS
   cases hf:v.fr with
   | false=>
    have e:=h.head;unfold headF at e;rw [hf] at e;simp only [Bool.false_eq_true,if_false] at e;have hg:=headF_ge l3;refine ⟨k,ow W1 link,W1,v :: Q, ?_,rfl,⟨l1,l2,l3⟩,Nat.le_refl _,hf,h.head,rfl,by simp,hS,fun _ _=>rfl,fun j h1 h2=>by omega,fun g l' e' hm=>h.move e' hm⟩;rw [if_neg (by omega)]
   | true=>
    have hv:=(hp v (by simp)).free hf;unfold Links at h;rw [hf] at h;simp only [if_true] at h;have hle:=l3.le;rw [l1] at hv h;obtain ⟨W2,e2,q2,g2⟩:=wr_ow (W:=W1) (i:=a+k+1) 0 (by omega);obtain ⟨W3,e3,q3,g3⟩:=wr_ow (W:=W2) (i:=a+k+2) 0 (by omega);have hhd:hdF Q=false:=by
     cases hq:hdF Q with
     | false=>rfl
     | true=>exact absurd ⟨hf,hq⟩ s1
    have had:adsOf Q=adsOf (v :: Q):=by
     simp [adsOf,hf]
    refine ⟨k+v.k,ow W1 (a+k+2),W3,Q, ?_,q3.trans q2, ?_,by omega,hhd,h.2.head,had,fun t ht=>by simp [ht],s2,fun j hj=>?_,fun j h1 h2=>?_,fun g l' e' hm=>h.2.move e' fun t ht hf'=>hm t ht hf'⟩
    · rw [if_pos h.1];have h2:rc W1 (a+k+1)=some (v.k:Int):=by
       rw [rc_ow (by omega) (by rw [hv.2.1];omega) (by rw [hv.2.1];omega),hv.2.1]
      have h3:ck ((k:Int)+(v.k:Int))=some (((k+v.k:Nat)):Int):=by
       rw [Int.natCast_add];exact ck_in (by omega) (by omega)
      exact join_run (rd_ow (by omega)) h2 h3 e2 e3
    · rw [← Nat.add_assoc];exact l3
    · rw [g3,g2,if_neg (by omega),if_neg (by omega)]
    · rw [g3,g2]
      split
      · rfl
      · split
        · rfl
        · by_cases e:j=a+k
          · rw [e];exact hv.1
          · exact hv.2.2 j (by omega) (by omega)
theorem ltF_none:∀ {P:List Tl},(∀ t ∈ P,t.fr=false) → ltF P=false
 | [],_=>rfl
 | [t],h=>h t (by simp)
 | t :: u :: r,h=>by
  have:=ltF_none (P:=u :: r) fun v hv=>h v (by simp [hv])
  simpa [ltF] using this
theorem ltF_app:∀ {X P:List Tl},P ≠ [] → ltF (X ++ P)=ltF P
 | [],_,_=>rfl
 | [t],p :: P,_=>by simp [ltF]
 | t :: u :: X,P,h=>by
  have:=ltF_app (X:=u :: X) h
  simpa [ltF] using this
structure Freed (S S':Hs) (z:List Int) (L L':List Tl) (a:Nat):Prop where
 sizes:S'.sizes=S.sizes
 order:S'.order=S.order
 len:S'.words.length=S.words.length
 taken:S'.taken=S.taken.erase a
 parts:Parts (ow S'.words) z L' S.words.length
 ads:∀ b,b ∈ adsOf L' ↔ b ∈ adsOf L ∧ b ≠ a
 low:∀ j,j < 16 → ow S'.words j=ow S.words j
 keep:∀ t ∈ L,t.fr=false → t.a ≠ a → ∀ j,t.a ≤ j → j < t.a+t.k → ow S'.words j=ow S.words j
set_option maxHeartbeats 2000000 in
theorem free_spec {S:Hs} {P Q:List Tl} {a k:Nat} (hz:Fr S.sizes) (hn:S.words.length ≤ 100000) (h:Parts (ow S.words) S.sizes (P ++ ⟨a,k,false⟩ :: Q) S.words.length) :
    ∃ S' L',S.free a=some S' ∧ Freed S S' S.sizes (P ++ ⟨a,k,false⟩ :: Q) L' a:=by
  have hmem:(⟨a,k,false⟩:Tl) ∈ P ++ ⟨a,k,false⟩ :: Q:=by simp
  have hcell:=(h.ok _ hmem).cell rfl;have hum:=h.lay.mem hmem;obtain ⟨lP,l3,lQ⟩:=h.lay.parts;simp only at hcell hum lP l3 lQ;have hwz:=wz_ok hz hcell.1;rw [← hcell.2] at hwz;obtain ⟨W1,e1,q1,g1⟩:=zero_ow (W:=S.words) (i:=a) (n:=k) (by omega);have hLl:=lay_len_ h.lay;simp only [List.length_append,List.length_cons] at hLl;obtain ⟨s1,s2,s3⟩:=Sep.app.1 h.sep;obtain ⟨s4,s5⟩:=Sep.cons.1 s2
  -- the words of the others
  have hout:∀ j,j < a ∨ a+k ≤ j → ow W1 j=ow S.words j:=fun j hj=>by rw [g1,if_neg (by omega)]
  have mP:∀ t ∈ P,17 ≤ t.a ∧ t.a+t.k ≤ a ∧ 3 ≤ t.k:=fun t ht=>lP.mem ht
  have mQ:∀ t ∈ Q,a+k ≤ t.a ∧ t.a+t.k ≤ S.words.length ∧ 3 ≤ t.k:=fun t ht=>lQ.mem ht
  have L1:Links (ow W1) 16 (P ++ Q) 0:=by
   have:Links (ow S.words) 16 (P ++ Q) 0:=by
    have:=h.links;rw [Links.app] at this ⊢;exact this
   refine this.congr (hout _ (by omega)) fun t ht _=>hout _ ?_
   rcases List.mem_append.1 ht with ht | ht
   · have:=mP t ht;omega
   · have:=mQ t ht;omega
  have pQ:∀ t ∈ Q,PartOk (ow W1) S.sizes t:=fun t ht=>by
   have:=mQ t ht;exact (h.ok t (by simp [ht])).congr (hout _ (by omega)) fun _=>⟨hout _ (by omega),fun j _ _=>hout _ (by omega)⟩
  have pP:∀ t ∈ P,PartOk (ow W1) S.sizes t:=fun t ht=>by
   have:=mP t ht;exact (h.ok t (by simp [ht])).congr (hout _ (by omega)) fun _=>⟨hout _ (by omega),fun j _ _=>hout _ (by omega)⟩
  have hll:=lastL_lt lP (l:=16) (by omega);have hseek:=seek_spec (W:=W1) (a:=a) (X:=Q) ((headF_ge lQ).elim .inl fun h=>.inr (by omega)) P 0 16 S.fuel 17 L1 lP (by omega) (by omega) (by omega) (by unfold Hs.fuel;omega);obtain ⟨k1,k2'⟩:=Links.app.1 L1;obtain ⟨k2,nx,W2,Q2,hR,R⟩:=right_spec (W1:=W1) (z:=S.sizes) (a:=a) (k:=k) (link:=lastL 16 P) (Q:=Q) (by omega) (by omega) (by omega) k2' (by rw [q1];exact lQ) s5 pQ;generalize hlk:lastL 16 P=link at *;generalize hbf:lastB 0 P=before at *;have q2:=R.len;have r2:=R.out;have r3:=R.inn;have r4:=R.le;have r5:=R.lay.le;have zer:∀ j,a ≤ j → j < a+k2 → ow W2 j=0:=fun j h1 h2=>by
   by_cases hj:j < a+k
   · rw [r2 j (.inl hj),g1,if_pos ⟨h1,hj⟩]
   · exact r3 j (by omega) h2
  have outs:∀ j,j < a ∨ a+k2 ≤ j → ow W2 j=ow S.words j:=fun j hj=>by
   rw [r2 j (by omega),hout j (by omega)]
  have hfree:S.free a=(do
      let joined ← (if before ≠ 0 then do some (decide ((before:Int)+(← rc W2 (before+1))=a)) else some false:Option Bool)
      if joined then
       let w ← rc W2 (before+1)
       return { S with words:=(← wr (← wr W2 (before+1) (w+k2)) (before+2) nx),taken:=S.taken.erase a }
      else
       return { S with words:=(← wr (← wr (← wr W2 (a+1) k2) (a+2) nx) link a),taken:=S.taken.erase a }):=by
    unfold Hs.free;rw [wideAt_ow hz (by omega) hcell.1,← hcell.2];simp only [Option.bind_eq_bind,Option.bind_some,e1,hseek];rw [rd_ow (by omega:link < W1.length)];simp only [Option.bind_some];have hR':=hR;simp only [Option.bind_eq_bind] at hR';rw [hR'];rfl
  have mQ2:∀ t ∈ Q2,a+k2 ≤ t.a ∧ t.a+t.k ≤ S.words.length ∧ 3 ≤ t.k:=fun t ht=>by
   have:=R.lay.mem ht;omega
  have hads0:adsOf (P ++ ⟨a,k,false⟩ :: Q)=adsOf P ++ a :: adsOf Q:=by
   rw [adsOf_app];show adsOf P ++ adsOf ([⟨a,k,false⟩] ++ Q)=_;rw [adsOf_app];rfl
  have nP:a ∉ adsOf P:=fun hm=>by
   obtain ⟨t,ht,_,e⟩:=mem_adsOf.1 hm;have:=mP t ht;omega
  have nQ:a ∉ adsOf Q:=fun hm=>by
   obtain ⟨t,ht,_,e⟩:=mem_adsOf.1 hm;have:=mQ t ht;omega
  -- no free part ends where the cell begins
  have FAR:ltF P=false → True → (do (if before ≠ 0 then do some (decide ((before:Int)+(← rc W2 (before+1))=a)) else some false:Option Bool))=some false → ∃ S' L',S.free a=some S' ∧ Freed S S' S.sizes (P ++ ⟨a,k,false⟩ :: Q) L' a:=by
   intro hlt _ hj;obtain ⟨W3,e3,q3,g3⟩:=wr_ow (W:=W2) (i:=a+1) (k2:Int) (by omega);obtain ⟨W4,e4,q4,g4⟩:=wr_ow (W:=W3) (i:=a+2) nx (by omega);obtain ⟨W5,e5,q5,g5⟩:=wr_ow (W:=W4) (i:=link) (a:Int) (by omega);have G:∀ j,ow W5 j=if j=link then (a:Int) else if j=a+2 then nx else if j=a+1 then (k2:Int) else ow W2 j:=fun j=>by rw [g5,g4,g3]
   have linkP:link=16 ∨ ∃ v ∈ P,v.fr=true ∧ link=v.a+2:=by
    rw [← hlk];exact lastL_where
   have GO:∀ j,(j < a ∨ a+k2 ≤ j) → j ≠ link → ow W5 j=ow S.words j:=fun j h1 h2=>by
    rw [G,if_neg h2,if_neg (by omega),if_neg (by omega)];exact outs j h1
   refine ⟨{ S with words:=W5,taken:=S.taken.erase a },P ++ ⟨a,k2,true⟩ :: Q2, ?_,rfl,rfl,by show W5.length=_;omega,rfl,⟨Lay.app.2 ⟨a,lP,rfl,by show 3 ≤ k2;omega,R.lay.cast q1⟩,Links.app.2 ⟨?_, ?_⟩,Sep.app.2 ⟨s1,Sep.cons.2 ⟨by rw [R.hd];simp,R.sep⟩,by rw [hlt];simp⟩,fun t ht=>?_⟩,fun b=>?_,fun j hj=>GO j (by omega) (by omega),fun t ht hf hne j h1 h2=>?_⟩
   · rw [hfree,hj];simp only [Option.bind_eq_bind,Option.bind_some,Bool.false_eq_true,if_false,e3,e4,e5];rfl
   · refine k1.turn _ lP (by omega) ?_ (fun hne=>?_) fun v hv hf hne=>?_
     · rw [hlk,G,if_pos rfl];rfl
     · rw [hlk] at hne;rw [GO _ (by omega) hne,hout _ (by omega)]
     · rw [hlk] at hne;have:=mP v hv;rw [GO _ (by omega) hne,hout _ (by omega)]
   · rw [hlk];refine ⟨by show ow W5 link=(a:Int);rw [G,if_pos rfl],R.links _ _ ?_ fun t ht _=>?_⟩
     · show ow W5 (a+2)=nx;rw [G,if_neg (by omega),if_pos rfl]
     · have:=mQ2 t ht;rw [GO _ (by omega) (by omega),hout _ (by omega)]
   · have hcase:t ∈ P ∨ t=⟨a,k2,true⟩ ∨ t ∈ Q2:=by simpa using ht
     rcases hcase with ht | rfl | ht
     · have hm:=mP t ht;have nl:∀ j,t.a ≤ j → j < t.a+t.k → (j=t.a+2 → t.fr=false) → j ≠ link:=fun j h1 h2 h3=>by
        rcases linkP with e | ⟨v',hv',hvf',e⟩
        · omega
        · have h1':=mP v' hv'
          rcases lP.sep ht hv' with e2 | e2
          · rw [e,← e2];intro e3;have:=h3 e3;rw [e2,hvf'] at this
            cases this
          · omega
       refine (h.ok t (by simp [ht])).congr (GO _ (by omega) (nl _ (by omega) (by omega) (by omega))) fun hf=>⟨GO _ (by omega) (nl _ (by omega) (by omega) (by omega)),fun j h1 h2=>GO _ (by omega) (nl _ (by omega) (by omega) (by omega))⟩
     · unfold PartOk;simp only [if_true];refine ⟨?_, ?_,fun j h1 h2=>?_⟩
       · rw [G,if_neg (by omega),if_neg (by omega),if_neg (by omega)];exact zer _ (by omega) (by omega)
       · rw [G,if_neg (by omega),if_neg (by omega),if_pos rfl]
       · rw [G,if_neg (by omega),if_neg (by omega),if_neg (by omega)];exact zer _ (by omega) (by omega)
     · have hm:=mQ2 t ht;exact (h.ok t (by simp [R.sub t ht])).congr (GO _ (by omega) (by omega)) fun hf=>⟨GO _ (by omega) (by omega),fun j h1 h2=>GO _ (by omega) (by omega)⟩
   · have:adsOf (P ++ ⟨a,k2,true⟩ :: Q2)=adsOf P ++ adsOf Q:=by
       rw [adsOf_app,← R.ads];show adsOf P ++ adsOf ([⟨a,k2,true⟩] ++ Q2)=_;rw [adsOf_app];rfl
     rw [this,hads0];simp only [List.mem_append,List.mem_cons];constructor
     · rintro (h | h)
       · exact ⟨.inl h,fun e=>nP (e ▸ h)⟩
       · exact ⟨.inr (.inr h),fun e=>nQ (e ▸ h)⟩
     · rintro ⟨h | h | h,hne⟩
       · exact .inl h
       · exact absurd h hne
       · exact .inr h
   · have hcase:t ∈ P ∨ t=⟨a,k,false⟩ ∨ t ∈ Q:=by simpa using ht
     rcases hcase with ht' | rfl | ht'
     · have hm:=mP t ht';refine GO _ (by omega) ?_
       rcases linkP with e | ⟨v',hv',hvf',e⟩
       · omega
       · have h1':=mP v' hv'
         rcases lP.sep ht' hv' with e2 | e2
         · rw [e2,hvf'] at hf
           cases hf
         · omega
     · exact absurd rfl hne
     · have hm:=mQ t ht';have h3:t ∈ Q2:=by
        have:t.a ∈ adsOf Q2:=by
         rw [R.ads];exact mem_adsOf.2 ⟨t,ht',hf,rfl⟩
        obtain ⟨u,hu,huf,e⟩:=mem_adsOf.1 this;have:=lQ.same (R.sub u hu) ht' e;rw [← this];exact hu
       have:=mQ2 t h3;exact GO _ (by omega) (by omega)
  rcases last_split P 0 16 with ⟨c1,c2,c3⟩ | ⟨P1,v,P2,hP,c1,c2,c3,c4⟩
  · refine FAR (ltF_none c1) trivial ?_;rw [hbf] at c2;rw [if_neg (by omega)]
  · rw [hbf] at c3;rw [hlk] at c4;have hv:=(pP v (by rw [hP];simp)).free c1;have hm:=mP v (by rw [hP];simp);have hx:ow W2 (before+1)=v.k:=by rw [c3,outs _ (by omega),← hout _ (by omega)];exact hv.2.1
    have hrc:rc W2 (before+1)=some (v.k:Int):=by
     rw [rc_ow (by omega) (by rw [hx];omega) (by rw [hx];omega),hx]
    by_cases h2:P2=[]
    · subst h2;subst hP;obtain ⟨lP1,lv,lv2⟩:=lP.parts;have hva:v.a+v.k=a:=lv2;obtain ⟨W3,e3,q3,g3⟩:=wr_ow (W:=W2) (i:=before+1) ((v.k:Int)+k2) (by omega);obtain ⟨W4,e4,q4,g4⟩:=wr_ow (W:=W3) (i:=before+2) nx (by omega);have G:∀ j,ow W4 j=if j=v.a+2 then nx else if j=v.a+1 then (v.k:Int)+k2 else ow W2 j:=fun j=>by rw [g4,g3,c3]
      have GO:∀ j,(j < v.a ∨ a+k2 ≤ j) → ow W4 j=ow S.words j:=fun j h1=>by
       rw [G,if_neg (by omega),if_neg (by omega)];exact outs j (by omega)
      have mP1:∀ t ∈ P1,17 ≤ t.a ∧ t.a+t.k ≤ v.a ∧ 3 ≤ t.k:=fun t ht=>lP1.mem ht
      obtain ⟨t1,t2,t3⟩:=Sep.app.1 s1;have hl1:ltF P1=false:=by
       cases hq:ltF P1 with
       | false=>rfl
       | true=>exact absurd ⟨hq,c1⟩ t3
      have k1':Links (ow W1) 16 P1 v.a:=by
       have:=(Links.app.1 k1).1;unfold headF at this;rw [c1] at this
       simpa using this
      have hl2:=lastL_lt lP1 (l:=16) (by omega);have k1'':ow W1 (lastL 16 P1)=v.a:=by
       have:=(Links.app.1 k1).2;unfold Links at this;rw [c1] at this;simp only [if_true] at this;exact this.1
      refine ⟨{ S with words:=W4,taken:=S.taken.erase a },P1 ++ ⟨v.a,v.k+k2,true⟩ :: Q2, ?_,rfl,rfl,by show W4.length=_;omega,rfl,⟨Lay.app.2 ⟨v.a,lP1,rfl,by show 3 ≤ v.k+k2;omega, ?_⟩,Links.app.2 ⟨?_, ?_⟩,Sep.app.2 ⟨t1,Sep.cons.2 ⟨by rw [R.hd];simp,R.sep⟩,by rw [hl1];simp⟩,fun t ht=>?_⟩,fun b=>?_,fun j hj=>GO j (by omega),fun t ht hf hne j h1 h2=>?_⟩
      · rw [hfree,if_pos (by omega),hrc];simp only [Option.bind_eq_bind,Option.bind_some];rw [if_pos (by simp;omega),e3];simp only [Option.bind_some,e4];rfl
      · show Lay (v.a+(v.k+k2)) Q2 _;rw [show v.a+(v.k+k2)=a+k2 by omega];exact R.lay.cast q1
      · show Links (ow W4) 16 P1 (v.a:Int);exact k1'.congr (by rw [GO _ (by omega),hout _ (by omega)]) fun t ht _=>by
         have:=mP1 t ht;rw [GO _ (by omega),hout _ (by omega)]
      · refine ⟨?_,R.links _ _ ?_ fun t ht _=>?_⟩
        · show ow W4 (lastL 16 P1)=(v.a:Int);rw [GO _ (by omega),← hout _ (by omega)];exact k1''
        · show ow W4 (v.a+2)=nx;rw [G,if_pos rfl]
        · have:=mQ2 t ht;rw [GO _ (by omega),hout _ (by omega)]
      · have hcase:t ∈ P1 ∨ t=⟨v.a,v.k+k2,true⟩ ∨ t ∈ Q2:=by simpa using ht
        rcases hcase with ht | rfl | ht
        · have hm:=mP1 t ht;exact (h.ok t (by simp [ht])).congr (GO _ (by omega)) fun hf=>⟨GO _ (by omega),fun j h1 h2=>GO _ (by omega)⟩
        · unfold PartOk;simp only [if_true];have zz:∀ j,v.a+3 ≤ j ∨ j=v.a → j < a+k2 → ow W2 j=0:=fun j h1 h2=>by
           by_cases hj:j < a
           · rw [outs _ (by omega),← hout _ (by omega)]
             rcases h1 with h1 | h1
             · exact hv.2.2 j h1 (by omega)
             · rw [h1];exact hv.1
           · exact zer j (by omega) h2
          refine ⟨?_, ?_,fun j h1 h2=>?_⟩
          · rw [G,if_neg (by omega),if_neg (by omega)];exact zz _ (.inr rfl) (by omega)
          · rw [G,if_neg (by omega),if_pos rfl]
            push_cast
            rfl
          · rw [G,if_neg (by omega),if_neg (by omega)];exact zz _ (.inl h1) (by omega)
        · have hm:=mQ2 t ht;exact (h.ok t (by simp [R.sub t ht])).congr (GO _ (by omega)) fun hf=>⟨GO _ (by omega),fun j h1 h2=>GO _ (by omega)⟩
      · have e1:adsOf (P1 ++ ⟨v.a,v.k+k2,true⟩ :: Q2)=adsOf P1 ++ adsOf Q:=by
          rw [adsOf_app,← R.ads];show adsOf P1 ++ adsOf ([⟨v.a,v.k+k2,true⟩] ++ Q2)=_;rw [adsOf_app];rfl
        have e2:adsOf (P1 ++ [v])=adsOf P1:=by
         rw [adsOf_app];simp [adsOf,c1]
        rw [e2] at nP;rw [e1,hads0,e2];simp only [List.mem_append,List.mem_cons];constructor
        · rintro (h | h)
          · exact ⟨.inl h,fun e=>nP (e ▸ h)⟩
          · exact ⟨.inr (.inr h),fun e=>nQ (e ▸ h)⟩
        · rintro ⟨h | h | h,hne⟩
          · exact .inl h
          · exact absurd h hne
          · exact .inr h
      · have hcase:t ∈ P1 ∨ t=v ∨ t=⟨a,k,false⟩ ∨ t ∈ Q:=by simpa using ht
        rcases hcase with ht' | rfl | rfl | ht'
        · have hm:=mP1 t ht';exact GO _ (by omega)
        · rw [c1] at hf
          cases hf
        · exact absurd rfl hne
        · have hm:=mQ t ht';have h3:t ∈ Q2:=by
           have:t.a ∈ adsOf Q2:=by
            rw [R.ads];exact mem_adsOf.2 ⟨t,ht',hf,rfl⟩
           obtain ⟨u,hu,huf,e⟩:=mem_adsOf.1 this;have:=lQ.same (R.sub u hu) ht' e;rw [← this];exact hu
          have:=mQ2 t h3;exact GO _ (by omega)
    · refine FAR ?_ trivial ?_
      · rw [hP,show P1 ++ v :: P2=(P1 ++ [v]) ++ P2 by simp,ltF_app h2];exact ltF_none c2
      · rw [if_pos (by omega),hrc];simp only [Option.bind_eq_bind,Option.bind_some];have:v.a+v.k < a:=by
         subst hP;obtain ⟨lP1,lv,lv2⟩:=lP.parts
         cases P2 with
         | nil=>exact absurd rfl h2
         | cons p P2=>
          obtain ⟨p1,p2,p3⟩:=lv2;have:=p3.le;omega
        rw [decide_eq_false (by omega)]
end Hp
namespace Hp
theorem Cells.sub {f:Nat → Int} {z o:List Int} {Lv Lv':List Nat} (h:Cells f z o Lv) (hs:∀ a ∈ Lv',a ∈ Lv) (hk:∀ a ∈ Lv',∀ b ∈ Lv,(b:Int) ∈ kz f z a → b ∈ Lv'):Cells f z o Lv' where
 tags a ha:=h.tags a (hs a ha)
 ends a ha:=h.ends a (hs a ha)
 kids a ha x hx:=by
  obtain ⟨b,hb,rfl,hr⟩:=h.kids a (hs a ha) x hx;exact ⟨b,hk a ha b hb hx,rfl,hr⟩
 flat a ha:=h.flat a (hs a ha)
 one a ha b hb:=h.one a (hs a ha) b (hs b hb)
end Hp
namespace Hp
def place (f:Nat → Int) (z:List Int):Nat → List Nat → Nat → Nat
 | _,[],_=>0
 | s,a :: r,b=>if b=a then s else place f z (s+wz z (f a)) r b
theorem moves_spec {S:Hs} {B:Nat} {L:List Tl} {ch:Nat → List Nat} (h:Wf S B L ch):∀ (r:List Nat) (W:List Int) (next:Nat) (M:List (Nat × Int)),r.Pairwise (· < ·) → (∀ a ∈ r,a ∈ S.taken) → KeysUp M → next+widths (ow S.words) S.sizes r ≤ W.length →
    ∃ W' M',Hs.moves S r W next M=some (W',next+widths (ow S.words) S.sizes r,M') ∧ W'.length=W.length ∧ KeysUp M' ∧ (∀ b,getI b M'=if b ∈ r then some ((place (ow S.words) S.sizes next r b:Nat):Int) else getI b M) ∧
     (∀ b ∈ r,∀ i,i < wz S.sizes (ow S.words b) → ow W' (place (ow S.words) S.sizes next r b+i)=ow S.words (b+i)) ∧ ∀ j,(j < next ∨ next+widths (ow S.words) S.sizes r ≤ j) → ow W' j=ow W j
  | [],W,next,M,_,_,hM,_=>⟨W,M,by simp [Hs.moves,widths],rfl,hM,by simp,by simp,fun _ _=>rfl⟩
  | a :: r,W,next,M,hp,hr,hM,hl=>by
   obtain ⟨p1,p2⟩:=List.pairwise_cons.1 hp;have ha:=hr a (by simp);have pa:=h.part ha;rw [show widths (ow S.words) S.sizes (a :: r)=wz S.sizes (ow S.words a)+widths (ow S.words) S.sizes r from rfl] at hl ⊢;have hs:=sub_ow (W:=S.words) (i:=a) (n:=wz S.sizes (ow S.words a)) pa.2.2.1;obtain ⟨W1,e1,l1,g1⟩:=lay_ow (W:=W) (l:=cut (ow S.words) a (wz S.sizes (ow S.words a))) (i:=next) (by rw [cut_length];omega);rw [cut_length] at g1;obtain ⟨W',M',v1,v2,v3,v4,v5,v6⟩:=moves_spec h r W1 (next+wz S.sizes (ow S.words a)) (putI a (next:Int) M) p2 (fun b hb=>hr b (by simp [hb])) (keysUp_put hM) (by omega);have hna:a ∉ r:=fun hm=>by have:=p1 a hm;omega
   refine ⟨W',M', ?_,v2.trans l1,v3,fun b=>?_,fun b hb i hi=>?_,fun j hj=>?_⟩
   · unfold Hs.moves;rw [h.wide_ ha];simp only [Option.bind_eq_bind,Option.bind_some,hs,e1];rw [v1,Nat.add_assoc]
   · rw [v4,getI_put hM]
     by_cases e:b=a
     · subst e;rw [if_neg hna,if_pos rfl,if_pos (by simp)];simp [place]
     · rw [if_neg e]
       by_cases hb:b ∈ r
       · rw [if_pos hb,if_pos (by simp [hb])];simp [place,e]
       · rw [if_neg hb,if_neg (by simp [e,hb])]
   · by_cases e:b=a
     · subst e;rw [show place (ow S.words) S.sizes next (b :: r) b=next by simp [place],v6 _ (.inl (by omega)),g1,if_pos (by omega)];have:=cut_get (f:=ow S.words) (i:=b) (n:=wz S.sizes (ow S.words b)) (k:=i) hi;rw [show next+i-next=i by omega,List.getD_eq_getElem?_getD,this];rfl
     · have hb':b ∈ r:=by
         rcases List.mem_cons.1 hb with h' | h'
         · exact absurd h' e
         · exact h'
       rw [show place (ow S.words) S.sizes next (a :: r) b=place (ow S.words) S.sizes (next+wz S.sizes (ow S.words a)) r b by simp [place,e]];exact v5 b hb' i hi
   · rw [v6 j (by omega),g1,if_neg (by omega)]
def to' (m:Nat → Nat) (x:Int):Int:=((m x.toNat:Nat):Int)
def nz (f:Nat → Int) (z:List Int) (m:Nat → Nat) (a:Nat):List Int:=if isEnd (f a) then fz f z a else (fz f z a).map (to' m)
end Hp
namespace Hp
section
variable {S:Hs} {B:Nat} {L:List Tl} {ch:Nat → List Nat}
structure Mv (S:Hs) (m:Nat → Nat) (next:Nat) (d r:List Nat) (W:List Int) (cc:Nat → List Nat):Prop where
 len:W.length=S.words.length
 raw:∀ b ∈ r,∀ i,i < wz S.sizes (ow S.words b) → ow W (m b+i)=ow S.words (b+i)
 done:∀ b ∈ d,ow W (m b)=ow S.words b ∧ ow W (m b+1)=ow S.words (b+1) ∧ ow W (m b+2)=ow S.words (b+2) ∧ fz (ow W) S.sizes (m b)=nz (ow S.words) S.sizes m b
 path:∀ c,c < 16 → Path (ow W) c (cc c)
 nd:∀ c,c < 16 → (cc c).Nodup
 mem:∀ c,c < 16 → ∀ x,x ∈ cc c ↔ ∃ b ∈ d,x=m b ∧ cz (ow S.words b) (nz (ow S.words) S.sizes m b)=c
 rest:∀ j,j=16 ∨ next ≤ j → ow W j=0
end
end Hp
namespace Hp
theorem ow_rep (n j:Nat):ow (List.replicate n (0:Int)) j=0:=by
 unfold ow
 rw [List.getD_eq_getElem?_getD,List.getElem?_replicate]
 split <;> rfl
end Hp
namespace Hp
def bef:Nat → List Tl → Nat → Nat
 | l,[],_=>l
 | l,_ :: _,0=>l
 | _,t :: r,i+1=>bef (t.a+2) r i
def freeOf (L:List Tl):List Tl:=L.filter fun t=>t.fr
theorem mem_freeOf {L:List Tl} {t:Tl}:t ∈ freeOf L ↔ t ∈ L ∧ t.fr=true:=by simp [freeOf]
theorem links_free {f:Nat → Int}:∀ {l:Nat} {L:List Tl},Links f l L 0 → (∀ i t,(freeOf L)[i]? = some t → f (bef l (freeOf L) i)=(t.a:Int)) ∧ f (bef l (freeOf L) (freeOf L).length)=0
 | l,[],h=>⟨by simp [freeOf],h⟩
 | l,t :: r,h=>by
  unfold Links at h
  cases hf:t.fr with
  | false=>
   rw [hf] at h;have e:freeOf (t :: r)=freeOf r:=by simp [freeOf,hf]
   rw [e];exact links_free (by simpa using h)
  | true=>
   rw [hf] at h;simp only [if_true] at h;have e:freeOf (t :: r)=t :: freeOf r:=by simp [freeOf,hf]
   obtain ⟨h1,h2⟩:=links_free h.2;rw [e];refine ⟨fun i u hu=>?_,h2⟩
   cases i with
   | zero=>
    have:t=u:=by simpa using hu
    subst this;exact h.1
   | succ i=>exact h1 i u (by simpa using hu)
theorem free_far:∀ {s n:Nat} {L:List Tl},Lay s L n → Sep L → (freeOf L).Pairwise fun t u=>t.a+t.k < u.a
 | _,_,[],_,_=>List.Pairwise.nil
 | s,n,t :: r,h,hs=>by
  obtain ⟨h1,h2,h3⟩:=h;have ih:=free_far h3 hs.tail
  cases hf:t.fr with
  | false=>
   have e:freeOf (t :: r)=freeOf r:=by simp [freeOf,hf]
   rw [e];exact ih
  | true=>
   have e:freeOf (t :: r)=t :: freeOf r:=by simp [freeOf,hf]
   rw [e];refine List.pairwise_cons.2 ⟨fun u hu=>?_,ih⟩;obtain ⟨hu1,hu2⟩:=mem_freeOf.1 hu
   cases r with
   | nil=>cases hu1
   | cons v r=>
    obtain ⟨q1,q2,q3⟩:=h3
    rcases List.mem_cons.1 hu1 with rfl | hu1
    · exact absurd ⟨hf,hu2⟩ hs.1
    · have:=q3.mem hu1;omega
structure Frees (f:Nat → Int) (n:Nat) (F:List Tl):Prop where
 link:∀ i t,F[i]? = some t → f (bef 16 F i)=(t.a:Int)
 last:f (bef 16 F F.length)=0
 part:∀ t ∈ F,17 ≤ t.a ∧ 3 ≤ t.k ∧ t.a+t.k ≤ n ∧ f t.a=0 ∧ f (t.a+1)=t.k ∧ ∀ j,t.a+3 ≤ j → j < t.a+t.k → f j=0
 far:∀ i t u,F[i]? = some t → F[i+1]? = some u → t.a+t.k < u.a
theorem Parts.frees {f:Nat → Int} {z:List Int} {L:List Tl} {n:Nat} (h:Parts f z L n):Frees f n (freeOf L) where
 link:=(links_free h.links).1
 last:=(links_free h.links).2
 part t ht:=by
  obtain ⟨h1,h2⟩:=mem_freeOf.1 ht;have:=h.lay.mem h1;have:=(h.ok t h1).free h2;exact ⟨by omega,by omega,by omega,this.1,this.2.1,this.2.2⟩
 far i t u h1 h2:=by
  have hp:=free_far h.lay h.sep;rw [List.pairwise_iff_getElem] at hp;obtain ⟨l1,e1⟩:=List.getElem?_eq_some_iff.1 h1;obtain ⟨l2,e2⟩:=List.getElem?_eq_some_iff.1 h2;have:=hp i (i+1) l1 l2 (by omega);rw [e1,e2] at this;exact this
end Hp
namespace Hp
def PathV (f:Nat → Int):Int → List Nat → Prop
 | x,[]=>x=0
 | x,a :: r=>x=(a:Int) ∧ a ≠ 0 ∧ PathV f (f (a+3)) r
theorem Path.v {f:Nat → Int}:∀ {l:Nat} {r:List Nat},Path f l r → PathV f (f l) r
 | _,[],h=>h
 | _,_ :: _,h=>⟨h.1,h.2.1,Path.v h.2.2⟩
end Hp
namespace Hp
theorem lay_len:∀ {s n:Nat} {L:List Tl},Lay s L n → s+3 * L.length ≤ n
 | _,_,[],h=>by have:_=_:=h;simp;omega
 | s,n,t :: r,h=>by
  have:=lay_len h.2.2;have:=h.2.1;simp only [List.length_cons];omega
theorem Wf.nodup {S:Hs} {B:Nat} {L:List Tl} {ch:Nat → List Nat} (h:Wf S B L ch):S.taken.Nodup:=h.up.imp fun h=>by omega
end Hp
end Go.Proofs.YtdokmmhjmclmnaaGreat
