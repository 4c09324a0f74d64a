/-
  Part 9 of a proof: HFn28.
-/
import Derived.Test.YtdokmmhjmclmnaaGreatMN03
import Derived.Test.YtdokmmhjmclmnaaGreatMN06
import Derived.Test.YtdokmmhjmclmnaaGreatMN08
set_option linter.unusedSimpArgs false
set_option linter.unusedVariables false
set_option linter.unusedSectionVars false
set_option linter.unnecessarySimpa false
namespace Go.Proofs.YtdokmmhjmclmnaaGreat
open Go.RowKit Go.Maps
theorem WordsAt.copied {w:World} {g:Nat} {V V':List Int} {p:Option Addr} {c i:Nat} {l:List Int} (h:WordsAt w g V) (hs:SliceAt w p c l) (h0:0 < l.length) (hw:Hp.lay V i l=some V') :
    ∃ w',(∀ n c' ty,l.length ≤ n → (Builtin.copy_ #[22,22] ty #[.slice (some ⟨g,i,none⟩) n c',.slice p l.length c]).run Tryz.prog w = .ok (goInt (l.length:Nat)) w') ∧ WordsAt w' g V' ∧ But [g] w w':=by
  obtain ⟨b,o,rfl,hb,hx⟩:=hs.cells h0;obtain ⟨s,hg⟩:=h.row;have hl:=HAt.lay_len hw;have hfit:i+(ints l).length ≤ (ints V ++ s).toArray.size:=by simp [ints];omega
  have k1:But [g] w (w.setRow g (splice (ints V ++ s) i (ints l)).toArray):=(But.refl _ _).setRow (.inl (by simp)) _;refine ⟨w.setRow g (splice (ints V ++ s) i (ints l)).toArray,fun n c' ty hn=>?_,h.spliced hw hs.wf (fun cur hcur hle=>?_),k1⟩
  · have hm:Nat.min l.length n=l.length:=Nat.min_eq_left hn;have:=run_copy_rowK (P:=Tryz.prog) w 22 22 ty 3 1 g i n c' ⟨b,o,none⟩ l.length c _ 3 (ints l) Tryz.underlying22 (by kernel_rfl) hg (by rw [hm];simp [ints]) (fun j v hj=>by
     rw [Addr.add_lit];obtain ⟨hj1,hj2⟩:=List.getElem?_eq_some_iff.1 hj;have hj3:j < l.length:=by simpa [ints] using hj1
     rw [hx j l[j] (List.getElem?_eq_getElem hj3),← hj2];simp [ints]) hfit (fun v hv=>by
     obtain ⟨x,_,rfl⟩:=List.mem_map.1 hv;rfl)
    rw [hm] at this;rw [this];simp only [List.toList_toArray,splice,List.append_assoc]
  · rw [hg] at hcur;have e:cur=ints V ++ s:=by
     have:=Option.some.inj hcur;injection this with e1
     simpa using e1.symm
    subst e;exact setRow_heap w g _ _ _ _ hg
theorem sub_at {w:World} {d:Hd} {S:Hp.Hs} {a k:Nat} {l:List Int} (h:HAt w d S) (hl:Hp.sub S.words a k=some l) (c:Nat) (hc:k ≤ c) (hc2:c ≤ 9223372036854775807):SliceAt w (some ⟨d.gw,a,none⟩) c l ∧ l.length=k ∧ a+k ≤ S.words.length:=by
 unfold Hp.sub at hl
 split at hl
 case isFalse=>cases hl
 rename_i hle
 cases hl
 have hlen:((S.words.drop a).take k).length=k:=by simp;omega
 refine ⟨⟨by omega,hc2,fun x hx=>h.words.wf x (List.mem_of_mem_drop (List.mem_of_mem_take hx)),fun _=>⟨d.gw,a,rfl,h.words.lt,fun j x hx=>?_⟩⟩,hlen,hle⟩
 refine h.words.get ?_
 unfold Hp.rd at hx ⊢
 rw [List.getElem?_take] at hx
 split at hx
 · rw [List.getElem?_drop] at hx;exact hx
 · cases hx
theorem made_at_ (w:World) (n g:Nat) (hg:g=w.heap.size):WordsAt (w.alloc (.cells (madeCells #[.int .i64 0] n) 3)) g (List.replicate n 0):=by
 subst hg
 exact made_words w n
structure Mv (w W:World) (d:Hd) (S:Hp.Hs) (g gm:Nat) (V:List Int) (M:List (Nat × Int)):Prop extends HAt W d S where
 ext':Ext w W
 new:WordsAt W g V
 moved:MapIAt Tryz.prog W gm M
 g1:w.heap.size ≤ g
 g2:w.heap.size ≤ gm
 g3:g ≠ gm
 o0:∀ b ∈ d.own,b < w.heap.size
 o1:∀ b o,d.sp=some ⟨b,o,none⟩ → b < w.heap.size
 o2:∀ b o,d.op=some ⟨b,o,none⟩ → b < w.heap.size
namespace Mv
variable {w W W':World} {d:Hd} {S:Hp.Hs} {g gm:Nat} {V V':List Int} {M M':List (Nat × Int)}
theorem ext (h:Mv w W d S g gm V M) (k:Ext W W'):Mv w W' d S g gm V M:=
 { h with toHAt:=h.toHAt.ext k,ext':=h.ext'.trans k,new:=h.new.ext k,moved:=h.moved.ext k }
theorem far (h:Mv w W d S g gm V M) {x:Nat} (k:But [x] W W') (hx:w.heap.size ≤ x):HAt W' d S:=
 h.toHAt.but k (by have:=h.o0 _ d.hb_own;simp;omega) (by have:=h.o0 _ d.gw_own;simp;omega) (by have:=h.o0 _ d.gm_own;simp;omega) (fun b o e=>by have:=h.o1 b o e;simp;omega) (fun b o e=>by have:=h.o2 b o e;simp;omega)
theorem copied (h:Mv w W d S g gm V M) (k:But [g] W W') (hn:WordsAt W' g V'):Mv w W' d S g gm V' M:=
 { h with toHAt:=h.far k h.g1,ext':=But.toExt h.ext' k (by simp;exact h.g1),new:=hn,moved:=h.moved.but k (by simp;exact fun e=>h.g3 e.symm) }
theorem putd (h:Mv w W d S g gm V M) (k:But [gm] W W') (hn:MapIAt Tryz.prog W' gm M'):Mv w W' d S g gm V M':=
 { h with toHAt:=h.far k h.g2,ext':=But.toExt h.ext' k (by simp;exact h.g2),new:=h.new.but k (by simp;exact h.g3),moved:=hn }
theorem cut {P:Program} {cd:Code} {Q:Exit → Act → World → Prop} {a:Act} (h:Mv w W d S g gm V M) (k:∀ w',Mv w w' d S g gm V M → cd.wp P Q a w'):cd.wp P Q a W:=k W h
theorem swap (h:Mv w W d S g gm V M) (hV:V.length=S.words.length) :
    HAt (W.setCell ⟨d.hb,2,none⟩ (.slice (some ⟨g,0,none⟩) S.words.length S.words.length)) { d with gw:=g,cap:=S.words.length } { S with words:=V }:=by
  have k:But [d.hb] W (W.setCell ⟨d.hb,2,none⟩ (.slice (some ⟨g,0,none⟩) S.words.length S.words.length)):=(But.refl _ _).setCell (.inl (by simp)) _;have o1:=h.o0 _ d.hb_own;have o2:=h.o0 _ d.gm_own;have g1:=h.g1;have q1:∀ b o,d.sp=some ⟨b,o,none⟩ → b ∉ [d.hb]:=fun b o e=>by
   have:=h.far1 b o e;simp [Hd.own] at this;simp [this.1]
  have q2:∀ b o,d.op=some ⟨b,o,none⟩ → b ∉ [d.hb]:=fun b o e=>by
   have:=h.far2 b o e;simp [Hd.own] at this;simp [this.1]
  exact
  { c0:=(World.cell?_setCell_other _ _ _ _ (by simp)).trans h.c0
    c1:=(World.cell?_setCell_other _ _ _ _ (by simp)).trans h.c1
    c2:=by simpa [hV] using World.cell?_setCell_same _ _ _ h.c2
    c3:=(World.cell?_setCell_other _ _ _ _ (by simp)).trans h.c3
    f2:=by simpa using h.f2
    sizes:=h.sizes.but k q1
    order:=h.order.but k q2
    words:=h.new.but k (by simp;omega)
    le:=by simp [hV]
    cap:=by have:=h.small;simp;omega
    map:=h.map.but k (by simp;exact fun e=>h.apart2 e.symm)
    below:=fun a ha=>by simpa [hV] using h.below a ha
    apart1:=by simp;omega
    apart2:=h.apart2
    apart3:=by simp;omega
    far1:=fun b o e=>by
     have a1:=h.far1 b o e;have a2:=h.o1 b o e;simp [Hd.own] at a1 ⊢;refine ⟨a1.1, ?_,a1.2.2⟩;omega
    far2:=fun b o e=>by
     have a1:=h.far2 b o e;have a2:=h.o2 b o e;simp [Hd.own] at a1 ⊢;refine ⟨a1.1, ?_,a1.2.2⟩;omega
    pos:=h.pos
    small:=by simp only [hV];exact h.small
    few:=h.few
    old1:=fun b o e=>Nat.lt_of_lt_of_le (h.old1 b o e) k.size
    old2:=fun b o e=>Nat.lt_of_lt_of_le (h.old2 b o e) k.size }
end Mv
theorem moves_cons {S:Hp.Hs} {a next:Nat} {r:List Nat} {V:List Int} {M:List (Nat × Int)} {R:List Int × Nat × List (Nat × Int)} (h:Hp.Hs.moves S (a :: r) V next M=some R) :
    ∃ t k l V',S.tag a=some t ∧ Hp.wide S.sizes t=some k ∧ Hp.sub S.words a k=some l ∧ Hp.lay V next l=some V' ∧ Hp.Hs.moves S r V' (next+k) (putI a (next:Int) M)=some R:=by
  simp only [Hp.Hs.moves,Option.bind_eq_bind,Option.bind_eq_some_iff] at h;obtain ⟨k,hk,l,hl,V',hV,h⟩:=h;obtain ⟨t,ht,hk⟩:=Option.bind_eq_some_iff.1 hk;exact ⟨t,k,l,V',ht,hk,hl,hV,h⟩
theorem putI_len (k:Nat) (x:Int):∀ M:List (Nat × Int),(putI k x M).length ≤ M.length+1
 | []=>by simp [putI]
 | (a,v) :: r=>by
  unfold putI
  split
  · simp
  · split
    · simp
    · have:=putI_len k x r;simp;omega
theorem moved_some {S S':Hp.Hs} {M:List (Nat × Int)} (h:S.moved=some (M,S')):∃ W next S1,Hp.Hs.moves S S.taken (List.replicate S.words.length 0) 17 []=some (W,next,M) ∧ Hp.Hs.rechain M { S with words:=W,taken:=[] } S.taken=some S1 ∧
    ((next < W.length ∧ ∃ V1 V2,Hp.wr S1.words 16 next=some V1 ∧ Hp.wr V1 (next+1) ((W.length:Int)-next)=some V2 ∧ S' = { S1 with words:=V2 }) ∨ (¬ next < W.length ∧ S'=S1)):=by
  unfold Hp.Hs.moved at h;simp only [Option.bind_eq_bind,Option.bind_eq_some_iff] at h;obtain ⟨⟨W,next,M0⟩,hm,S1,h1,h⟩:=h;simp only at h
  split at h
  · rename_i hlt;simp only [Option.bind_eq_some_iff,Option.pure_def,Option.some.injEq,Prod.mk.injEq] at h;obtain ⟨V1,h2,V2,h3,rfl,rfl⟩:=h;exact ⟨W,next,S1,hm,h1,.inl ⟨hlt,V1,V2,h2,h3,rfl⟩⟩
  · rename_i hlt;simp only [Option.some.injEq,Prod.mk.injEq] at h;obtain ⟨rfl,rfl⟩:=h;exact ⟨W,next,S1,hm,h1,.inr ⟨hlt,rfl⟩⟩
theorem mem_putI {k:Nat} {x:Int}:∀ {M:List (Nat × Int)} {p:Nat × Int},p ∈ putI k x M → p=(k,x) ∨ p ∈ M
 | [],p,h=>by simpa [putI] using h
 | (a,v) :: r,p,h=>by
  unfold putI at h
  split at h
  · rcases List.mem_cons.1 h with rfl | h
    · exact .inl rfl
    · exact .inr h
  · split at h
    · rcases List.mem_cons.1 h with rfl | h
      · exact .inl rfl
      · exact .inr (by simp [h])
    · rcases List.mem_cons.1 h with rfl | h
      · exact .inr (by simp)
      · rcases mem_putI h with h | h
        · exact .inl h
        · exact .inr (by simp [h])
theorem getI_val {k:Nat} {v:Int}:∀ {M:List (Nat × Int)},getI k M=some v → (k,v) ∈ M
 | [],h=>by cases h
 | (a,u) :: r,h=>by
  unfold getI at h
  split at h
  · rename_i e
    cases h
    subst e;simp
  · exact List.mem_cons_of_mem _ (getI_val h)
theorem getD_small {k:Nat} {M:List (Nat × Int)} (h:∀ p ∈ M,0 ≤ p.2 ∧ p.2 ≤ 1000017):0 ≤ (getI k M).getD 0 ∧ (getI k M).getD 0 ≤ 1000017:=by
 cases e:getI k M with
 | none=>simp
 | some v=>simpa using h _ (getI_val e)
theorem rekid_succ {S:Hp.Hs} {M:List (Nat × Int)} {tt n j:Nat} {W W':List Int} (h:Hp.Hs.rekid S M tt (n+1) j W=some W') :
    ∃ k ks W1,Hp.ra W (tt+4+j)=some k ∧ Hp.Hs.kids { S with words:=W } tt=some ks ∧ j < ks.length ∧ Hp.wr W (tt+4+j) ((getI k M).getD 0)=some W1 ∧ Hp.Hs.rekid S M tt n (j+1) W1=some W':=by
  simp only [Hp.Hs.rekid,Option.bind_eq_bind,Option.bind_eq_some_iff] at h;obtain ⟨k,hk,ks,hks,h⟩:=h
  split at h
  · rename_i hj;simp only [Option.bind_eq_some_iff] at h;obtain ⟨W1,h1,h⟩:=h;exact ⟨k,ks,W1,hk,hks,hj,h1,h⟩
  · cases h
theorem rekid_len {S:Hp.Hs} {M:List (Nat × Int)} {tt:Nat}:∀ {n j:Nat} {W W':List Int},Hp.Hs.rekid S M tt n j W=some W' → W'.length=W.length
 | 0,_,W,W',h=>by
  have:W=W':=by simpa [Hp.Hs.rekid] using h
  rw [this]
 | n+1,j,W,W',h=>by
  obtain ⟨k,ks,W1,_,_,_,h1,h2⟩:=rekid_succ h;rw [rekid_len h2,(HAt.wr_len h1).1]
theorem rechain_cons {M:List (Nat × Int)} {S S':Hp.Hs} {a:Nat} {r:List Nat} (h:Hp.Hs.rechain M S (a :: r)=some S') :
    ∃ tt ks W1 head t fs x W2 W3,(getI a M).getD 0=((tt:Nat):Int) ∧ tt < S.words.length ∧ Hp.Hs.kids { S with taken:=Hp.Hs.insert tt S.taken } tt=some ks ∧
     Hp.Hs.rekid { S with taken:=Hp.Hs.insert tt S.taken } M tt ks.length 0 S.words=some W1 ∧ Hp.Hs.tag { S with words:=W1,taken:=Hp.Hs.insert tt S.taken } tt=some t ∧ Hp.Hs.fields { S with words:=W1,taken:=Hp.Hs.insert tt S.taken } tt=some fs ∧
     Hp.chain t fs=some head ∧ Hp.rd W1 head=some x ∧ Hp.wr W1 (tt+3) x=some W2 ∧ Hp.wr W2 head tt=some W3 ∧ Hp.Hs.rechain M { S with words:=W3,taken:=Hp.Hs.insert tt S.taken } r=some S':=by
  simp only [Hp.Hs.rechain,Option.bind_eq_bind,Option.bind_eq_some_iff] at h;obtain ⟨tt,htt,h⟩:=h
  split at h
  · cases h
  · rename_i hlt;simp only [Option.bind_eq_some_iff] at h;obtain ⟨ks,hks,W1,h1,t,ht,fs,hfs,head,hh,x,hx,W2,h2,W3,h3,h⟩:=h;exact ⟨tt,ks,W1,head,t,fs,x,W2,W3,adr_some htt,by omega,hks,h1,ht,hfs,hh,hx,h2,h3,h⟩
theorem But.turned2 {l:List Nat} {a b c:World} {g x:Nat} (h:But l a b) (k:But [g,x] b c) (hg:a.heap.size ≤ g) (hx:x ∈ l):But l a c:=
 ⟨k.os.trans h.os,k.tape.trans h.tape,k.output.trans h.output,Nat.le_trans h.size k.size,fun i hi hn=>(k.block i (Nat.lt_of_lt_of_le hi h.size) (by
  simp only [List.mem_cons,List.not_mem_nil,or_false,not_or];exact ⟨by omega,fun e=>hn (e ▸ hx)⟩)).trans (h.block i hi hn)⟩
structure Rl (w W:World) (d:Hd) (g n:Nat) (S:Hp.Hs) (gm:Nat) (M:List (Nat × Int)) (ps:Option Addr) (cs:Nat) (T:List Nat):Prop where
 at_:HAt W { d with gw:=g,cap:=n } S
 but:But d.own w W
 moved:MapIAt Tryz.prog W gm M
 cells:SliceAt W ps cs (natInts T)
 len:S.words.length=n
 a1:gm ≠ g
 a2:gm ≠ d.gm
 a3:∀ b o,ps=some ⟨b,o,none⟩ → b ≠ g ∧ b ≠ d.gm
 a4:w.heap.size ≤ g
namespace Rl
variable {w W W':World} {d:Hd} {g n gm cs:Nat} {S S':Hp.Hs} {M:List (Nat × Int)} {ps:Option Addr} {T:List Nat}
theorem turn (h:Rl w W d g n S gm M ps cs T) (k:But [g,d.gm] W W') (h':HAt W' { d with gw:=g,cap:=n } S') (hl:S'.words.length=n):Rl w W' d g n S' gm M ps cs T:=
 { at_:=h'
   but:=h.but.turned2 k h.a4 d.gm_own
   moved:=h.moved.but k (by simp [h.a1,h.a2])
   cells:=h.cells.but k (fun b o e=>by simp [h.a3 b o e])
   len:=hl
   a1:=h.a1
   a2:=h.a2
   a3:=h.a3
   a4:=h.a4 }
theorem ext (h:Rl w W d g n S gm M ps cs T) (k:Ext W W'):Rl w W' d g n S gm M ps cs T:=h.turn (But.ofExt k) (h.at_.ext k) h.len
theorem set (h:Rl w W d g n S gm M ps cs T) {j:Nat} {v:Int} {V:List Int} (hw:Hp.wr S.words j v=some V) (h1 : -9223372036854775808 ≤ v) (h2:v ≤ 9223372036854775807):Rl w (W.setCell ⟨g,j,none⟩ (.int .i64 v)) d g n { S with words:=V } gm M ps cs T:=
 h.turn ((But.refl _ _).setCell (.inl (by simp)) _) (h.at_.set hw h1 h2) ((HAt.wr_len hw).1.trans h.len)
theorem mapped (h:Rl w W d g n S gm M ps cs T) {T':List Nat} (k:W.mapTurned W' d.gm) (hm:MapAt Tryz.prog W' d.gm T') (hb:∀ a ∈ T',a < n):Rl w W' d g n { S with taken:=T' } gm M ps cs T:=
 h.turn ((But.refl _ _).turned k (.inl (by simp))) (h.at_.mapped (d:={ d with gw:=g,cap:=n }) k hm (fun a ha=>by rw [h.len];exact hb a ha)) h.len
theorem c2 (h:Rl w W d g n S gm M ps cs T):W.cell? ⟨d.hb,2,none⟩=some (.slice (some ⟨g,0,none⟩) n n):=by
 have:=h.at_.c2
 rw [h.len] at this
 exact this
theorem c3 (h:Rl w W d g n S gm M ps cs T):W.cell? ⟨d.hb,3,none⟩=some (.map (some d.gm)):=h.at_.c3
theorem get (h:Rl w W d g n S gm M ps cs T) {j:Nat} {x:Int} (hx:Hp.rd S.words j=some x):W.cell? ⟨g,j,none⟩=some (.int .i64 x):=h.at_.words.get hx
theorem froz (h:Rl w W d g n S gm M ps cs T) (j:Nat):W.frozen? ⟨g,j,none⟩=false:=h.at_.words.froz j
theorem z1 (h:Rl w W d g n S gm M ps cs T):d.hb < W.heap.size:=h.at_.lt
theorem z2 (h:Rl w W d g n S gm M ps cs T):g < W.heap.size:=h.at_.words.lt
theorem cut {P:Program} {cd:Code} {Q:Exit → Act → World → Prop} {a:Act} (h:Rl w W d g n S gm M ps cs T) (k:∀ w',Rl w w' d g n S gm M ps cs T → cd.wp P Q a w'):cd.wp P Q a W:=k W h
end Rl
def MovePost (w:World) (d:Hd) (M:List (Nat × Int)) (S:Hp.Hs) (e:Ending) (w':World):Prop:=
 ∃ g gm,e = .returned (.map (some gm)) ∧ HAt w' { d with gw:=g,cap:=S.words.length } S ∧ MapIAt Tryz.prog w' gm M ∧ But d.own w w' ∧ w.heap.size ≤ g ∧ w.heap.size ≤ gm ∧ g ≠ gm
theorem Rl.post {w W:World} {d:Hd} {n cs:Nat} {S:Hp.Hs} {M:List (Nat × Int)} {ps:Option Addr} {T:List Nat} {g:Nat} (h:Rl w W d g n S w.heap.size M ps cs T) (hg:w.heap.size+1 ≤ g):MovePost w d M S (.returned (.map (some w.heap.size))) W:=
 ⟨g,w.heap.size,rfl,by rw [h.len];exact h.at_,h.moved,h.but,by omega,Nat.le_refl _,by omega⟩
set_option maxRecDepth 100000 in
set_option maxHeartbeats 16000000 in
theorem move_any {w:World} {d:Hd} {S S':Hp.Hs} {M:List (Nat × Int)} (h:HAt w d S) (hr:S.moved=some (M,S')) :
    Calls Tryz.prog 116 #[.pointer (some ⟨d.hb,0,none⟩)] w (MovePost w d M S'):=by
  have H:=Lib.hid (Now.refl h);obtain ⟨Wf,nf,S1,hmv,hrc,hend⟩:=moved_some hr;have HMV:=Lib.hid hmv;have HRC:=Lib.hid hrc;have HEND:=Lib.hid hend;have sm:=h.small;have c2:=h.c2;have c3:=h.c3;have z1:=h.lt;have OWN:=Lib.hid h.own_lt;have TB:=Lib.hid (fun x (hx:x ∈ S.taken)=>(by have:=h.below x hx;omega:x < 1000000));have MAPT:=Lib.hid h.map;obtain ⟨n,hn⟩:∃ n,S.words.length=n:=⟨_,rfl⟩
  have EN:=Lib.hid hn;rw [hn] at sm c2;clear h hr hn hmv hrc hend;have hmm:=@run_makeMap Tryz.prog;have hmk:=run_make_row' (P:=Tryz.prog) 22 3 (.int .i64 0) 8 Tryz.underlying22 (show (Tryz.prog.info? 3).map (fun i=>(i.zero,i.size,i.bytes))=some (some (.int .i64 0),1,8) from by kernel_rfl) rfl .i64 .i64 n (by omega) (by omega);go_enter Tryz.func116,Tryz.ntmps116;go_upto_region 3 with (fail)
  have MV0:Mv w ((w.alloc (.map #[] 0)).alloc (.cells (madeCells #[.int .i64 0] n) 3)) d S (w.heap.size+1) w.heap.size (List.replicate n 0) []:=
   { toHAt:=H.out.toHAt.ext (exx)
     ext':=exx
     new:=made_at_ (w.alloc (.map #[] 0)) n _ (by simp)
     moved:=(MapIAt.made w).ext (Ext.alloc (Ext.refl _) _)
     g1:=by omega
     g2:=Nat.le_refl _
     g3:=by omega
     o0:=OWN.out
     o1:=H.out.old1
     o2:=H.out.old2 }
  refine Mv.cut MV0 ?_;clear MV0 c2 c3 hmm hmk;intro w1 MV1;have M1:=Lib.hid MV1;have c3:=M1.out.c3;clear MV1
  go_wp2_with (first
   | (go_at_call 130;refine (keysB_call _ _).mono ?_;rintro e w3 ⟨rfl,rfl⟩)
   | (go_at_call 117;refine (sortedB_call M1.out.map (fun x hx=>TB.out x hx)).mono ?_;rintro e w4 ⟨ps,cs,rfl,SS,far4,E4⟩))
  have M4:=Lib.hid ((M1.out.ext (Ext.alloc (Ext.refl _) _)).ext E4);have S4:=Lib.hid SS;have PSF:=Lib.hid (fun b o (e:ps=some ⟨b,o,none⟩)=>far4 b o e);have W4:w1.heap.size ≤ w4.heap.size:=Nat.le_trans (by simp) E4.le;have BIG:=Lib.hid (show w.heap.size+1 < w1.heap.size from M1.out.new.lt);obtain ⟨T,hT⟩:∃ T,S.taken=T:=⟨_,rfl⟩
  have ET:=Lib.hid hT;have HM0:=Lib.hid (show Hp.Hs.moves S (T.drop 0) (List.replicate n 0) 17 []=some (Wf,nf,M) by have:=HMV.out;rw [EN.out,hT] at this;exact this);rw [hT] at S4 ⊢;have EL0:=Lib.hid (List.length_replicate (n:=n) (a:=(0:Int)));have tl:T.length ≤ 1000000:=by rw [← hT];have:=H.out.taken_len;have:=H.out.small;omega
  clear hT SS far4 E4 M1 c3 HMV MAPT
  go_loopg [4,32] T.length (fun g s i wr=>∃ (j next:Nat) (V:List Int) (M1:List (Nat × Int)),j ≤ T.length ∧ T.length-j ≤ g ∧ i = .int .i64 j ∧ s = .int .i64 next ∧ next ≤ 1000017 ∧ M1.length ≤ j ∧ Hid (Mv w wr d S (w.heap.size+1) w.heap.size V M1) ∧ Hid (Hp.Hs.moves S (T.drop j) V next M1=some (Wf,nf,M)) ∧ Hid (SliceAt wr ps cs (natInts T)) ∧ Hid (V.length=n) ∧ Hid (∀ p ∈ M1,0 ≤ p.2 ∧ p.2 ≤ 1000017))
  case atStart=>exact ⟨0,17,_,[],by omega,by omega,rfl,rfl,by omega,by simp,M4,HM0,S4,EL0,Lib.hid (by simp)⟩
  case round=>
   obtain ⟨j,next,V,M1,hj,hg,rfl,rfl,hnx,hml,MV,HM,SP,EV,VS⟩:=hrel;clear M4 HM0 S4 EL0
   by_cases hlt:j < T.length
   · have hm:=HM.out;rw [List.drop_eq_getElem_cons hlt] at hm;obtain ⟨x,hxe⟩:∃ x,T[j]=x:=⟨_,rfl⟩
     rw [hxe] at hm;obtain ⟨t,k,l,V1,ht,hk,hl,hV,hm⟩:=moves_cons hm;have hwk:=wide_le MV.out.toHAt hk;obtain ⟨b,o,hps,hb,hcell⟩:=SP.out.cells (by rw [natInts_length];omega);have gx:=hcell j x (natInts_get (by rw [List.getElem?_eq_getElem hlt,hxe]));have scs:=SP.out.le;have scc:=SP.out.cap;rw [natInts_length] at scs;have hsub:=(sub_at MV.out.toHAt hl k (Nat.le_refl _) (by omega)).2;have hlay:=(HAt.lay_len hV).2;rw [hsub.1,EV.out] at hlay;have hxk:=hsub.2;rw [EN.out] at hxk;have LK:=Lib.hid hsub.1;have HT:=Lib.hid ht;have HK:=Lib.hid hk;have HL:=Lib.hid hl;have HV:=Lib.hid hV;have HM2:=Lib.hid hm;have EV1:=Lib.hid ((HAt.lay_len hV).1.trans EV.out);have hle:=MV.out.le;have hcap:=MV.out.cap;rw [EN.out] at hle;clear hm hxe ht hk hl hV hcell hsub HM;subst hps;go_upto_region 7 with (fail)
     have c0:=MV.out.c0;have c1:=MV.out.c1;have c2:=MV.out.c2;have z1:=MV.out.lt;have PR12:=Lib.hid (fun (ww:World) (hSw:Ext wr ww)=>And.intro ((hSw.cell z1 0).trans c0) ((hSw.cell z1 1).trans c1));refine wp_region_seq (S:=fun W=>Ext wr W) (R:=Ext) (by kernel_rfl) Ext.refl ?_ ?_
     · exact exx
     refine' tkL 0 rfl ?h0_168 ?_
     case h0_168=>(intro w q;obtain ⟨c0',c1'⟩:=PR12.out w q;go_simp;try with_reducible rfl)
     refine layy ?_;refine' tkL 1 rfl ?h1_169 ?_
     case h1_169=>(intro w q;obtain ⟨c0',c1'⟩:=PR12.out w q;go_simp;try with_reducible rfl)
     refine layy ?_;refine' tkL 2 rfl ?h2_170 ?_
     case h2_170=>(intro w q;obtain ⟨c0',c1'⟩:=PR12.out w q;go_simp;try with_reducible rfl)
     refine layy ?_;refine' tkL 3 rfl ?h3_171 ?_
     case h3_171=>(intro w q;obtain ⟨c0',c1'⟩:=PR12.out w q;go_simp;try with_reducible rfl)
     refine layy ?_;refine' tkL 4 rfl ?h4_172 ?_
     case h4_172=>(intro w q;obtain ⟨c0',c1'⟩:=PR12.out w q;go_simp;try with_reducible rfl)
     refine layy ?_;refine' tkL 5 rfl ?h5_173 ?_
     case h5_173=>(intro w q;obtain ⟨c0',c1'⟩:=PR12.out w q;go_simp;try with_reducible rfl)
     refine layy ?_;refine' tkR 6 (v:=.int .i64 t) rfl (Or.inr ⟨by rfl,76,_, ?hx6_174, ?hy6_174⟩) ?rest6_174
     case hx6_174=>(intro w hSw;go_simp;try with_reducible rfl)
     case hy6_174=>exact fun w hE=>(tag_any (MV.out.toHAt.ext hE).c2 rfl MV.out.le MV.out.cap (MV.out.toHAt.ext hE).words HT.out).mono (fun _ _ h=>⟨h.1,h.2,Ext.trans hE h.2⟩)
     refine layy ?_;refine' tkR 7 (v:=.int .i64 k) rfl (Or.inr ⟨by rfl,123,_, ?hx7_175, ?hy7_175⟩) ?rest7_175
     case hx7_175=>(intro w hSw;go_simp;try with_reducible rfl)
     case hy7_175=>exact fun w hE=>(wide_any (MV.out.toHAt.ext hE).sizes HK.out (by omega)).mono (fun _ _ h=>⟨h.1,h.2,Ext.trans hE h.2⟩)
     refine layy ?_;refine' tkL 8 rfl ?h8_176 ?_
     case h8_176=>(intro w q;obtain ⟨c0',c1'⟩:=PR12.out w q;go_simp;try with_reducible rfl)
     refine layy ?_;refine wpAnyR_done (by kernel_rfl) ?_ _;intro x1 _ Ex1;clear c0 c1 c2 z1;have MX:=Lib.hid (MV.out.ext Ex1);have SX:=Lib.hid (SP.out.ext Ex1);go_upto_region 8 with (fail)
     have i1:IntKind.i64.wrap ((x:Int)+(k:Int))=(x:Int)+(k:Int):=IntWalk.i64_in _ (by omega);have i2:(0:Int) ≤ (x:Int):=by omega
     have i3:(0:Int) ≤ (next:Int):=by omega
     have i4:(next:Int) ≤ (n:Int):=by omega
     have i5:(x:Int) ≤ (x:Int)+(k:Int):=by omega
     have i6:(x:Int)+(k:Int) ≤ (d.cap:Int):=by omega
     have i7:((x:Int)+(k:Int)).toNat=x+k:=by omega
     have i8:(0:Int) ≤ (x:Int)+(k:Int):=by omega
     have i9:¬ n=next:=by omega
     have i10:¬ d.cap=x:=by omega
     have i11:x+k-x=k:=by omega
     refine wp_region_still_tail 12 (by kernel_rfl) (by kernel_rfl) ?_;change wpStill _ _ (World.drew x1) (fun a'=>wpList _ _ _ _ a' (World.drew x1)) _ _;have ED:Ext x1 (World.drew x1):=Ext.drew (Ext.refl _);have MD:=Lib.hid (MX.out.ext ED);generalize World.drew x1=wd at MD ED ⊢;have c3:=MD.out.c3;have f2:=MD.out.f2;have z1:=MD.out.lt;have z2:=MD.out.words.lt;have c2':=MD.out.c2;rw [EN.out] at c2';simp only [List.take_succ_cons,List.take_zero,List.drop_succ_cons,List.drop_zero]
     repeat still_step
     refine wpStill_nil ?_;have SB:=(sub_at MD.out.toHAt HL.out (d.cap-x) (by omega) (by omega)).1;obtain ⟨w9,hcp,hnew,hbut⟩:=WordsAt.copied MD.out.new SB (by rw [LK.out];omega) HV.out;rw [LK.out] at hcp;have hcp':=fun ty=>hcp (n-next) (n-next) ty (by omega)
     have MN:=Lib.hid (MD.out.copied hbut hnew);have SN:=Lib.hid ((SX.out.ext ED).but hbut (fun b' o' e=>by
      cases e
      have h1:=PSF.out b o rfl;have h2:=BIG.out;simp;omega))
     clear hcp hnew SB i1 i2 i3 i4 i5 i6 i7 i8;go_upto_region 9 with (fail)
     clear hcp' i9 i10 i11 c2' c3 f2 z1 z2;obtain ⟨w10,hup,hm10,ht10⟩:=MN.out.moved.put (t:=119) Tryz.underlying3 Tryz.underlying119 (by unfold maxLen;omega) (a:=x) (x:=(next:Int)) (by omega) (by omega) (by omega);have B10:But [w.heap.size] w9 w10:=(But.refl _ _).turned ht10 (.inl (by simp));have MP:=Lib.hid (MN.out.putd B10 hm10);have SP10:=Lib.hid (SN.out.but B10 (fun b' o' e=>by
      cases e
      have h1:=PSF.out b o rfl;have h2:=BIG.out;simp;omega))
     have PL:=putI_len x (next:Int) M1;clear hm10 ht10 B10
     go_wp2_with fail
     go_roundg (T.length-(j+1))
     case measure=>omega
     case rel=>exact ⟨j+1,next+k,V1,putI x (next:Int) M1,by omega,Nat.le_refl _,by go_num,by go_num,by omega,by omega,MP,HM2,SP10,EV1,Lib.hid (fun p hp=>by
      rcases mem_putI hp with rfl | hp
      · simp only;omega
      · exact VS.out p hp)⟩
   · have:j=T.length:=by omega
     subst this;go_upto_region 11 with (fail)
     have c2':=MV.out.c2;rw [EN.out] at c2';have c3':=MV.out.c3;have f2':=MV.out.f2;go_upto_region 12 with (fail)
     have LV:V.length=S.words.length:=by
      have h1:=EN.out;have h2:=EV.out;omega
     have HS0:=MV.out.swap LV;rw [EN.out] at HS0;have K0:But [d.hb] wr (wr.setCell ⟨d.hb,2,none⟩ (.slice (some ⟨w.heap.size+1,0,none⟩) n n)):=(But.refl _ _).setCell (.inl (by simp)) _;obtain ⟨w11,hclr,hm11,ht11⟩:=HS0.map.clear Tryz.underlying102 0;have HS1:=Lib.hid (HS0.mapped ht11 hm11 (by simp));have o0:=MV.out.o0 _ d.hb_own;have o1:=MV.out.o0 _ d.gm_own;have B11:But [d.hb,d.gm] wr w11:=((But.refl [d.hb,d.gm] _).setCell (p:=⟨d.hb,2,none⟩) (.inl (by simp)) _).turned ht11 (.inl (by simp));have GM:=Lib.hid (MV.out.moved.but B11 (by simp;omega));have SP11:=Lib.hid (SP.out.but B11 (fun b o e=>by
      have h1:=PSF.out b o e;have h2:=BIG.out;simp;omega))
     have BW:=Lib.hid (((But.ofExt (l:=d.own) MV.out.ext').setCell (p:=⟨d.hb,2,none⟩) (.inl d.hb_own) (.slice (some ⟨w.heap.size+1,0,none⟩) n n)).turned ht11 (.inl d.gm_own));clear K0 HS0 B11 hm11 ht11;go_upto_region 13 with (fail)
     have hml2:=HM.out;rw [List.drop_length] at hml2;obtain ⟨rfl,rfl,rfl⟩:V=Wf ∧ next=nf ∧ M1=M:=by simpa [Hp.Hs.moves] using hml2
     have R0:=Lib.hid (show Rl w w11 d (w.heap.size+1) n { S with words:=V,taken:=[] } w.heap.size M1 ps cs T from
      { at_:=HS1.out,but:=BW.out,moved:=GM.out,cells:=SP11.out,len:=EV.out,a1:=by omega,a2:=by omega,a4:=by omega
        a3:=fun b o e=>by
         have h1:=PSF.out b o e;have h2:=BIG.out;omega })
     have HR0:=Lib.hid (show Hp.Hs.rechain M1 { S with words:=V,taken:=[] } (T.drop 0)=some S1 by have:=HRC.out;rw [ET.out] at this;exact this);have bgm:w.heap.size+1 ≤ w11.heap.size:=Nat.le_of_lt R0.out.z2;clear hml2 HM HRC HS1 GM SP11 BW MV SP PSF BIG OWN hml
     go_wp2_with fail
     go_loopg [74] T.length (fun g i wr=>∃ (j:Nat) (Sx:Hp.Hs),j ≤ T.length ∧ T.length-j ≤ g ∧ i = .int .i64 j ∧ Hid (Rl w wr d (w.heap.size+1) n Sx w.heap.size M1 ps cs T) ∧ Hid (Hp.Hs.rechain M1 Sx (T.drop j)=some S1))
     case atStart=>exact ⟨0,_,by omega,by omega,rfl,R0,HR0⟩
     case round=>
      obtain ⟨j,Sx,hj,hg,rfl,R,HR⟩:=hrel;clear R0 HR0
      by_cases hlt:j < T.length
      · have hr:=HR.out;rw [List.drop_eq_getElem_cons hlt] at hr;obtain ⟨x,hxe⟩:∃ x,T[j]=x:=⟨_,rfl⟩
        rw [hxe] at hr;obtain ⟨tt,ks,W1,head,t,fs,y,W2,W3,htt,hlt2,hks,hrk,ht,hfs,hch,hy,hW2,hW3,hr⟩:=rechain_cons hr;have HGET:=Lib.hid htt;have HKS:=Lib.hid hks;have HRK:=Lib.hid hrk;have HT:=Lib.hid ht;have HFS:=Lib.hid hfs;have HCH:=Lib.hid hch;have HY:=Lib.hid hy;have HW2:=Lib.hid hW2;have HW3:=Lib.hid hW3;have HR2:=Lib.hid hr;have sl:=R.out.len;rw [sl] at hlt2;have l1:=(rekid_len hrk).trans sl;have L1:=Lib.hid l1;have L2:=Lib.hid ((HAt.wr_len hW2).1.trans l1);have b2:=(HAt.wr_len hW2).2;rw [l1] at b2;have b3:=rd_lt hy;rw [l1] at b3;obtain ⟨b,o,hps,hb,hcell⟩:=R.out.cells.cells (by rw [natInts_length];omega);have gx:=hcell j x (natInts_get (by rw [List.getElem?_eq_getElem hlt,hxe]));have scs:=R.out.cells.le;have scc:=R.out.cells.cap;rw [natInts_length] at scs;have hxb:x < 1000000:=TB.out x (by rw [ET.out,← hxe];exact List.getElem_mem hlt);have hlk:=R.out.moved.look (t:=119) Tryz.underlying3 Tryz.underlying119 (Tryz.zeroValue3 _) (k:=x) (by omega);rw [htt] at hlk;have c3:=R.out.c3;have tk:decide ((j:Int) < (T.length:Int))=true:=by simpa using (by omega:(j:Int) < (T.length:Int))
        obtain ⟨w5,hup,hm5,ht5⟩:=R.out.at_.map.put (t:=102) Tryz.underlying3 Tryz.underlying4 Tryz.underlying102 (by have:=R.out.at_.taken_len;have:=R.out.at_.small;unfold maxLen;omega) (a:=tt) (by omega);have R5:=Lib.hid (R.out.mapped ht5 hm5 (fun a' ha'=>by
         rcases (mem_ins tt a' Sx.taken).1 ha' with rfl | h'
         · exact hlt2
         · have:=R.out.at_.below a' h';rw [sl] at this;exact this))
        clear hr htt hks hrk ht hfs hch hy hW2 hW3 hcell hm5 ht5 sl l1 HR;subst hps;dsimp only at hup;go_upto_region 18 with (fail)
        clear hlk c3 gx tk hup R;obtain ⟨t',ht',hkq⟩:=kids_some HKS.out;have HT':=Lib.hid ht';have HKQ:=Lib.hid hkq;clear ht' hkq;have ksm:ks.length ≤ 1000000:=by
         rcases HKQ.out with ⟨_,rfl⟩ | ⟨_,hf'⟩
         · simp
         · obtain ⟨_,q,_,_,h4,h5,_⟩:=fields_some hf';have:=R5.out.at_.small;simp only at h5 this;omega
        go_wp2_with (go_at_call 80;refine (kids_any R5.out.at_ HT'.out HKS.out).mono ?_;rintro e w6 ⟨rfl,hb6⟩;obtain ⟨hc6,hf6,hs6⟩:=hb6.cells)
        have R6:=Lib.hid (R5.out.ext hb6);generalize hpk:kp { d with gw:=w.heap.size+1,cap:=n } tt t'=pk;have HPK:=Lib.hid hpk;clear hpk hb6 hc6 hf6 hs6 R5
        go_loopg [90] ks.length (fun g i wx=>∃ (q:Nat) (V2:List Int),q ≤ ks.length ∧ ks.length-q ≤ g ∧ i = .int .i64 q ∧ Hid (Rl w wx d (w.heap.size+1) n { Sx with words:=V2,taken:=Hp.Hs.insert tt Sx.taken } w.heap.size M1 (some ⟨b,o,none⟩) cs T) ∧ Hid (Hp.Hs.rekid { Sx with taken:=Hp.Hs.insert tt Sx.taken } M1 tt (ks.length-q) q V2=some W1))
        case atStart=>exact ⟨0,Sx.words,Nat.zero_le _,by omega,rfl,R6,HRK⟩
        case round=>
         obtain ⟨q,V2,hq,hg2,rfl,RV,HQ⟩:=hrel;clear R6;have lv:=RV.out.len;dsimp only at lv
         by_cases hlt3:q < ks.length
         · obtain rfl:pk=some ⟨w.heap.size+1,tt+4,none⟩:=by
             rw [← HPK.out]
             rcases HKQ.out with ⟨_,rfl⟩ | ⟨he,_⟩
             · simp at hlt3
             · simp [kp,he]
           have hrk:=HQ.out;rw [show ks.length-q=(ks.length-(q+1))+1 by omega] at hrk;obtain ⟨k,ks2,W4,hk,hks2,hql,hW4,hrk⟩:=rekid_succ hrk;obtain ⟨t2,ht2,hkq2⟩:=kids_some hks2;have g1:=RV.out.get (ra_some hk);have vb:=getD_small (k:=k) VS.out;have kb:=RV.out.at_.words.bound (ra_some hk);have lk:=rd_lt (ra_some hk);rw [lv] at lk;have KP:kp { d with gw:=w.heap.size+1,cap:=n } tt t2=some ⟨w.heap.size+1,tt+4,none⟩:=by
            rcases hkq2 with ⟨_,rfl⟩ | ⟨he,_⟩
            · simp at hql
            · simp [kp,he]
           have KA:=Lib.hid hk;have KS:=Lib.hid hks2;have HT2:=Lib.hid ht2;have HKP:=Lib.hid KP;have HW4:=Lib.hid hW4;have HRK2:=Lib.hid hrk;have RV4:=Lib.hid (RV.out.set hW4 (by omega) (by omega));have tk3:decide ((q:Int) < (ks.length:Int))=true:=by simpa using (by omega:(q:Int) < (ks.length:Int))
           have hql':(q:Int) < (ks2.length:Int):=by omega
           clear hk hks2 ht2 hkq2 KP hW4 hrk HQ;go_upto_region 21 with (fail)
           have KC:∀ w',Ext wr w' → Calls Tryz.prog 80 #[.pointer (some ⟨d.hb,0,none⟩),.int .i64 tt] w' fun e w''=>e = .returned (.slice (some ⟨w.heap.size+1,tt+4,none⟩) ks2.length ks2.length) ∧ Ext w' w'':=fun w' hE=>by
            have:=kids_any (RV.out.at_.ext hE) HT2.out KS.out;rw [HKP.out] at this;exact this
           clear g1 tk3;refine wp_region_any (by kernel_rfl) ?_;have PR13:=Lib.hid (fun (ww:World) (hSw:Ext wr ww)=>(RV.out.moved.ext hSw).look (t:=119) Tryz.underlying3 Tryz.underlying119 (Tryz.zeroValue3 _) (k:=k) (by omega));refine wpAny_to_X (S:=fun W=>Ext wr W) (R:=Ext) 7 7 Ext.refl ?_ ?_ (by rfl)
           · exact Ext.drew exx
           refine' tkY 0 rfl ?h0_177 ?_
           case h0_177=>(intro w q;obtain hlk':=PR13.out w q;go_simp;try with_reducible rfl)
           refine layy ?_;refine' tkY 1 rfl ?h1_178 ?_
           case h1_178=>(intro w q;obtain hlk':=PR13.out w q;go_simp;try with_reducible rfl)
           refine layy ?_;refine' tkX 2 (v:=.slice (some ⟨w.heap.size+1,tt+4,none⟩) ks2.length ks2.length) rfl (Or.inr ⟨by rfl,80,_, ?hx2_179, ?hy2_179⟩) ?rest2_179
           case hx2_179=>(intro w hSw;go_simp;try with_reducible rfl)
           case hy2_179=>exact fun w hE=>(KC _ hE).mono (fun _ _ h=>⟨h.1,h.2,Ext.trans hE h.2⟩)
           refine layy ?_;refine' tkY 3 rfl ?h3_180 ?_
           case h3_180=>(intro w q;obtain hlk':=PR13.out w q;go_simp;try with_reducible rfl)
           refine layy ?_;refine' tkY 4 rfl ?h4_181 ?_
           case h4_181=>(intro w q;obtain hlk':=PR13.out w q;go_simp;try with_reducible rfl)
           refine layy ?_;refine' tkY 5 rfl ?h5_182 ?_
           case h5_182=>(intro w q;obtain hlk':=PR13.out w q;go_simp;try with_reducible rfl)
           refine layy ?_;refine' tkY 6 rfl ?h6_183 ?_
           case h6_183=>(intro w q;obtain hlk':=PR13.out w q;go_simp;try with_reducible rfl)
           refine layy ?_;refine wpAnyX_done (by kernel_rfl) ?_;intro wd _ Ewd;simp only [List.drop_succ_cons,List.drop_zero];have RD:=Lib.hid (RV.out.ext Ewd);have g1:=RD.out.get (ra_some KA.out);have f1:=RD.out.froz (tt+4+q);have R7:=Lib.hid (RD.out.set HW4.out (by omega) (by omega));clear KC RV Ewd;go_upto_region 22 with (fail)
           refine Rl.cut R7.out ?_;clear R7 RD g1 f1 RV4;intro w7 N7;have R7:=Lib.hid N7;clear N7
           go_wp2_with fail
           go_roundg (ks.length-(q+1))
           case measure=>omega
           case rel=>exact ⟨q+1,W4,by omega,Nat.le_refl _,by go_num,R7,HRK2⟩
         · have:q=ks.length:=by omega
           subst this;have hrk:=HQ.out;rw [Nat.sub_self] at hrk;obtain rfl:V2=W1:=by simpa [Hp.Hs.rekid] using hrk
           have FA:=fields_at RV.out.at_ HFS.out;dsimp only at FA;clear hrk HQ HPK lv
           go_upto_region 24 with (first
            | (go_at_call 76;refine (tag_any RV.out.at_.c2 rfl RV.out.at_.le RV.out.at_.cap RV.out.at_.words HT.out).mono ?_;rintro e w7 ⟨rfl,hb7⟩;obtain ⟨hc7,hf7,hs7⟩:=hb7.cells)
            | (go_at_call 79;refine (fields_any (RV.out.ext hb7).at_ HFS.out).mono ?_;rintro e w8 ⟨rfl,hb8⟩;obtain ⟨hc8,hf8,hs8⟩:=hb8.cells)
            | (go_at_call 132;refine (chain_any ((FA.ext hb7).ext hb8) HCH.out).mono ?_;rintro e w9 ⟨rfl,hb9⟩;obtain ⟨hc9,hf9,hs9⟩:=hb9.cells))
           have R9:=Lib.hid (((RV.out.ext hb7).ext hb8).ext hb9);clear FA RV hb7 hc7 hf7 hs7 hb8 hc8 hf8 hs8 hb9 hc9 hf9 hs9;have c2:=R9.out.c2;have z1:=R9.out.z1;have z2:=R9.out.z2;have g:=R9.out.get HY.out;have BY:=Lib.hid (R9.out.at_.words.bound HY.out);obtain ⟨k1,k2,k3,k4⟩:IntKind.i64.wrap (((tt:Nat):Int)+3)=((tt:Nat):Int)+3 ∧ (0:Int) ≤ ((tt:Nat):Int)+3 ∧ ((tt:Nat):Int)+3 < ((n:Nat):Int) ∧ (((tt:Nat):Int)+3).toNat=tt+3:=⟨IntWalk.i64_in _ (by omega),by omega,by omega,by omega⟩
           refine wp_region_any (by kernel_rfl) ?_;refine' tkA 6 rfl ?hy6_184 ?_
           case hy6_184=>(intro w;go_simp;try with_reducible rfl)
           refine layy ?_;refine' tkA 7 rfl ?hy7_185 ?_
           case hy7_185=>(intro w;go_simp;try with_reducible rfl)
           refine layy ?_;refine' tkA 12 rfl ?hy12_186 ?_
           case hy12_186=>(intro w;go_simp;try with_reducible rfl)
           refine layy ?_;have PR14:=Lib.hid (fun (ww:World) (hSw:Ext w9 ww)=>And.intro ((hSw.cell z1 2).trans c2) ((hSw.cell z2 head).trans g));refine wpAny_to_X (S:=fun W=>Ext w9 W) (R:=Ext) 13 10 Ext.refl ?_ ?_ (by rfl)
           · exact Ext.drew exx
           refine' tkY 0 rfl ?h0_187 ?_
           case h0_187=>(intro w q;obtain ⟨c2',g'⟩:=PR14.out w q;go_simp;try with_reducible rfl)
           refine layy ?_;refine' tkY 1 rfl ?h1_188 ?_
           case h1_188=>(intro w q;obtain ⟨c2',g'⟩:=PR14.out w q;go_simp;try with_reducible rfl)
           refine layy ?_;refine' tkY 2 rfl ?h2_189 ?_
           case h2_189=>(intro w q;obtain ⟨c2',g'⟩:=PR14.out w q;go_simp;try with_reducible rfl)
           refine layy ?_;refine' tkY 3 rfl ?h3_190 ?_
           case h3_190=>(intro w q;obtain ⟨c2',g'⟩:=PR14.out w q;go_simp;try with_reducible rfl)
           refine layy ?_;refine' tkY 4 rfl ?h4_191 ?_
           case h4_191=>(intro w q;obtain ⟨c2',g'⟩:=PR14.out w q;go_simp;try with_reducible rfl)
           refine layy ?_;refine' tkY 5 rfl ?h5_192 ?_
           case h5_192=>(intro w q;obtain ⟨c2',g'⟩:=PR14.out w q;go_simp;try with_reducible rfl)
           refine layy ?_;refine' tkY 8 rfl ?h8_193 ?_
           case h8_193=>(intro w q;obtain ⟨c2',g'⟩:=PR14.out w q;go_simp;try with_reducible rfl)
           refine layy ?_;refine' tkY 9 rfl ?h9_194 ?_
           case h9_194=>(intro w q;obtain ⟨c2',g'⟩:=PR14.out w q;go_simp;try with_reducible rfl)
           refine layy ?_;refine' tkY 10 rfl ?h10_195 ?_
           case h10_195=>(intro w q;obtain ⟨c2',g'⟩:=PR14.out w q;go_simp;try with_reducible rfl)
           refine layy ?_;refine' tkY 11 rfl ?h11_196 ?_
           case h11_196=>(intro w q;obtain ⟨c2',g'⟩:=PR14.out w q;go_simp;try with_reducible rfl)
           refine layy ?_;refine wpAnyX_done (by kernel_rfl) ?_;intro wd _ Ewd;simp only [List.drop_succ_cons,List.drop_zero];clear c2 z1 z2 g k1 k2 k3 k4;have RD:=Lib.hid (R9.out.ext Ewd);obtain ⟨y1,hy1⟩:=rd_get (l:=V2) (j:=tt+3) (by rw [L1.out];exact b2);obtain ⟨y2,hy2⟩:=rd_get (l:=W2) (j:=head) (by rw [L2.out];exact b3);have g1:=RD.out.get hy1;have f1:=RD.out.froz (tt+3);have R10:=Lib.hid (RD.out.set HW2.out BY.out.1 BY.out.2);have g2:=R10.out.get hy2;have f2:=R10.out.froz head;have R11:=Lib.hid (R10.out.set HW3.out (by omega) (by omega));clear hy1 hy2 R9 Ewd;go_upto_region 25 with (fail)
           refine Rl.cut R11.out ?_;clear R11 R10 RD g1 g2 f1 f2;intro w12 N12;have R12:=Lib.hid N12;clear N12
           go_wp2_with fail
           go_roundg (T.length-(j+1))
           case measure=>omega
           case rel=>exact ⟨j+1,_,by omega,Nat.le_refl _,by go_num,R12,HR2⟩
      · have:j=T.length:=by omega
        subst this;have hr:=HR.out;rw [List.drop_length] at hr;obtain rfl:Sx=S1:=by simpa [Hp.Hs.rechain] using hr
        have lv:=R.out.len;have hend:=HEND.out;rw [EV.out] at hend;clear hr HR HEND
        rcases hend with ⟨hlt2,V1,V2,hV1,hV2,rfl⟩ | ⟨hge,rfl⟩
        · have HV1:=Lib.hid hV1;have HV2:=Lib.hid hV2;have b1:=(HAt.wr_len hV1).2;have b2:=(HAt.wr_len hV2).2;rw [(HAt.wr_len hV1).1,lv] at b2;rw [lv] at b1;have L2:=Lib.hid ((HAt.wr_len hV2).1.trans ((HAt.wr_len hV1).1.trans lv));obtain ⟨y1,hy1⟩:=rd_get (l:=Sx.words) (j:=16) (by rw [lv];exact b1);obtain ⟨y2,hy2⟩:=rd_get (l:=V1) (j:=next+1) (by rw [(HAt.wr_len hV1).1,lv];exact b2);have HY1:=Lib.hid hy1;have HY2:=Lib.hid hy2;have tk:decide ((0:Int) < (n:Int)-(next:Int))=true:=by simpa using (by omega:(0:Int) < (n:Int)-(next:Int))
          clear hV1 hV2 hy1 hy2;have g1:=R.out.get HY1.out;have f1:=R.out.froz 16;have R1:=Lib.hid (R.out.set HV1.out (by omega) (by omega));have g2:=R1.out.get HY2.out;have f2:=R1.out.froz (next+1);have R2:=Lib.hid (R1.out.set HV2.out (by omega) (by omega));go_upto_region 29 with (fail)
          refine Rl.cut R2.out ?_;clear R1 R2 g1 g2 f1 f2;intro w12 N12;have R12:=Lib.hid N12;clear N12
          go_wp2_with fail
          go_returns;exact R12.out.post (by omega)
        · have tk:decide ((0:Int) < (n:Int)-(next:Int))=false:=decide_eq_false (by omega)
          go_wp2_with fail
          go_returns;exact R.out.post (by omega)
end Go.Proofs.YtdokmmhjmclmnaaGreat
