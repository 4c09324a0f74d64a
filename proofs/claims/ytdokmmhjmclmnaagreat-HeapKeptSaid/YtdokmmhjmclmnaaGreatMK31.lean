/-
  Part 31 of a proof: LD12.
-/
import Derived.Test.YtdokmmhjmclmnaaGreatMK29
import Derived.Test.YtdokmmhjmclmnaaGreatMK30
set_option linter.unusedSimpArgs false
set_option linter.unusedVariables false
set_option linter.unusedSectionVars false
set_option linter.unnecessarySimpa false
namespace Go.Proofs.YtdokmmhjmclmnaaGreat
variable {W' w w' w0:World} {B a b base c ca cap f g i j k k1 k2 m n oc sb sc:Nat} {choice e t x:Int} {W fs l o z:List Int} {A T:List Nat} {op p p1 p2 pa pe pn q sp:Option Addr} {d:Hd} {S S':Hp.Hs} {r:Rd} {L:List Hp.Tl} {M:List (Nat × Int)} {s s':Hp.Sc} {acts:List Hp.Act'}
open Go.RowKit Go.Maps
structure Rd5 (W:World) (b:Nat) (c0 c1 c2 c3 c4:Value):Prop where
 a0:W.cell? ⟨b,0,none⟩=some c0
 a1:W.cell? ⟨b,1,none⟩=some c1
 a2:W.cell? ⟨b,2,none⟩=some c2
 a3:W.cell? ⟨b,3,none⟩=some c3
 a4:W.cell? ⟨b,4,none⟩=some c4
theorem Rd5.but {W:World} {l:List Nat} {c0 c1 c2 c3 c4:Value} (h:Rd5 W b c0 c1 c2 c3 c4) (k:But l W W') (hb:b ∉ l):Rd5 W' b c0 c1 c2 c3 c4:=by
 have z:=cell_lt h.a0
 exact ⟨(k.cell z hb 0).trans h.a0,(k.cell z hb 1).trans h.a1,(k.cell z hb 2).trans h.a2,(k.cell z hb 3).trans h.a3,(k.cell z hb 4).trans h.a4⟩
theorem Rd5.ext {W:World} {c0 c1 c2 c3 c4:Value} (h:Rd5 W b c0 c1 c2 c3 c4) (k:Ext W W'):Rd5 W' b c0 c1 c2 c3 c4:=h.but (l:=[]) (But.ofExt k) (by simp)
theorem Rd5.get {W:World} {c0 c1 c2 c3 c4:Value} (h:Rd5 W b c0 c1 c2 c3 c4):∀ (i:Nat) (v:Value),[c0,c1,c2,c3,c4][i]? = some v->W.cell? ⟨b,i,none⟩=some v
 | 0,v,e=>by simp at e;rw [<- e];exact h.a0
 | 1,v,e=>by simp at e;rw [<- e];exact h.a1
 | 2,v,e=>by simp at e;rw [<- e];exact h.a2
 | 3,v,e=>by simp at e;rw [<- e];exact h.a3
 | 4,v,e=>by simp at e;rw [<- e];exact h.a4
 | i+5,v,e=>by simp at e
theorem Row.of_blk (h:Row w base p c l) (hb:b ∈ blk p):p=some ⟨b,0,none⟩:=by
 rcases h.1.2 with ⟨e,_⟩ | ⟨g,cap,cur,e,_⟩
 . injection e with e1
   rw [e1] at hb;simp [blk] at hb
 injection e with e1
 subst e1
 have:b=g:=by simpa [blk] using hb
 rw [this]
theorem natsI_get (h:A[i]? = some a):Hp.rd (Hp.natsI A) i=some (a:Int):=by simp [Hp.rd,Hp.natsI,h]
theorem natsI_len (A:List Nat):(Hp.natsI A).length=A.length:=by simp [Hp.natsI]
theorem wpOp_append_n {ops:Array Oper} {Q:Exit->Act->World->Prop} {o:Oper} {K:Act->World->Prop} {a:Act} {w:World} (s x:Operand) (hi:ops[i]? = some o)
    (ho:o.op = .call { callee:=.builtin .append,args:=#[s,x],argTypes:=#[22,22] }) (hw:Region.wanted o (yielded ops a.tmps)=true) {c b n:Nat} {p:Option Addr} {l:List Int} {y:Int} (hn:l.length=n) (hs:a.eval s = .slice p n c) (hx:a.eval x = .slice (some ⟨b,0,none⟩) 1 1)
    (hrow:Row w 0 p c l) (hy:w.cell? ⟨b,0,none⟩=some (.int .i64 y)) (hy1 : -9223372036854775808<=y) (hy2:y<=9223372036854775807) (hlen:n < 10000000)
    (h:∀ g cap w' row,Row w' 0 (some ⟨g,0,none⟩) cap (l ++ [y])->w.grownBy w' row->(∀ r,row=some r->p=some ⟨r,0,none⟩)->(p=some ⟨g,0,none⟩ \/ g=w.heap.size)->g < w'.heap.size->K (a.put o.dst (.slice (some ⟨g,0,none⟩) (n+1) cap)) w'):wpOp Tryz.prog ops Q i K a w:=by
  subst hn;exact wpOp_append s x hi ho hw hs hx hrow hy hy1 hy2 hlen h
theorem wpOp_append_N {ops:Array Oper} {Q:Exit->Act->World->Prop} {o:Oper} {K:Act->World->Prop} {a:Act} {w:World} (s x:Operand) (T t:TypeId) (hi:ops[i]? = some o)
    (ho:o.op = .call { callee:=.builtin .append,args:=#[s,x],argTypes:=#[T,T] }) (hw:Region.wanted o (yielded ops a.tmps)=true) {z:Value} {n bytes:Nat} (hT:Tryz.prog.underlying T=some (.slice t)) (hinfo:(Tryz.prog.info? t).map (fun i=>(i.zero,i.size,i.bytes))=some (some z,n,bytes)) (hzn:z.cells.size=n) (hn0:0 < n) (hby:bytes<=1000)
    {c b m:Nat} {p:Option Addr} {X:List (List Value)} {y:List Value} (hm:X.length=m) (hs:a.eval s = .slice p m c) (hx:a.eval x = .slice (some ⟨b,0,none⟩) 1 1)
    (hrow:RowN w n t p c X) (hyl:y.length=n) (hy:∀ i v,y[i]? = some v->w.cell? ⟨b,i,none⟩=some v) (hone:∀ v ∈ y,v.oneCell'=true) (hlen:m < 10000000)
    (h:∀ g cap w' row,RowN w' n t (some ⟨g,0,none⟩) cap (X ++ [y])->w.grownBy w' row->(∀ r,row=some r->p=some ⟨r,0,none⟩)->(p=some ⟨g,0,none⟩ \/ g=w.heap.size)->g < w'.heap.size->K (a.put o.dst (.slice (some ⟨g,0,none⟩) (m+1) cap)) w'):wpOp Tryz.prog ops Q i K a w:=by
  subst hm;unfold wpOp;simp only [hi];rw [if_pos hw];refine .inl ?_;obtain ⟨i0,hi0,hz0,hz1,hz2⟩:=info_parts hinfo;refine wp_append_lies w s x T ho 0 t i0 z n bytes hT hi0 hz0 hz1 hz2 hzn hn0 _ _ _ hs hrow.own ⟨b,0,none⟩ 1 1 y hx (by rw [hyl,Nat.one_mul]) (fun j u hj=>?_) hone (by omega) (by unfold maxLen;omega) (Nat.le_trans (Nat.mul_le_mul (show X.length+1<=10000000 by omega) hby) (by decide)) (Nat.zero_le _) _ rfl ?_
  . rw [Addr.add_lit]
    simpa using hy j u hj
  intro g cap w' hown hgrow hor hlt;have own:=hrow.own_blk;refine h g cap w' _ ⟨by simpa using hown,fun u hu=>?_⟩ hgrow own (hor.imp (own g) id) hlt
  rcases List.mem_append.1 hu with hu | hu
  . exact hrow.len u hu
  rw [List.mem_singleton.1 hu];exact hyl
section
variable {P:Program} {ops:Array Oper} {Q:Exit->Act->World->Prop} {md:Region.Mode} {S:World->Prop}
theorem wpAnyE_fork {fuel:Nat} {listed:Array Bool} {a:Act} (is:List Nat) (hr:Region.ready md ops listed=is) (h0:is ≠ [])
    (h:∀ i ∈ is,wpOp P ops Q i (fun a' w''=>S w''/\wpAnyR P md ops Q S Eq fuel (listed.setIfInBounds i true) a' w'') a w):wpAnyR P md ops Q S Eq (fuel+1) listed a w:=by
  intro w' e _;subst e;subst hr;exact ⟨fun e=>absurd e h0,fun i hi=>h i hi⟩
theorem wpAnyE_one {fuel:Nat} {listed:Array Bool} {a:Act} (i:Nat) (hr:Region.ready md ops listed=[i])
    (h:wpOp P ops Q i (fun a' w''=>S w''/\wpAnyR P md ops Q S Eq fuel (listed.setIfInBounds i true) a' w'') a w):wpAnyR P md ops Q S Eq (fuel+1) listed a w:=
  wpAnyE_fork [i] hr (by simp) fun j hj=>by rw [List.mem_singleton.1 hj];exact h
theorem wpAnyE_two {fuel:Nat} {listed:Array Bool} {a:Act} (i j:Nat) (hr:Region.ready md ops listed=[i,j])
    (h1:wpOp P ops Q i (fun a' w''=>S w''/\wpAnyR P md ops Q S Eq fuel (listed.setIfInBounds i true) a' w'') a w) (h2:wpOp P ops Q j (fun a' w''=>S w''/\wpAnyR P md ops Q S Eq fuel (listed.setIfInBounds j true) a' w'') a w):wpAnyR P md ops Q S Eq (fuel+1) listed a w:=
  wpAnyE_fork [i,j] hr (by simp) fun k hk=>by
   simp only [List.mem_cons,List.not_mem_nil,or_false] at hk
   rcases hk with rfl | rfl
   . exact h1
   exact h2
end
theorem cell_blk {W:World} {o:Nat} (h:W.heap[b]? = w.heap[b]?):W.cell? ⟨b,o,none⟩=w.cell? ⟨b,o,none⟩:=by simp only [World.cell?,h]
theorem Rd5.blk {W:World} {c0 c1 c2 c3 c4:Value} (h:Rd5 w b c0 c1 c2 c3 c4) (e:W.heap[b]? = w.heap[b]?):Rd5 W b c0 c1 c2 c3 c4:=
 ⟨(cell_blk e).trans h.a0,(cell_blk e).trans h.a1,(cell_blk e).trans h.a2,(cell_blk e).trans h.a3,(cell_blk e).trans h.a4⟩
theorem rd5_made (w:World) (t:TypeId) (c0 c1 c2 c3 c4:Value):Rd5 (w.alloc (.cells #[c0,c1,c2,c3,c4] t)) w.heap.size c0 c1 c2 c3 c4:=
 ⟨by simp [go_sem],by simp [go_sem],by simp [go_sem],by simp [go_sem],by simp [go_sem]⟩
theorem natsI_snoc (A:List Nat) (a:Nat):Hp.natsI (A ++ [a])=Hp.natsI A ++ [(a:Int)]:=by simp [Hp.natsI]
structure KpSt (wb w6 W:World) (d:Hd) (S:Hp.Hs) (bb bt:Nat) (z o A:List Int) (G:List Hp.Dgm) (qa:Option Addr) (ka:Nat) (qd:Option Addr) (kd:Nat) (Ls:List DgL) (Ld:DgL) (x:Hp.Dgm):Prop where
 now:Now wb W d S
 bk0:W.heap[bb]? = w6.heap[bb]? /\ W.heap[bt]? = w6.heap[bt]?
 rows:KpRows wb W d.own z o A G qa ka qd kd Ls
 dg:DgRd W Ld z o x.2.1 x.2.2
 db:∀ b ∈ Ld.blocks,wb.heap.size<=b/\b < W.heap.size/\b ∉ d.own/\b ∉ blk qa/\b ∉ blk qd
 fb:∀ b,b=bb \/ b=bt->b < W.heap.size/\b ∉ blk qa/\b ∉ blk qd
namespace KpSt
variable {wb w6 W W':World} {d:Hd} {S:Hp.Hs} {bb bt:Nat} {z o:List Int} {A:List Nat} {G:List Hp.Dgm} {qa qd:Option Addr} {ka kd:Nat} {Ls:List DgL} {Ld:DgL} {x:Hp.Dgm}
theorem ext (h:KpSt wb w6 W d S bb bt z o (Hp.natsI A) G qa ka qd kd Ls Ld x) (k:Ext W W'):KpSt wb w6 W' d S bb bt z o (Hp.natsI A) G qa ka qd kd Ls Ld x:=
 { now:=h.now.ext k
   bk0:=⟨(k.block bb (h.fb bb (.inl rfl)).1).trans h.bk0.1,(k.block bt (h.fb bt (.inr rfl)).1).trans h.bk0.2⟩
   rows:=h.rows.ext k
   dg:=h.dg.ext k
   db:=fun b hb=>⟨(h.db b hb).1,Nat.lt_of_lt_of_le (h.db b hb).2.1 k.le,(h.db b hb).2.2⟩
   fb:=fun b hb=>⟨Nat.lt_of_lt_of_le (h.fb b hb).1 k.le,(h.fb b hb).2⟩ }
theorem grow_now (h:KpSt wb w6 W d S bb bt z o (Hp.natsI A) G qa ka qd kd Ls Ld x) {row:Option Nat} (hG:W.grownBy W' row) (hrow:∀ r,row=some r->p=some ⟨r,0,none⟩) (hp:∀ b ∈ blk p,wb.heap.size<=b/\b ∉ d.own) (h1:∀ b ∈ blk p,(∀ o,d.sp ≠ some ⟨b,o,none⟩) /\ ∀ o,d.op ≠ some ⟨b,o,none⟩):Now wb W' d S:=by
 have k:=KpRows.grown_but hG hrow
 refine ⟨h.now.toHAt.but k (fun hm=>(hp _ hm).2 d.hb_own) (fun hm=>(hp _ hm).2 d.gw_own) (fun hm=>(hp _ hm).2 d.gm_own) (fun b o e hm=>(h1 b hm).1 o e) (fun b o e hm=>(h1 b hm).2 o e), ?_⟩
 exact h.now.but.over k fun b hb=>.inr (hp b hb).1
theorem growA (h:KpSt wb w6 W d S bb bt z o (Hp.natsI A) G qa ka qd kd Ls Ld x) (hf:∀ b,wb.heap.size<=b->(∀ o,d.sp ≠ some ⟨b,o,none⟩) /\ ∀ o,d.op ≠ some ⟨b,o,none⟩) {row:Option Nat} (hR:Row W' 0 (some ⟨g,0,none⟩) cap (Hp.natsI A ++ [(a:Int)])) (hG:W.grownBy W' row) (hrow:∀ r,row=some r->qa=some ⟨r,0,none⟩) (hg:qa=some ⟨g,0,none⟩ \/ g=W.heap.size) (hlt:g < W'.heap.size) :
    KpSt wb w6 W' d S bb bt z o (Hp.natsI (A ++ [a])) G (some ⟨g,0,none⟩) cap qd kd Ls Ld x:=by
  have k:=KpRows.grown_but hG hrow;have one:∀ b ∈ blk (some (⟨g,0,none⟩:Addr)),b=g:=fun b hb=>by simpa [blk] using hb
  have ne:∀ b,b < W.heap.size->b ∉ blk qa->b ∉ blk (some (⟨g,0,none⟩:Addr)):=fun b hb hn hm=>by
   have:=one b hm;subst this
   rcases hg with e | e
   . exact hn (mem_blk e)
   omega
  have bk:∀ b,b=bb \/ b=bt->W'.heap[b]? = W.heap[b]? := fun b hb=>k.block b (h.fb b hb).1 (h.fb b hb).2.1
  have hs:=hG.size
  exact
   { now:=h.grow_now hG hrow (fun b hb=>⟨(h.rows.la hb).1,(h.rows.la hb).2.2⟩) fun b hb=>hf b (h.rows.la hb).1
     bk0:=⟨(bk bb (.inl rfl)).trans h.bk0.1,(bk bt (.inr rfl)).trans h.bk0.2⟩
     rows:=by rw [natsI_snoc];exact h.rows.growA h.now.but.size (fun b hb=>h.now.toHAt.own_lt b hb) hR hG hrow hg hlt
     dg:=h.dg.but k fun b hb hm=>(h.db b hm).2.2.2.1 hb
     db:=fun b hb=>by
      obtain ⟨h1,h2,h3,h4,h5⟩:=h.db b hb;exact ⟨h1,by omega,h3,ne b h2 h4,h5⟩
     fb:=fun b hb=>by
      obtain ⟨h1,h2,h3⟩:=h.fb b hb;exact ⟨by omega,ne b h1 h2,h3⟩ }
theorem keepA (_:KpSt wb w6 W d S bb bt z o (Hp.natsI A) G qa ka qd kd Ls Ld x) {row:Option Nat} (hG:W.grownBy W' row) (hrow:∀ r,row=some r->qa=some ⟨r,0,none⟩) {b9:Nat} (z9:b9 < W.heap.size) (n9:b9 ∉ blk qa):W'.heap[b9]? = W.heap[b9]? :=
 (KpRows.grown_but hG hrow).block b9 z9 n9
theorem growD (h:KpSt wb w6 W d S bb bt z o (Hp.natsI A) G qa ka qd kd Ls Ld x) (hf:∀ b,wb.heap.size<=b->(∀ o,d.sp ≠ some ⟨b,o,none⟩) /\ ∀ o,d.op ≠ some ⟨b,o,none⟩) {row:Option Nat} (hR:RowN W' 5 49 (some ⟨g,0,none⟩) cap (List.zipWith (fun L g=>dgC L g z.length o.length) Ls G ++ [dgC Ld x z.length o.length])) (hG:W.grownBy W' row) (hrow:∀ r,row=some r->qd=some ⟨r,0,none⟩) (hg:qd=some ⟨g,0,none⟩ \/ g=W.heap.size) (hlt:g < W'.heap.size) :
    Now wb W' d S/\KpRows wb W' d.own z o (Hp.natsI A) (G ++ [x]) qa ka (some ⟨g,0,none⟩) cap (Ls ++ [Ld])/\W'.heap[bb]? = w6.heap[bb]? /\ W'.heap[bt]? = w6.heap[bt]? := by
  have k:=KpRows.grown_but hG hrow;have bk:∀ b,b=bb \/ b=bt->W'.heap[b]? = W.heap[b]? := fun b hb=>k.block b (h.fb b hb).1 (h.fb b hb).2.2
  exact ⟨h.grow_now hG hrow (fun b hb=>⟨(h.rows.ld hb).1,(h.rows.ld hb).2.2⟩) fun b hb=>hf b (h.rows.ld hb).1,
   h.rows.growD h.now.but.size (fun b hb=>h.now.toHAt.own_lt b hb) hR hG hrow hg hlt h.dg h.db,(bk bb (.inl rfl)).trans h.bk0.1,(bk bt (.inr rfl)).trans h.bk0.2⟩
end KpSt
set_option maxRecDepth 100000 in
set_option maxHeartbeats 16000000 in
theorem heapKept {n vn:Int} {bits:Int} (hbt1:0<=bits) (hbt2:bits<=4294967295) (hf:f < 256) (hv1 : -9223372036854775808<=vn) (hv2:vn<=9223372036854775807) (h:SAt w sp sc op oc pa ca z o acts) :
    Calls Tryz.prog 12 #[.agg #[.slice sp z.length sc,.slice op o.length oc,.int .i64 n,.slice pa acts.length ca],.int .u32 bits,.agg #[.int .u8 f,.int .i64 vn]] w fun e w'=>e = .returned (.bool true)/\Ext w w':=by
  have E0:Ext w ((w.alloc (.cells #[.slice sp z.length sc,.slice op o.length oc,.int .i64 n,.slice pa acts.length ca] 25)).alloc (.cells #[.int .u8 f,.int .i64 vn] 43)):=exx;have H:=hZ (h.ext E0);have RD:=hZ (lReady (n:=n) (h.ext E0))
  cases hr:Hp.readyB z o n acts with
  | false=>
   rw [hr] at RD;clear h hr H;go_enter Tryz.func12,Tryz.ntmps12
   go_wp2_with (first
    | (go_at_call 40;refine (RD.out).mono ?_;rintro e w1 ⟨rfl,hb1⟩;obtain ⟨hc1,hf1,hs1⟩:=hb1.cells)
    | (go_at_call 15;refine (awake_any _).mono ?_;rintro e w2 ⟨rfl,hb2⟩))
   go_returns;exact ⟨rfl,(E0.trans hb1).trans hb2⟩
  | true=>
   rw [hr] at RD;obtain ⟨k,rfl,hrd⟩:=Hp.ready_ok hr;have HR:=hZ hrd;have HE0:=hZ E0;have HC:=hZ (show ((w.alloc (.cells #[.slice sp z.length sc,.slice op o.length oc,.int .i64 k,.slice pa acts.length ca] 25)).alloc (.cells #[.int .u8 f,.int .i64 vn] 43)).cell? ⟨w.heap.size,0,none⟩=some (.slice sp z.length sc)/\((w.alloc (.cells #[.slice sp z.length sc,.slice op o.length oc,.int .i64 k,.slice pa acts.length ca] 25)).alloc (.cells #[.int .u8 f,.int .i64 vn] 43)).cell? ⟨w.heap.size,1,none⟩=some (.slice op o.length oc)/\((w.alloc (.cells #[.slice sp z.length sc,.slice op o.length oc,.int .i64 k,.slice pa acts.length ca] 25)).alloc (.cells #[.int .u8 f,.int .i64 vn] 43)).cell? ⟨w.heap.size,2,none⟩=some (.int .i64 k)/\((w.alloc (.cells #[.slice sp z.length sc,.slice op o.length oc,.int .i64 k,.slice pa acts.length ca] 25)).alloc (.cells #[.int .u8 f,.int .i64 vn] 43)).cell? ⟨w.heap.size,3,none⟩=some (.slice pa acts.length ca)/\((w.alloc (.cells #[.slice sp z.length sc,.slice op o.length oc,.int .i64 k,.slice pa acts.length ca] 25)).alloc (.cells #[.int .u8 f,.int .i64 vn] 43)).cell? ⟨w.heap.size+1,0,none⟩=some (.int .u8 f)/\((w.alloc (.cells #[.slice sp z.length sc,.slice op o.length oc,.int .i64 k,.slice pa acts.length ca] 25)).alloc (.cells #[.int .u8 f,.int .i64 vn] 43)).cell? ⟨w.heap.size+1,1,none⟩=some (.int .i64 vn) by refine ⟨?_, ?_, ?_, ?_, ?_, ?_⟩ <;> go_simp);clear h hr hrd E0;go_enter Tryz.func12,Tryz.ntmps12
   go_wp2_with fail
   generalize ((w.alloc (.cells #[.slice sp z.length sc,.slice op o.length oc,.int .i64 k,.slice pa acts.length ca] 25)).alloc (.cells #[.int .u8 f,.int .i64 vn] 43))=w0 at H HE0 HC RD ⊢;generalize w.heap.size+1=gv at HC ⊢;generalize w.heap.size=gb at HC ⊢;obtain ⟨c0,c1,c2,c3,v0,v1⟩:=HC.out;have z0:=cell_lt c0;have zv:=cell_lt v0;clear HC;go_upto_region 3 with (go_at_call 40;refine (RD.out).mono ?_;rintro e w1 ⟨rfl,hb1⟩;obtain ⟨hc1,hf1,hs1⟩:=hb1.cells)
   have b0:=(hb1.cell z0 0).trans c0;have b1:=(hb1.cell z0 1).trans c1;have b2:=(hb1.cell z0 2).trans c2;have b3:=(hb1.cell z0 3).trans c3;have PL:=hZ (lPlayed (H.out.ext hb1) HR.out);go_upto_region 6 with (go_at_call 41;refine PL.out.mono ?_;rintro e w2 ⟨d,S,g,c,L,ch,rfl,P,hw,rfl,rfl,rfl⟩)
   have E2:=hb1.trans P.ext;have HP:=hZ P;have HW:=hZ hw;have d0:=(P.ext.cell (Nat.lt_of_lt_of_le z0 hb1.le) 0).trans b0;have d1:=(P.ext.cell (Nat.lt_of_lt_of_le z0 hb1.le) 1).trans b1;have d2:=(P.ext.cell (Nat.lt_of_lt_of_le z0 hb1.le) 2).trans b2;have d3:=(P.ext.cell (Nat.lt_of_lt_of_le z0 hb1.le) 3).trans b3;have CL:=hZ (lCells (pa:=pa) (ca:=ca) (na:=acts.length) (n:=(S.words.length:Int)) (H.out.ext E2).sizes (H.out.ext E2).order P.ws hw);have hcl:(cellsI S).length=S.taken.length:=by simp [cellsI]
   clear P hw PL b0 b1 b2 b3;go_upto_region 7 with (go_at_call 42;refine CL.out.mono ?_;rintro e w3 ⟨p1,cp,rfl,hR,hb3⟩)
   have LB:Hid (Lb w0 w3 d g c S.words p1 cp (cellsI S)):=hZ ⟨E2.trans hb3,fun b hb=>Nat.le_trans hb1.le (HP.out.own b hb),HP.out.ws.ext hb3,HP.out.gown,hR.at_,fun b o e hm=>by have:=hR.far e;have:=HP.out.at_.own_lt b hm;omega⟩;have HH:=hZ (HP.out.at_.ext hb3);have O1:=hZ HP.out.o1;have O2:=hZ HP.out.o2;clear hR CL d0 d1 d2 d3 HP RD;obtain ⟨m,hm⟩:∃ m,S.taken.length=m:=⟨_,rfl⟩
   have few:=HW.out.few;have hi:=HW.out.hi;have lo:=HW.out.lo;have HM:=hZ hm;rw [hm] at few hcl;rw [hm];have HCL:=hZ hcl;clear hm hcl;obtain ⟨nw,hnw⟩:∃ nw,S.words.length=nw:=⟨_,rfl⟩
   have HNW:=hZ hnw;rw [hnw] at few hi lo c2;simp only [hnw];clear hnw
   go_wp2_with fail
   go_loopg [11,12,13] m (fun g' va vd i wr=>∃ (j:Nat) (S':Hp.Hs) (A:List Nat) (G:List Hp.Dgm) (Ls:List DgL) (qa qd:Option Addr) (ka kd na nd:Nat),j<=m/\m-j<=g'/\i = .int .i64 j/\va = .slice qa na ka/\vd = .slice qd nd kd/\na<=j/\nd<=j/\Hid (A.length=na/\G.length=nd)/\Hid (Now w3 wr d S')/\Hid (Hp.HoldOk S S' L ch j)/\Hid (Hp.Kept S' A G)/\Hid (Hp.HeldAll S' A)/\Hid (KpRows w3 wr d.own S.sizes S.order (Hp.natsI A) G qa ka qd kd Ls))
   case atStart=>exact ⟨0,S,[],[],[],none,none,0,0,0,0,Nat.zero_le _,by omega,rfl,rfl,rfl,by omega,by omega,hZ ⟨rfl,rfl⟩,hZ (Now.refl HH.out),hZ ⟨HW.out,rfl,rfl,rfl,rfl⟩,hZ (Hp.Kept.nil S),hZ (fun a ha=>by cases ha),hZ (KpRows.nil _ _ _ _ _)⟩
   case round=>
    obtain ⟨j,S',A,G,Ls,qa,qd,ka,kd,na,nd,hj,hg,rfl,rfl,rfl,hna,hnd,AL,N,K,KP,HL,R⟩:=hrel
    by_cases hlt:j < m
    . have tk:decide ((j:Int) < (m:Int))=true:=dT;obtain ⟨a,ha⟩:∃ a,S.taken[j]? = some a:=⟨_,List.getElem?_eq_getElem (by rw [HM.out];exact hlt)⟩
      have LB1:=hZ (LB.out.but N.out.but);obtain ⟨bb,oo,rfl,hbb,-⟩:=LB1.out.ls.cells (by rw [HCL.out];omega);have HA:=hZ (cells_at ha);have lj:=LB1.out.ls.cell_ HA.out;have lle:=LB1.out.ls.le;have lcap:=LB1.out.ls.cap;have pa':=HW.out.part (List.mem_of_getElem? ha);have pa3:a<=100000:=by have:=HNW.out;omega
      have nl:nw<=400:=by have:=HR.out.n2;have:=HNW.out;omega
      rw [HCL.out] at lle;obtain ⟨xd,D,S3,ed,hft,e3,K3',KP3',HL3'⟩:=Hp.kept_hold K.out (by omega) ha KP.out HL.out;have K3:=hZ K3';have KP3:=hZ KP3';have HL3:=hZ HL3';have ED:=hZ (Diagram_any N.out.toHAt K.out.wf (by rw [K.out.taken];exact List.mem_of_getElem? ha) ed);have e3h:=hZ e3;have SK:=hZ (K.out.skip (by omega));clear e3 K3' KP3' HL3' pa' ha ed hft;unfold DiagPost at ED;rw [K.out.sizes,K.out.order] at ED;go_upto_region 13 with fail
      . go_roundg (m-(j+1))
        case measure=>omega
        case rel=>exact ⟨j+1,S',A,G,Ls,qa,qd,ka,kd,na,nd,by omega,Nat.le_refl _,by go_num,rfl,rfl,by omega,by omega,AL,N,SK,KP,HL,R⟩
      go_upto_region 14 with (go_at_call 23;refine ED.out.mono ?_;rintro e w4 ⟨Ld,rfl,hD4,hE4,hB4⟩)
      refine cut_world (F:=fun W=>Hid (Ext w4 W)/\Hid (Rd5 W w4.heap.size (.slice Ld.ps S.sizes.length Ld.cs) (.slice Ld.po S.order.length Ld.co) (.slice Ld.pe D.ends.length Ld.ce) (.slice Ld.pn D.nodes.length Ld.cn) (.int .i64 xd))) ⟨hZ (exx),hZ ⟨by go_simp,by go_simp,by go_simp,by go_simp,by go_simp⟩⟩ ?_;rintro w5 ⟨E5,B5⟩;have LE4:=hE4.le;have N5:=hZ (N.out.ext (hE4.trans E5.out));have R5:=hZ (R.out.ext (hE4.trans E5.out));have D5:=hZ (hD4.ext E5.out);have BL5:=hZ (show ∀ b ∈ Ld.blocks,wr.heap.size<=b/\b < w5.heap.size/\b ≠ w4.heap.size from fun b hb=>by
       have h1:=hB4 b hb;have h2:=E5.out.le;exact ⟨h1.1,by omega,by omega⟩)
      have l5:=((hE4.trans E5.out).cell hbb (oo+j)).trans lj;have OWL:=hZ N.out.toHAt.own_lt;have RLT2:=hZ (show ∀ c,c ∈ blk qa \/ c ∈ blk qd->w3.heap.size<=c/\c < wr.heap.size from fun c hc=>by
       rcases hc with hc | hc
       . have:=R.out.la hc;exact ⟨this.1,this.2.1⟩
       . have:=R.out.ld hc;exact ⟨this.1,this.2.1⟩)
      have BT:=hZ (show wr.heap.size<=w4.heap.size/\w4.heap.size < w5.heap.size from ⟨LE4,cell_lt B5.out.a0⟩);have DR:=hZ (Hold_any N5.out.toHAt e3h.out (by omega) (by omega));have zbb5:bb < w5.heap.size:=cell_lt l5;clear hD4 hE4 hB4 ED lj R E5 LE4;generalize w4.heap.size=bt at B5 BL5 BT ⊢;go_upto_region 16 with (go_at_call 53;refine DR.out.mono ?_;rintro e w6 ⟨rfl,hA6,hB6⟩)
      have N6:=hZ (⟨hA6,N5.out.but.trans hB6⟩:Now w3 w6 d S3);have NOW:=hZ (show ∀ b,wr.heap.size<=b->b ∉ d.own from fun b hb hm=>by have:=OWL.out b hm;omega);have R6:=hZ (R5.out.heap (own':=d.own) hB6 fun b hb=>.inl hb);have D6:=hZ (D5.out.but hB6 fun b hb hm=>NOW.out b (BL5.out b hm).1 hb);have B6:=hZ (B5.out.but hB6 (NOW.out bt BT.out.1));have lown:bb ∉ d.own:=LB.out.lown bb oo rfl;have l6:=(hB6.cell zbb5 lown (oo+j)).trans l5;have SZ6:=hB6.size;have WLE:=hZ N.out.but.size;have RLT:=hZ (show ∀ b,b ∈ blk qa \/ b ∈ blk qd->b < wr.heap.size from fun b hb=>(RLT2.out b hb).2);have BB3:=hZ (show bb < w3.heap.size from by obtain ⟨b',o',e',hb',-⟩:=LB.out.ls.cells (by rw [HCL.out];omega);cases e';exact hb');refine wp_region_seq (S:=fun W=>W.heap[bb]? = w6.heap[bb]? /\ W.heap[bt]? = w6.heap[bt]?) (R:=Eq) (by kernel_rfl) (fun _=>rfl) ⟨rfl,rfl⟩ ?_;refine' wpAnyR_take (i:=0) (v:=?v0_1) (fun _=>rfl) (fun _ _ _ h k=>h.trans k) rfl (by kernel_rfl) (by kernel_rfl) (by kernel_rfl) (fun _ _ _ h=>h) (Or.inl (Or.inl ⟨by rfl, ?hy0_1⟩)) ?rest0_1
      case hy0_1=>(intro w hSw;(have q1:=(cell_blk hSw.1 (o:=oo+j)).trans l6;obtain ⟨q2,q3,q4,q5,q6⟩:=B6.out.blk hSw.2);go_simp;try with_reducible rfl)
      refine layy ?_;refine' wpAnyR_take (i:=1) (v:=?v1_2) (fun _=>rfl) (fun _ _ _ h k=>h.trans k) rfl (by kernel_rfl) (by kernel_rfl) (by kernel_rfl) (fun _ _ _ h=>h) (Or.inl (Or.inl ⟨by rfl, ?hy1_2⟩)) ?rest1_2
      case hy1_2=>(intro w hSw;(have q1:=(cell_blk hSw.1 (o:=oo+j)).trans l6;obtain ⟨q2,q3,q4,q5,q6⟩:=B6.out.blk hSw.2);go_simp;try with_reducible rfl)
      refine layy ?_;refine' wpAnyR_take (i:=2) (v:=?v2_3) (fun _=>rfl) (fun _ _ _ h k=>h.trans k) rfl (by kernel_rfl) (by kernel_rfl) (by kernel_rfl) (fun _ _ _ h=>h) (Or.inl (Or.inl ⟨by rfl, ?hy2_3⟩)) ?rest2_3
      case hy2_3=>(intro w hSw;(have q1:=(cell_blk hSw.1 (o:=oo+j)).trans l6;obtain ⟨q2,q3,q4,q5,q6⟩:=B6.out.blk hSw.2);go_simp;try with_reducible rfl)
      refine layy ?_;refine' wpAnyR_take (i:=3) (v:=?v3_4) (fun _=>rfl) (fun _ _ _ h k=>h.trans k) rfl (by kernel_rfl) (by kernel_rfl) (by kernel_rfl) (fun _ _ _ h=>h) (Or.inl (Or.inl ⟨by rfl, ?hy3_4⟩)) ?rest3_4
      case hy3_4=>(intro w hSw;(have q1:=(cell_blk hSw.1 (o:=oo+j)).trans l6;obtain ⟨q2,q3,q4,q5,q6⟩:=B6.out.blk hSw.2);go_simp;try with_reducible rfl)
      refine layy ?_;refine' wpAnyR_take (i:=4) (v:=?v4_5) (fun _=>rfl) (fun _ _ _ h k=>h.trans k) rfl (by kernel_rfl) (by kernel_rfl) (by kernel_rfl) (fun _ _ _ h=>h) (Or.inl (Or.inl ⟨by rfl, ?hy4_5⟩)) ?rest4_5
      case hy4_5=>(intro w hSw;(have q1:=(cell_blk hSw.1 (o:=oo+j)).trans l6;obtain ⟨q2,q3,q4,q5,q6⟩:=B6.out.blk hSw.2);go_simp;try with_reducible rfl)
      refine layy ?_;refine' wpAnyR_take (i:=7) (v:=?v7_6) (fun _=>rfl) (fun _ _ _ h k=>h.trans k) rfl (by kernel_rfl) (by kernel_rfl) (by kernel_rfl) (fun _ _ _ h=>h) (Or.inl (Or.inl ⟨by rfl, ?hy7_6⟩)) ?rest7_6
      case hy7_6=>(intro w hSw;(have q1:=(cell_blk hSw.1 (o:=oo+j)).trans l6;obtain ⟨q2,q3,q4,q5,q6⟩:=B6.out.blk hSw.2);go_simp;try with_reducible rfl)
      refine layy ?_;refine' wpAnyR_take (i:=8) (v:=?v8_7) (fun _=>rfl) (fun _ _ _ h k=>h.trans k) rfl (by kernel_rfl) (by kernel_rfl) (by kernel_rfl) (fun _ _ _ h=>h) (Or.inl (Or.inl ⟨by rfl, ?hy8_7⟩)) ?rest8_7
      case hy8_7=>(intro w hSw;(have q1:=(cell_blk hSw.1 (o:=oo+j)).trans l6;obtain ⟨q2,q3,q4,q5,q6⟩:=B6.out.blk hSw.2);go_simp;try with_reducible rfl)
      refine layy ?_
      have w6_st:Hid (KpSt w3 w6 w6.drew d S3 bb bt S.sizes S.order (Hp.natsI A) G qa ka qd kd Ls Ld (xd,D.ends,D.nodes)):=hZ
       { now:=N6.out.ext (Ext.drew (Ext.refl w6))
         bk0:=⟨rfl,rfl⟩
         rows:=R6.out.ext (Ext.drew (Ext.refl w6))
         dg:=D6.out.ext (Ext.drew (Ext.refl w6))
         db:=fun b hb=>⟨Nat.le_trans WLE.out (BL5.out b hb).1,Nat.lt_of_lt_of_le (BL5.out b hb).2.1 SZ6,NOW.out b (BL5.out b hb).1,fun hm=>by have h1:=(RLT.out b (.inl hm));have h2:=(BL5.out b hb).1;omega,fun hm=>by have h1:=(RLT.out b (.inr hm));have h2:=(BL5.out b hb).1;omega⟩
         fb:=fun b hb=>by
          have hx:∀ c,c ∈ blk qa \/ c ∈ blk qd->w3.heap.size<=c/\c < wr.heap.size:=RLT2.out
          rcases hb with rfl | rfl
          . refine ⟨Nat.lt_of_lt_of_le zbb5 SZ6,fun hm=>?_,fun hm=>?_⟩
            . have:=(hx _ (.inl hm)).1;have:=BB3.out;omega
            have:=(hx _ (.inr hm)).1;have:=BB3.out;omega
          . refine ⟨Nat.lt_of_lt_of_le BT.out.2 SZ6,fun hm=>?_,fun hm=>?_⟩
            . have:=(hx _ (.inl hm)).2;have:=BT.out.1;omega
            . have:=(hx _ (.inr hm)).2;have:=BT.out.1;omega }
      have SF:=hZ (show ∀ b,w3.heap.size<=b->(∀ o',d.sp ≠ some ⟨b,o',none⟩) /\ ∀ o',d.op ≠ some ⟨b,o',none⟩ from fun b hb=>⟨fun o' e=>by have:=HH.out.old1 b o' e;omega,fun o' e=>by have:=HH.out.old2 b o' e;omega⟩);clear N6 R6 D6 B6 l6 NOW N5 R5 D5 B5 l5 DR hA6 hB6 N K KP HL SK LB1 hbb;change wpAnyR _ _ _ _ _ _ _ _ _ (World.drew w6);have e0:∀ b:Nat,w6.drew.heap[b]? = w6.heap[b]? := fun _=>rfl
      generalize hw7:World.drew w6=w7 at w6_st ⊢;have w7_st:=w6_st;clear hw7 e0 w6_st;refine wpAnyE_two 5 9 (by kernel_rfl) ?_ ?_
      . skip
        have X5:=Ext.alloc (Ext.refl w7) (.cells #[.int .i64 a] 3);have ST:=w7_st.out.ext X5;have e5:(w7.alloc (.cells #[.int .i64 a] 3)).cell? ⟨w7.heap.size,0,none⟩=some (.int .i64 a):=by simp [go_sem]
        refine wpOp_value (i:=5) (v:=.slice (some ⟨w7.heap.size,0,none⟩) 1 1) (w'':=w7.alloc (.cells #[.int .i64 a] 3)) rfl (by rfl) (by go_simp) ⟨ST.bk0, ?_⟩;refine layy ?_;have w7_5_st:=hZ ST;have z5:w7.heap.size < (w7.alloc (.cells #[.int .i64 a] 3)).heap.size:=by simp
        have w7_5_le:w7.heap.size<=(w7.alloc (.cells #[.int .i64 a] 3)).heap.size:=by simp
        clear ST X5;generalize w7.alloc (.cells #[.int .i64 a] 3)=w7_5 at *;generalize w7.heap.size=b5 at *;refine wpAnyE_two 6 9 (by kernel_rfl) ?_ ?_
        . skip
          refine wpOp_append_n (.tmp 70) (.tmp 75) rfl rfl (by rfl) (n:=na) (by rw [natsI_len,AL.out.1]) rfl rfl w7_5_st.out.rows.ra e5 (by omega) (by omega) (by omega) ?_;intro ga ca6 w7_5_6 rowa hRa hGa hrowa hga hlta;have ST:=w7_5_st.out.growA SF.out (a:=a) hRa hGa hrowa hga hlta;refine ⟨ST.bk0, ?_⟩;refine layy ?_;have w7_5_6_st:=hZ ST;clear ST hRa hGa hrowa hga hlta;refine wpAnyE_one 9 (by kernel_rfl) ?_;have X9:=Ext.alloc (Ext.refl w7_5_6) (.cells #[.slice Ld.ps S.sizes.length Ld.cs,.slice Ld.po S.order.length Ld.co,.slice Ld.pe D.ends.length Ld.ce,.slice Ld.pn D.nodes.length Ld.cn,.int .i64 xd] 49);have ST:=w7_5_6_st.out.ext X9;have e9:=rd5_made w7_5_6 49 (.slice Ld.ps S.sizes.length Ld.cs) (.slice Ld.po S.order.length Ld.co) (.slice Ld.pe D.ends.length Ld.ce) (.slice Ld.pn D.nodes.length Ld.cn) (.int .i64 xd);refine wpOp_value (i:=9) (v:=.slice (some ⟨w7_5_6.heap.size,0,none⟩) 1 1) (w'':=w7_5_6.alloc (.cells #[.slice Ld.ps S.sizes.length Ld.cs,.slice Ld.po S.order.length Ld.co,.slice Ld.pe D.ends.length Ld.ce,.slice Ld.pn D.nodes.length Ld.cn,.int .i64 xd] 49)) rfl (by rfl) (by go_simp) ⟨ST.bk0, ?_⟩;refine layy ?_;have w7_5_6_9_st:=hZ ST;have z9:w7_5_6.heap.size < (w7_5_6.alloc (.cells #[.slice Ld.ps S.sizes.length Ld.cs,.slice Ld.po S.order.length Ld.co,.slice Ld.pe D.ends.length Ld.ce,.slice Ld.pn D.nodes.length Ld.cn,.int .i64 xd] 49)).heap.size:=by simp
          have w7_5_6_9_le:w7_5_6.heap.size<=(w7_5_6.alloc (.cells #[.slice Ld.ps S.sizes.length Ld.cs,.slice Ld.po S.order.length Ld.co,.slice Ld.pe D.ends.length Ld.ce,.slice Ld.pn D.nodes.length Ld.cn,.int .i64 xd] 49)).heap.size:=by simp
          clear ST X9;generalize w7_5_6.alloc (.cells #[.slice Ld.ps S.sizes.length Ld.cs,.slice Ld.po S.order.length Ld.co,.slice Ld.pe D.ends.length Ld.ce,.slice Ld.pn D.nodes.length Ld.cn,.int .i64 xd] 49)=w7_5_6_9 at *;generalize w7_5_6.heap.size=b9 at *;refine wpAnyE_one 10 (by kernel_rfl) ?_;refine wpOp_append_N (.tmp 77) (.tmp 79) 94 49 rfl rfl (by rfl) (z:=.agg #[.slice none 0 0,.slice none 0 0,.slice none 0 0,.slice none 0 0,.int .i64 0]) (n:=5) (bytes:=104) Tryz.underlying94 (by kernel_rfl) rfl (by decide) (by decide) (m:=nd) (by rw [List.length_zipWith,w7_5_6_9_st.out.rows.ll,Nat.min_self,AL.out.2]) rfl rfl w7_5_6_9_st.out.rows.rd (y:=[.slice Ld.ps S.sizes.length Ld.cs,.slice Ld.po S.order.length Ld.co,.slice Ld.pe D.ends.length Ld.ce,.slice Ld.pn D.nodes.length Ld.cn,.int .i64 xd]) rfl e9.get (by simp [Value.oneCell']) (by omega) ?_;intro gd cd6 w7_5_6_9_10 rowd hRd hGd hrowd hgd hltd;have ST:=w7_5_6_9_st.out.growD SF.out hRd hGd hrowd hgd hltd;refine ⟨ST.2.2, ?_⟩;refine layy ?_;have w7_5_6_9_10_st:=hZ ST;clear ST hRd hGd hrowd hgd hltd;refine' wpAnyR_take (i:=11) (v:=?v11_8) (fun _=>rfl) (fun _ _ _ h k=>h.trans k) rfl (by kernel_rfl) (by kernel_rfl) (by kernel_rfl) (fun _ _ _ h=>h) (Or.inl (Or.inl ⟨by rfl, ?hy11_8⟩)) ?rest11_8
          case hy11_8=>(intro w _;go_simp;try with_reducible rfl)
          refine layy ?_;refine' wpAnyR_take (i:=12) (v:=?v12_9) (fun _=>rfl) (fun _ _ _ h k=>h.trans k) rfl (by kernel_rfl) (by kernel_rfl) (by kernel_rfl) (fun _ _ _ h=>h) (Or.inl (Or.inl ⟨by rfl, ?hy12_9⟩)) ?rest12_9
          case hy12_9=>(intro w _;go_simp;try with_reducible rfl)
          refine layy ?_;refine wpAnyR_done (by kernel_rfl) ?_ _;intro wz ez _;subst ez
          go_wp2_with fail
          go_roundg (m-(j+1))
          case measure=>omega
          case rel=>exact ⟨j+1,S3,A ++ [a],G ++ [(xd,D.ends,D.nodes)],Ls ++ [Ld],_,_,_,_,na+1,nd+1,by omega,Nat.le_refl _,by go_num,rfl,rfl,by omega,by omega,hZ ⟨by simp [AL.out.1],by simp [AL.out.2]⟩,hZ w7_5_6_9_10_st.out.1,K3,KP3,HL3,hZ w7_5_6_9_10_st.out.2.1⟩
        skip
        have X9:=Ext.alloc (Ext.refl w7_5) (.cells #[.slice Ld.ps S.sizes.length Ld.cs,.slice Ld.po S.order.length Ld.co,.slice Ld.pe D.ends.length Ld.ce,.slice Ld.pn D.nodes.length Ld.cn,.int .i64 xd] 49);have ST:=w7_5_st.out.ext X9;have e9:=rd5_made w7_5 49 (.slice Ld.ps S.sizes.length Ld.cs) (.slice Ld.po S.order.length Ld.co) (.slice Ld.pe D.ends.length Ld.ce) (.slice Ld.pn D.nodes.length Ld.cn) (.int .i64 xd);have e5:=(X9.cell (cell_lt e5) 0).trans e5;refine wpOp_value (i:=9) (v:=.slice (some ⟨w7_5.heap.size,0,none⟩) 1 1) (w'':=w7_5.alloc (.cells #[.slice Ld.ps S.sizes.length Ld.cs,.slice Ld.po S.order.length Ld.co,.slice Ld.pe D.ends.length Ld.ce,.slice Ld.pn D.nodes.length Ld.cn,.int .i64 xd] 49)) rfl (by rfl) (by go_simp) ⟨ST.bk0, ?_⟩;refine layy ?_;have w7_5_9_st:=hZ ST;have z9:w7_5.heap.size < (w7_5.alloc (.cells #[.slice Ld.ps S.sizes.length Ld.cs,.slice Ld.po S.order.length Ld.co,.slice Ld.pe D.ends.length Ld.ce,.slice Ld.pn D.nodes.length Ld.cn,.int .i64 xd] 49)).heap.size:=by simp
        have w7_5_9_le:w7_5.heap.size<=(w7_5.alloc (.cells #[.slice Ld.ps S.sizes.length Ld.cs,.slice Ld.po S.order.length Ld.co,.slice Ld.pe D.ends.length Ld.ce,.slice Ld.pn D.nodes.length Ld.cn,.int .i64 xd] 49)).heap.size:=by simp
        have n9:w7_5.heap.size ∉ blk qa:=fun hm=>by have h:=(w7_5_st.out.rows.la hm).2.1;omega
        clear ST X9;generalize w7_5.alloc (.cells #[.slice Ld.ps S.sizes.length Ld.cs,.slice Ld.po S.order.length Ld.co,.slice Ld.pe D.ends.length Ld.ce,.slice Ld.pn D.nodes.length Ld.cn,.int .i64 xd] 49)=w7_5_9 at *;generalize w7_5.heap.size=b9 at *;refine wpAnyE_one 6 (by kernel_rfl) ?_;refine wpOp_append_n (.tmp 70) (.tmp 75) rfl rfl (by rfl) (n:=na) (by rw [natsI_len,AL.out.1]) rfl rfl w7_5_9_st.out.rows.ra e5 (by omega) (by omega) (by omega) ?_;intro ga ca6 w7_5_9_6 rowa hRa hGa hrowa hga hlta;have ST:=w7_5_9_st.out.growA SF.out (a:=a) hRa hGa hrowa hga hlta;have e9:=e9.blk (w7_5_9_st.out.keepA hGa hrowa z9 n9);refine ⟨ST.bk0, ?_⟩;refine layy ?_;have w7_5_9_6_st:=hZ ST;clear ST hRa hGa hrowa hga hlta;refine wpAnyE_one 10 (by kernel_rfl) ?_;refine wpOp_append_N (.tmp 77) (.tmp 79) 94 49 rfl rfl (by rfl) (z:=.agg #[.slice none 0 0,.slice none 0 0,.slice none 0 0,.slice none 0 0,.int .i64 0]) (n:=5) (bytes:=104) Tryz.underlying94 (by kernel_rfl) rfl (by decide) (by decide) (m:=nd) (by rw [List.length_zipWith,w7_5_9_6_st.out.rows.ll,Nat.min_self,AL.out.2]) rfl rfl w7_5_9_6_st.out.rows.rd (y:=[.slice Ld.ps S.sizes.length Ld.cs,.slice Ld.po S.order.length Ld.co,.slice Ld.pe D.ends.length Ld.ce,.slice Ld.pn D.nodes.length Ld.cn,.int .i64 xd]) rfl e9.get (by simp [Value.oneCell']) (by omega) ?_;intro gd cd6 w7_5_9_6_10 rowd hRd hGd hrowd hgd hltd;have ST:=w7_5_9_6_st.out.growD SF.out hRd hGd hrowd hgd hltd;refine ⟨ST.2.2, ?_⟩;refine layy ?_;have w7_5_9_6_10_st:=hZ ST;clear ST hRd hGd hrowd hgd hltd;refine' wpAnyR_take (i:=11) (v:=?v11_10) (fun _=>rfl) (fun _ _ _ h k=>h.trans k) rfl (by kernel_rfl) (by kernel_rfl) (by kernel_rfl) (fun _ _ _ h=>h) (Or.inl (Or.inl ⟨by rfl, ?hy11_10⟩)) ?rest11_10
        case hy11_10=>(intro w _;go_simp;try with_reducible rfl)
        refine layy ?_;refine' wpAnyR_take (i:=12) (v:=?v12_11) (fun _=>rfl) (fun _ _ _ h k=>h.trans k) rfl (by kernel_rfl) (by kernel_rfl) (by kernel_rfl) (fun _ _ _ h=>h) (Or.inl (Or.inl ⟨by rfl, ?hy12_11⟩)) ?rest12_11
        case hy12_11=>(intro w _;go_simp;try with_reducible rfl)
        refine layy ?_;refine wpAnyR_done (by kernel_rfl) ?_ _;intro wz ez _;subst ez
        go_wp2_with fail
        go_roundg (m-(j+1))
        case measure=>omega
        case rel=>exact ⟨j+1,S3,A ++ [a],G ++ [(xd,D.ends,D.nodes)],Ls ++ [Ld],_,_,_,_,na+1,nd+1,by omega,Nat.le_refl _,by go_num,rfl,rfl,by omega,by omega,hZ ⟨by simp [AL.out.1],by simp [AL.out.2]⟩,hZ w7_5_9_6_10_st.out.1,K3,KP3,HL3,hZ w7_5_9_6_10_st.out.2.1⟩
      skip
      have X9:=Ext.alloc (Ext.refl w7) (.cells #[.slice Ld.ps S.sizes.length Ld.cs,.slice Ld.po S.order.length Ld.co,.slice Ld.pe D.ends.length Ld.ce,.slice Ld.pn D.nodes.length Ld.cn,.int .i64 xd] 49);have ST:=w7_st.out.ext X9;have e9:=rd5_made w7 49 (.slice Ld.ps S.sizes.length Ld.cs) (.slice Ld.po S.order.length Ld.co) (.slice Ld.pe D.ends.length Ld.ce) (.slice Ld.pn D.nodes.length Ld.cn) (.int .i64 xd);refine wpOp_value (i:=9) (v:=.slice (some ⟨w7.heap.size,0,none⟩) 1 1) (w'':=w7.alloc (.cells #[.slice Ld.ps S.sizes.length Ld.cs,.slice Ld.po S.order.length Ld.co,.slice Ld.pe D.ends.length Ld.ce,.slice Ld.pn D.nodes.length Ld.cn,.int .i64 xd] 49)) rfl (by rfl) (by go_simp) ⟨ST.bk0, ?_⟩;refine layy ?_;have w7_9_st:=hZ ST;have z9:w7.heap.size < (w7.alloc (.cells #[.slice Ld.ps S.sizes.length Ld.cs,.slice Ld.po S.order.length Ld.co,.slice Ld.pe D.ends.length Ld.ce,.slice Ld.pn D.nodes.length Ld.cn,.int .i64 xd] 49)).heap.size:=by simp
      have w7_9_le:w7.heap.size<=(w7.alloc (.cells #[.slice Ld.ps S.sizes.length Ld.cs,.slice Ld.po S.order.length Ld.co,.slice Ld.pe D.ends.length Ld.ce,.slice Ld.pn D.nodes.length Ld.cn,.int .i64 xd] 49)).heap.size:=by simp
      have n9:w7.heap.size ∉ blk qa:=fun hm=>by have h:=(w7_st.out.rows.la hm).2.1;omega
      clear ST X9;generalize w7.alloc (.cells #[.slice Ld.ps S.sizes.length Ld.cs,.slice Ld.po S.order.length Ld.co,.slice Ld.pe D.ends.length Ld.ce,.slice Ld.pn D.nodes.length Ld.cn,.int .i64 xd] 49)=w7_9 at *;generalize w7.heap.size=b9 at *;refine wpAnyE_one 5 (by kernel_rfl) ?_;have X5:=Ext.alloc (Ext.refl w7_9) (.cells #[.int .i64 a] 3);have ST:=w7_9_st.out.ext X5;have e5:(w7_9.alloc (.cells #[.int .i64 a] 3)).cell? ⟨w7_9.heap.size,0,none⟩=some (.int .i64 a):=by simp [go_sem]
      have e9:=e9.ext X5;refine wpOp_value (i:=5) (v:=.slice (some ⟨w7_9.heap.size,0,none⟩) 1 1) (w'':=w7_9.alloc (.cells #[.int .i64 a] 3)) rfl (by rfl) (by go_simp) ⟨ST.bk0, ?_⟩;refine layy ?_;have w7_9_5_st:=hZ ST;have z5:w7_9.heap.size < (w7_9.alloc (.cells #[.int .i64 a] 3)).heap.size:=by simp
      have w7_9_5_le:w7_9.heap.size<=(w7_9.alloc (.cells #[.int .i64 a] 3)).heap.size:=by simp
      replace z9:=Nat.lt_of_lt_of_le z9 w7_9_5_le;clear ST X5;generalize w7_9.alloc (.cells #[.int .i64 a] 3)=w7_9_5 at *;generalize w7_9.heap.size=b5 at *;refine wpAnyE_one 6 (by kernel_rfl) ?_;refine wpOp_append_n (.tmp 70) (.tmp 75) rfl rfl (by rfl) (n:=na) (by rw [natsI_len,AL.out.1]) rfl rfl w7_9_5_st.out.rows.ra e5 (by omega) (by omega) (by omega) ?_;intro ga ca6 w7_9_5_6 rowa hRa hGa hrowa hga hlta;have ST:=w7_9_5_st.out.growA SF.out (a:=a) hRa hGa hrowa hga hlta;have e9:=e9.blk (w7_9_5_st.out.keepA hGa hrowa z9 n9);refine ⟨ST.bk0, ?_⟩;refine layy ?_;have w7_9_5_6_st:=hZ ST;clear ST hRa hGa hrowa hga hlta;refine wpAnyE_one 10 (by kernel_rfl) ?_;refine wpOp_append_N (.tmp 77) (.tmp 79) 94 49 rfl rfl (by rfl) (z:=.agg #[.slice none 0 0,.slice none 0 0,.slice none 0 0,.slice none 0 0,.int .i64 0]) (n:=5) (bytes:=104) Tryz.underlying94 (by kernel_rfl) rfl (by decide) (by decide) (m:=nd) (by rw [List.length_zipWith,w7_9_5_6_st.out.rows.ll,Nat.min_self,AL.out.2]) rfl rfl w7_9_5_6_st.out.rows.rd (y:=[.slice Ld.ps S.sizes.length Ld.cs,.slice Ld.po S.order.length Ld.co,.slice Ld.pe D.ends.length Ld.ce,.slice Ld.pn D.nodes.length Ld.cn,.int .i64 xd]) rfl e9.get (by simp [Value.oneCell']) (by omega) ?_;intro gd cd6 w7_9_5_6_10 rowd hRd hGd hrowd hgd hltd;have ST:=w7_9_5_6_st.out.growD SF.out hRd hGd hrowd hgd hltd;refine ⟨ST.2.2, ?_⟩;refine layy ?_;have w7_9_5_6_10_st:=hZ ST;clear ST hRd hGd hrowd hgd hltd;refine' wpAnyR_take (i:=11) (v:=?v11_12) (fun _=>rfl) (fun _ _ _ h k=>h.trans k) rfl (by kernel_rfl) (by kernel_rfl) (by kernel_rfl) (fun _ _ _ h=>h) (Or.inl (Or.inl ⟨by rfl, ?hy11_12⟩)) ?rest11_12
      case hy11_12=>(intro w _;go_simp;try with_reducible rfl)
      refine layy ?_;refine' wpAnyR_take (i:=12) (v:=?v12_13) (fun _=>rfl) (fun _ _ _ h k=>h.trans k) rfl (by kernel_rfl) (by kernel_rfl) (by kernel_rfl) (fun _ _ _ h=>h) (Or.inl (Or.inl ⟨by rfl, ?hy12_13⟩)) ?rest12_13
      case hy12_13=>(intro w _;go_simp;try with_reducible rfl)
      refine layy ?_;refine wpAnyR_done (by kernel_rfl) ?_ _;intro wz ez _;subst ez
      go_wp2_with fail
      go_roundg (m-(j+1))
      case measure=>omega
      case rel=>exact ⟨j+1,S3,A ++ [a],G ++ [(xd,D.ends,D.nodes)],Ls ++ [Ld],_,_,_,_,na+1,nd+1,by omega,Nat.le_refl _,by go_num,rfl,rfl,by omega,by omega,hZ ⟨by simp [AL.out.1],by simp [AL.out.2]⟩,hZ w7_9_5_6_10_st.out.1,K3,KP3,HL3,hZ w7_9_5_6_10_st.out.2.1⟩
    have:j=m:=by omega
    subst this;have tk:decide ((j:Int) < (j:Int))=false:=dF;have E3:=hZ (N.out.but.toExt LB.out.ext LB.out.own);have AT0:=hZ N.out.toHAt;have WF0:=hZ K.out.wf;have SZ0:=hZ (show S'.sizes=S.sizes/\S'.order=S.order/\S'.words.length=nw from ⟨K.out.sizes,K.out.order,K.out.len.trans HNW.out⟩);have nl:nw<=400:=by have:=HR.out.n2;have:=HNW.out;omega
    have GL:=hZ (show G.length=na by rw [<- KP.out.len];exact AL.out.1);have SF:=hZ (show ∀ b,w3.heap.size<=b->(∀ o',d.sp ≠ some ⟨b,o',none⟩) /\ ∀ o',d.op ≠ some ⟨b,o',none⟩ from fun b hb=>⟨fun o' e=>by have:=HH.out.old1 b o' e;omega,fun o' e=>by have:=HH.out.old2 b o' e;omega⟩);clear N K
    go_wp2_with fail
    go_loopg [16] 3 (fun g' i wr=>∃ t:Nat,t<=3/\3-t<=g'/\i = .int .i64 t /\ ∃ (gw cap:Nat) (S2:Hp.Hs) (B2:Nat) (L2:List Hp.Tl) (ch2:Nat->List Nat) (A2:List Nat),Hid (HAt wr { d with gw:=gw,cap:=cap } S2)/\Hid (Hp.Wf S2 B2 L2 ch2)/\Hid (Hp.Kept S2 A2 G)/\Hid (t<=1->Hp.HeldAll S2 A2)/\Hid (KpRows w3 wr ({ d with gw:=gw,cap:=cap }:Hd).own S.sizes S.order (Hp.natsI A2) G qa ka qd kd Ls)/\Hid (Ext w0 wr)/\Hid ((∀ b ∈ ({ d with gw:=gw,cap:=cap }:Hd).own,w0.heap.size<=b)/\S2.sizes=S.sizes/\S2.order=S.order/\S2.words.length=nw))
    case atStart=>exact ⟨0,by omega,by omega,rfl,d.gw,d.cap,S',_,L,ch,A,AT0,WF0,KP,hZ (fun _=>HL.out),R,E3,hZ ⟨fun b hb=>LB.out.own b hb,SZ0.out⟩⟩
    case round=>
     obtain ⟨t,ht,hg2,rfl,gw,cap,S2,B2,L2,ch2,A2,AT2,WF2,KP2,HL2,R2,EX2,OW2⟩:=hrel;clear AT0 WF0 SZ0 KP HL R E3
     by_cases hlt2:t < 3
     . have tk2:decide ((t:Int) < 3)=true:=dT
       go_upto_block 4 with fail
       go_cut [17] (fun _ W=>∃ (gw cap:Nat) (S2:Hp.Hs) (B2:Nat) (L2:List Hp.Tl) (ch2:Nat->List Nat) (A2:List Nat),Hid (HAt W { d with gw:=gw,cap:=cap } S2)/\Hid (Hp.Wf S2 B2 L2 ch2)/\Hid (Hp.Kept S2 A2 G)/\Hid (t=0->Hp.HeldAll S2 A2)/\Hid (KpRows w3 W ({ d with gw:=gw,cap:=cap }:Hd).own S.sizes S.order (Hp.natsI A2) G qa ka qd kd Ls)/\Hid (Ext w0 W)/\Hid ((∀ b ∈ ({ d with gw:=gw,cap:=cap }:Hd).own,w0.heap.size<=b)/\S2.sizes=S.sizes/\S2.order=S.order/\S2.words.length=nw))
       case first=>
        have hl2:(Hp.natsI A2).length=na:=by rw [natsI_len,KP2.out.len,GL.out]
        have na5:na<=1000:=by omega
        have FO:=hZ (show FoAt wr wr (({ d with gw:=gw,cap:=cap }:Hd).own ++ blk qa) { d with gw:=gw,cap:=cap } S2 (Hp.natsI A2) qa ka from
         { toHAt:=AT2.out
           but0:=But.refl _ _
           own0:=fun b hb=>.inl (List.mem_append.2 (.inl hb))
           row:=R2.out.ra
           n:=fun b o' e=>⟨.inl (List.mem_append.2 (.inr (mem_blk e))),(R2.out.la (mem_blk e)).2.2,SF.out b (R2.out.la (mem_blk e)).1⟩ })
        have toE:∀ (W:World),But (({ d with gw:=gw,cap:=cap }:Hd).own ++ blk qa) wr W->Ext w0 W:=fun W hb=>hb.toExt EX2.out fun b hm=>by
         rcases List.mem_append.1 hm with hm | hm
         . exact OW2.out.1 b hm
         exact Nat.le_trans LB.out.ext.le (R2.out.la hm).1
        have TOE:=hZ toE;clear toE;obtain ht3:t=0 \/ t=1 \/ t=2:=by omega
        rcases ht3 with rfl | rfl | rfl
        . obtain ⟨cm,S1,hco⟩:=Hp.collect_some WF2.out;obtain ⟨⟨L1,ch1,hw1⟩,kp1,hl1,z1',z2',z3'⟩:=Hp.kept_collect WF2.out hco KP2.out (HL2.out (by omega));have FW:=lFollow2 (kd:=6) (S2:=S1) (M:=[]) (A2:=[]) FO.out (by rw [hl2];exact na5) WF2.out hco (.inl rfl) (fun h=>absurd h (by decide)) (Hp.kept_has kp1) (fun h=>absurd h (by decide));rw [hl2] at FW;have FW:=hZ FW;have HX:=hZ (show Hp.Wf S1 B2 L1 ch1/\Hp.Kept S1 A2 G/\Hp.HeldAll S1 A2/\S1.sizes=S.sizes/\S1.order=S.order/\S1.words.length=nw from ⟨hw1,kp1,hl1,z1'.trans OW2.out.2.1,z2'.trans OW2.out.2.2.1,z3'.trans OW2.out.2.2.2⟩);clear hco hw1 kp1 hl1 z1' z2' z3'
          go_wp2_with (go_at_call 54;refine FW.out.mono ?_;rintro e w9 ⟨rfl,h6,-⟩;have F6:=hZ (h6 rfl);clear h6)
          go_meet
          obtain ⟨hw1,kp1,hl1,z1',z2',z3'⟩:=HX.out;exact ⟨gw,cap,S1,B2,L1,ch1,A2,hZ F6.out.toHAt,hZ hw1,hZ kp1,hZ (fun _=>hl1),hZ (R2.out.follow F6.out.but0 F6.out.row (fun b hb=>.inl hb)),hZ (TOE.out _ F6.out.but0),hZ ⟨OW2.out.1,z1',z2',z3'⟩⟩
        . obtain ⟨cm,S1,hco⟩:=Hp.collect_some WF2.out;obtain ⟨⟨L1,ch1,hw1⟩,kp1,hl1,z1',z2',z3'⟩:=Hp.kept_collect WF2.out hco KP2.out (HL2.out (by omega));obtain ⟨M,S3,hmv⟩:=Hp.moved_some hw1;obtain ⟨A3,⟨L3,ch3,hw3⟩,kp3,y1',y2',y3',hA3⟩:=Hp.kept_moved hw1 hmv kp1 hl1;have FW:=lFollow2 (kd:=7) (S2:=S3) (M:=M) (A2:=Hp.natsI A3) FO.out (by rw [hl2];exact na5) WF2.out hco (.inr rfl) (fun _=>hmv) (Hp.kept_has kp1) (fun _=>hA3);rw [hl2] at FW;have FW:=hZ FW;have HX:=hZ (show Hp.Wf S3 B2 L3 ch3/\Hp.Kept S3 A3 G/\S3.sizes=S.sizes/\S3.order=S.order/\S3.words.length=nw from ⟨hw3,kp3,(y1'.trans z1').trans OW2.out.2.1,(y2'.trans z2').trans OW2.out.2.2.1,(y3'.trans z3').trans OW2.out.2.2.2⟩);clear hco hmv hA3 hw1 kp1 hl1 z1' z2' z3' hw3 kp3 y1' y2' y3'
          go_wp2_with (go_at_call 54;refine FW.out.mono ?_;rintro e w9 ⟨rfl,-,h7⟩;obtain ⟨gw9,cap9,h7⟩:=h7 rfl;have F7:=hZ h7;clear h7)
          go_meet
          obtain ⟨hw3,kp3,y1',y2',y3'⟩:=HX.out;have le2:=EX2.out.le;have ow:∀ b ∈ ({ d with gw:=gw9,cap:=cap9 }:Hd).own,b ∈ ({ d with gw:=gw,cap:=cap }:Hd).own \/ wr.heap.size<=b:=fun b hb=>by
           rcases F7.out.own0 b hb with hm | hm
           . rcases List.mem_append.1 hm with hm | hm
             . exact .inl hm
             exact absurd hb (F7.out.n b 0 (Row.of_blk R2.out.ra hm)).2.1
           exact .inr hm
          exact ⟨gw9,cap9,S3,B2,L3,ch3,A3,hZ F7.out.toHAt,hZ hw3,hZ kp3,hZ (fun h=>absurd h (by decide)),hZ (R2.out.follow F7.out.but0 F7.out.row ow),hZ (TOE.out _ F7.out.but0),hZ ⟨fun b hb=>by
           rcases ow b hb with hm | hm
           . exact OW2.out.1 b hm
           . omega,y1',y2',y3'⟩⟩
        obtain ⟨r,e0,S3,he,⟨L3,ch3,hw3⟩,kp3,z1',z2',z3'⟩:=Hp.kept_end (f:=(f:Int)) (n:=vn) WF2.out KP2.out (by omega);have EN:=hZ (End_any AT2.out hf hv1 hv2 he);have HX:=hZ (show Hp.Wf S3 B2 L3 ch3/\Hp.Kept S3 A2 G/\S3.sizes=S.sizes/\S3.order=S.order/\S3.words.length=nw from ⟨hw3,kp3,z1'.trans OW2.out.2.1,z2'.trans OW2.out.2.2.1,z3'.trans OW2.out.2.2.2⟩);have x0:=(EX2.out.cell zv 0).trans v0;have x1:=(EX2.out.cell zv 1).trans v1;clear he hw3 kp3 z1' z2' z3'
        go_wp2_with (go_at_call 43;refine EN.out.mono ?_;rintro e w9 ⟨rfl,hN9⟩;have N9:=hZ hN9;clear hN9)
        go_meet
        obtain ⟨hw3,kp3,z1',z2',z3'⟩:=HX.out;exact ⟨gw,cap,S3,B2,L3,ch3,A2,hZ N9.out.toHAt,hZ hw3,hZ kp3,hZ (fun h=>absurd h (by decide)),hZ (R2.out.heap N9.out.but (fun b hb=>.inl hb)),hZ (TOE.out _ (N9.out.but.mono fun b hb=>List.mem_append.2 (.inl hb))),hZ ⟨OW2.out.1,z1',z2',z3'⟩⟩
       case rest=>
        obtain ⟨gw3,cap3,S3,B3,L3,ch3,A3,AT3,WF3,KP3,HL3,R3,EX3,OW3⟩:=hcut;clear AT2 WF2 KP2 HL2 R2 EX2 OW2;have hl3:=hZ (show (Hp.natsI A3).length=na by rw [natsI_len,KP3.out.len,GL.out]);have na5:na<=1000:=by omega
        go_wp2_with fail
        go_loopg [17] na (fun g'' i wr=>∃ q:Nat,q<=na/\na-q<=g''/\i = .int .i64 q/\Hid (Ext wc wr))
        case atStart=>exact ⟨0,Nat.zero_le _,by omega,rfl,hZ (Ext.refl _)⟩
        case round=>
         obtain ⟨q,hq,hg3,rfl,EQ⟩:=hrel
         by_cases hlt3:q < na
         . have tk3:decide ((q:Int) < (na:Int))=true:=dT;obtain ⟨a,ha⟩:=get_list (E:=A3) (j:=q) (by rw [<- natsI_len,hl3.out];exact hlt3);obtain ⟨hat,x,D,ed,hgq⟩:=KP3.out.at_ q a ha;obtain ⟨Lq,hLq⟩:=get_list (E:=Ls) (j:=q) (by rw [R3.out.ll,GL.out];exact hlt3);have AT4:=hZ (AT3.out.ext EQ.out);have R4:=hZ (R3.out.ext EQ.out);have DQ:=hZ (R4.out.dg q _ Lq hgq hLq);have ED:=hZ (Diagram_any AT4.out WF3.out hat ed);unfold DiagPost at ED;rw [OW3.out.2.1,OW3.out.2.2.1] at ED;have pq:=WF3.out.part hat;have hw5:=WF3.out.hi;obtain ⟨bq,rfl,hbq⟩:=R4.out.ra.ptr (by rw [hl3.out];omega);have gq:=R4.out.ra.cell_ rfl (natsI_get ha);have kq:=R4.out.ra.at_.le;have kqc:=R4.out.ra.at_.cap;rw [hl3.out] at kq;have hz:(List.zipWith (fun L (g:Hp.Dgm)=>dgC L g S.sizes.length S.order.length) Ls G).length=na:=by rw [List.length_zipWith,R3.out.ll,Nat.min_self,GL.out]
           obtain ⟨bd,od,rfl,hbd,hcd⟩:=R4.out.rd.rd.cells (by rw [hz];omega);have kd1:=R4.out.rd.rd.le;have kd2:=R4.out.rd.rd.cap;rw [hz] at kd1;have hzq:(List.zipWith (fun L (g:Hp.Dgm)=>dgC L g S.sizes.length S.order.length) Ls G)[q]? = some (dgC Lq (x,D.ends,D.nodes) S.sizes.length S.order.length):=by rw [List.getElem?_zipWith,hLq,hgq]
           have s0:=hcd q _ 0 _ hzq rfl;have s1:wr.cell? ⟨bd,od+q * 5+1,none⟩=_:=hcd q _ 1 _ hzq rfl;have s2:wr.cell? ⟨bd,od+q * 5+2,none⟩=_:=hcd q _ 2 _ hzq rfl;have s3:wr.cell? ⟨bd,od+q * 5+3,none⟩=_:=hcd q _ 3 _ hzq rfl;have s4:wr.cell? ⟨bd,od+q * 5+4,none⟩=_:=hcd q _ 4 _ hzq rfl;simp only [Nat.add_zero] at s0;have nd5:nd<=1000:=by omega
           have qnd:q < nd:=by have:=AL.out.2;rw [GL.out] at this;omega
           have ndk:nd<=kd:=by have:=AL.out.2;rw [GL.out] at this;omega
           clear hcd hzq ha hgq hLq hat ed R4 AT4 hz;have ELE:=EQ.out;go_upto_region 32 with (go_at_call 23;refine ED.out.mono ?_;rintro e w4 ⟨Ld,rfl,hD4,hE4,hB4⟩)
           refine cut_world (F:=fun W=>Hid (Ext w4 W)/\Hid (Rd5 W w4.heap.size (.slice Ld.ps S.sizes.length Ld.cs) (.slice Ld.po S.order.length Ld.co) (.slice Ld.pe D.ends.length Ld.ce) (.slice Ld.pn D.nodes.length Ld.cn) (.int .i64 x))) ⟨hZ (exx),hZ ⟨by go_simp,by go_simp,by go_simp,by go_simp,by go_simp⟩⟩ ?_;rintro w5 ⟨E45,B5⟩;have E5:=hZ (hE4.trans E45.out);have D5:=hZ (hD4.ext E45.out);have DQ5:=hZ (DQ.out.ext E5.out);have EQL:=hZ (fun (W:World) (hE:Ext w5 W)=>dEqual_loop (x:=x) (D5.out.ext hE) (DQ5.out.ext hE) rfl);simp only [decide_true] at EQL;obtain ⟨y0,y1,y2,y3,y4⟩:=B5.out;have zy:=cell_lt y0;have t0:=(E5.out.cell hbd _).trans s0;have t1:=(E5.out.cell hbd _).trans s1;have t2:=(E5.out.cell hbd _).trans s2;have t3:=(E5.out.cell hbd _).trans s3;have t4:=(E5.out.cell hbd _).trans s4;have zbd5:=Nat.lt_of_lt_of_le hbd E5.out.le;clear hD4 hE4 hB4 ED s0 s1 s2 s3 s4 gq DQ;generalize w4.heap.size=bt at y0 y1 y2 y3 y4 zy ⊢;clear E45;have pr63a:=fun u_ (h_:Ext w5 u_)=>(h_.cell zbd5 _).trans t0
           have pr63b:=fun u_ (h_:Ext w5 u_)=>(h_.cell zbd5 _).trans t1
           have pr63c:=fun u_ (h_:Ext w5 u_)=>(h_.cell zbd5 _).trans t2
           have pr63d:=fun u_ (h_:Ext w5 u_)=>(h_.cell zbd5 _).trans t3
           have pr63e:=fun u_ (h_:Ext w5 u_)=>(h_.cell zbd5 _).trans t4
           have pr63f:=fun u_ (h_:Ext w5 u_)=>(h_.cell zy 0).trans y0
           have pr63g:=fun u_ (h_:Ext w5 u_)=>(h_.cell zy 1).trans y1
           have pr63h:=fun u_ (h_:Ext w5 u_)=>(h_.cell zy 2).trans y2
           have pr63i:=fun u_ (h_:Ext w5 u_)=>(h_.cell zy 3).trans y3
           have pr63j:=fun u_ (h_:Ext w5 u_)=>(h_.cell zy 4).trans y4
           refine wp_region_seq (S:=fun W=>Ext w5 W) (R:=Ext) (by kernel_rfl) Ext.refl ?_ ?_
           . exact exx
           refine' tkL 0 ?_;refine' tkL 1 ?_;refine' tkL 2 ?_;refine' tkL 3 ?_;refine' tkL 4 ?_;refine' tkL 5 ?_;refine' tkL 6 ?_;refine' tkL 7 ?_;refine' tkR 8 (v:=.bool true) rfl (Or.inr ⟨by rfl,27,_, ?hx8_22, ?hy8_22⟩) ?rest8_22
           case hx8_22=>(intro w hSw;go_simp;try with_reducible rfl)
           case hy8_22=>exact fun w hE=>(EQL.out _ hE).mono (fun _ _ h=>⟨h.1,h.2,Ext.trans hE h.2⟩)
           refine layy ?_;refine' tkL 9 ?_;refine' tkL 10 ?_;refine wpAnyR_done (by kernel_rfl) ?_ _;intro x5 _ Ex5;clear pr63a pr63b pr63c pr63d pr63e pr63f pr63g pr63h pr63i pr63j
           go_wp2_with fail
           go_roundg (na-(q+1))
           case measure=>omega
           case rel=>exact ⟨q+1,by omega,Nat.le_refl _,by go_num,hZ ((EQ.out.trans E5.out).trans Ex5)⟩
         have:q=na:=by omega
         subst this;have tk3:decide ((q:Int) < (q:Int))=false:=dF
         go_wp2_with fail
         go_roundg (3-(t+1))
         case measure=>omega
         case rel=>exact ⟨t+1,by omega,Nat.le_refl _,by go_num,gw3,cap3,S3,B3,L3,ch3,A3,hZ (AT3.out.ext EQ.out),WF3,KP3,hZ (fun h=>HL3.out (by omega)),hZ (R3.out.ext EQ.out),hZ (EX3.out.trans EQ.out),OW3⟩
     have:t=3:=by omega
     subst this;have tk2:decide (((3:Nat):Int) < 3)=false:=dF;have e0:=(EX2.out.cell z0 0).trans c0;have e1:=(EX2.out.cell z0 1).trans c1;have e2:=(EX2.out.cell z0 2).trans c2;have e3:=(EX2.out.cell z0 3).trans c3;have WD:=hZ (lWords' (pa:=pa) (ca:=ca) (na:=acts.length) OW2.out.2.1 OW2.out.2.2.1 OW2.out.2.2.2 (H.out.ext EX2.out).sizes (H.out.ext EX2.out).order AT2.out WF2.out)
     go_wp2_with (first
      | (go_at_call 52;refine WD.out.mono ?_;rintro e w7 ⟨g7,c7,rfl,R7,hb7⟩)
      | (go_at_call 15;refine (awake_any _).mono ?_;rintro e wa ⟨rfl,hba⟩))
     go_returns;exact ⟨rfl,HE0.out.trans ((EX2.out.trans hb7).trans hba)⟩
end Go.Proofs.YtdokmmhjmclmnaaGreat
