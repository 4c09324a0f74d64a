/-
  Part 33 of a proof: PD4 PD5 PD6.
-/
import Derived.Test.YtdokmmhjmclmnaaGreatMB18
import Derived.Test.YtdokmmhjmclmnaaGreatMB21
import Derived.Test.YtdokmmhjmclmnaaGreatMB30
import Derived.Test.YtdokmmhjmclmnaaGreatMB32
set_option linter.unusedSimpArgs false
set_option linter.unusedVariables false
set_option linter.unusedSectionVars false
set_option linter.unnecessarySimpa false
namespace Go.Proofs.YtdokmmhjmclmnaaGreat
open Go.RowKit Go.Maps
theorem take_fold {α β:Type} {g:β → α → β} {l:List α} {j:Nat} {x:α} (h:l[j]? = some x) (t:β):(l.take (j+1)).foldl g t=g ((l.take j).foldl g t) x:=by
 rw [← Nd.take_snoc h,List.foldl_append]
 rfl
set_option maxRecDepth 100000 in
set_option maxHeartbeats 16000000 in
theorem search_node {wb w:World} {L:DgL} {d:Nd.Dia} {n:Nat} (h:DgRd wb L d.sizes d.order d.ends d.nodes) (hI:DgIn d) (hL:d.Low) {i:Nat} (hi:i < n+1) (hn:n+1 ≤ d.nodes.length) {p1 p2:Option Addr} {k1 k2:Nat} {t:List Int × List Int} (hm:¬ (i:Int) ∈ t.1) (S:SrAt wb w p1 k1 p2 k2 t) (hB:Nd.Bnd d t)
    (IH:∀ (r:Int) (w:World) (p1 p2:Option Addr) (k1 k2:Nat) (t:List Int × List Int),d.Ref r n → SrAt wb w p1 k1 p2 k2 t → Nd.Bnd d t →
     Calls Tryz.prog 154 #[dgV L d.sizes.length d.order.length d.ends.length d.nodes.length d.root,.int .i64 r,.slice p1 t.1.length k1,.slice p2 t.2.length k2] w (SrPost wb w p1 p2 (d.srch (n+1) r t))) :
    Calls Tryz.prog 154 #[dgV L d.sizes.length d.order.length d.ends.length d.nodes.length d.root,.int .i64 (i:Int),.slice p1 t.1.length k1,.slice p2 t.2.length k2] w (SrPost wb w p1 p2 (d.srch (n+1+1) i t)):=by
  obtain ⟨zl,el,nl,hf,hkr,hroot⟩:=hI;have hil:i < d.nodes.length:=by omega
  have hr:¬ (i:Int) < 0:=by omega
  have hlen:=hB.len;have H:=Lib.hid (h.ext S.ext0);have HS:=Lib.hid S;have HB:=Lib.hid hB;have l1:=h.s.le;have l2:=h.o.le;have l3:=h.e.le;have l4:=h.n.le;rw [List.length_map] at l3;rw [zip_nodeC_len h.kl] at l4;have HKL:=Lib.hid h.kl;have HK:=Lib.hid (fun k hk=>hL i hil k hk);have HLOW:=Lib.hid hL;have HKS:=Lib.hid h;rw [Nd.Dia.srch,if_neg hr,if_neg hm];obtain ⟨q,hq⟩:=get_list (E:=d.nodes) (j:=i) hil;obtain ⟨⟨kp,kc⟩,hk⟩:=get_list (E:=L.K) (j:=i) (by rw [h.kl];exact hil);obtain ⟨nb,no,hpn,hnb,hc⟩:=H.out.node_cells (by omega);obtain ⟨g1,g2⟩:=hc i q _ hq hk;have SK:=Lib.hid (h.ks i q _ hq hk);have hqa:d.nodeAt i=q:=by unfold Nd.Dia.nodeAt;rw [hq];rfl
  have HKR:=Lib.hid (hkr q (List.mem_of_getElem? hq));simp only [Int.toNat_natCast];rw [hqa] at HK ⊢;obtain ⟨vv,ks⟩:=q;simp only at g1 g2 SK HKR HK ⊢;have HBU:=Lib.hid (fun j=>(Nd.fold_bnd (d:=d) (j:=(i:Int)) (g:=fun t k=>d.srch (n+1) k t) (ks.take j) t (fun k hk=>by
   have hk':=HK.out k (List.mem_of_mem_take hk);exact ⟨hk'.1,fun t ht=>Nd.srch_bnd hL n k t ⟨by have:=hk'.1;omega,hk'.2⟩ (by omega) ht⟩) HB.out).1)
  have HA:=Lib.hid (fun W (hE:Ext w W)=>(by have:=dHas ((HS.out.ext hE).r1.at_) (i:Int);rw [decide_eq_false hm] at this;exact this:Calls Tryz.prog 178 #[.slice p1 t.1.length k1,.int .i64 (i:Int)] W fun e w'=>e = .returned (.bool false) ∧ Ext W w'));have HIH:=Lib.hid IH;have tk:decide ((i:Int) < 0)=false:=decide_eq_false hr;have kl:=SK.out.le;have kcap:=SK.out.cap;unfold dgV DgL.cells at HIH ⊢;rw [hpn] at HIH ⊢;clear h hB S hL hf hkr hroot hm hc hk hq hqa IH hpn hr;generalize ha1:t.1.length=a1 at *;generalize ha2:t.2.length=a2 at *;have HA1:=Lib.hid ha1;have HA2:=Lib.hid ha2;generalize h1:d.sizes.length=n1 at *;generalize h2:d.order.length=n2 at *;generalize h3:d.ends.length=n3 at *;generalize h4:d.nodes.length=n4 at *;generalize d.root=rt at *;have H3:=Lib.hid h3;have H4:=Lib.hid h4;clear ha1 ha2 h1 h2 h3 h4;have mixed:Tryz.prog.follows .mixedOrders=true:=by kernel_rfl
  go_enter Tryz.func154,Tryz.ntmps154
  go_wp2_with (go_at_call 178;refine (HA.out _ (exx)).mono ?_;rintro e w1 ⟨rfl,hb1⟩;obtain ⟨hc1,hf1,hs1⟩:=hb1.cells)
  have GB:=Lib.hid (show w.heap.size < w1.heap.size from by have:=hb1.le;simp at this;omega);refine cut_world (F:=fun W=>Hid (Ext w W) ∧ Own5 W w.heap.size (.slice L.ps n1 L.cs) (.slice L.po n2 L.co) (.slice L.pe n3 L.ce) (.slice (some ⟨nb,no,none⟩) n4 L.cn) (.int .i64 rt) ∧ W.cell? ⟨w1.heap.size,1,none⟩=some (.slice kp ks.length kc)) ⟨Lib.hid (exx),Own5.ext (Own5.ext ⟨by go_simp,by go_simp,by go_simp,by go_simp,by go_simp,fun o=>by go_simp⟩ hb1) (Ext.alloc (Ext.refl _) _),by go_simp⟩ ?_;intro w2 ⟨E2,O2',c1⟩;have O2:=Lib.hid O2';have T0:=Lib.hid ((HS.out.ext E2.out).same (Ext.refl w2));have zg:=cell_lt O2'.a0;have zb:=cell_lt c1;have FG:Hid (∀ b,b=w.heap.size ∨ b=w1.heap.size → b ∉ blk p1 ++ blk p2):=Lib.hid fun b hb hm=>by
   have:b < w.heap.size:=by
    rcases List.mem_append.1 hm with hm | hm
    · exact HS.out.r1.lt (row_blk HS.out.r1 hm)
    · exact HS.out.r2.lt (row_blk HS.out.r2 hm)
   have:=GB.out;omega
  clear hb1 O2' g1 g2;generalize w1.heap.size=bb at c1 zb FG ⊢;generalize w.heap.size=g at O2 zg FG ⊢
  go_wp2_with fail
  go_loopg [2,3,11] ks.length (fun gg v2 v3 iv wr=>∃ (j:Nat) (r1 r2:Option Addr) (c1' c2':Nat) (u:List Int × List Int),j ≤ ks.length ∧ ks.length-j ≤ gg ∧ v2 = .slice r1 u.1.length c1' ∧ v3 = .slice r2 u.2.length c2' ∧ iv = .int .i64 j ∧ Hid (SrTo wb w2 p1 p2 wr r1 c1' r2 c2' u) ∧ Aside (u=(ks.take j).foldl (fun t k=>d.srch (n+1) k t) t))
  case atStart=>exact ⟨0,p1,p2,k1,k2,t,by omega,by omega,by rw [HA1.out],by rw [HA2.out],rfl,T0,(show Aside _ from rfl)⟩
  case round=>
   obtain ⟨j,r1,r2,c1',c2',u,hj,hg,rfl,rfl,rfl,TJ,HU⟩:=hrel;have HU:=Lib.hid HU.out;have HUB:=Lib.hid (show Nd.Bnd d u from HU.out ▸ HBU.out j);have hul:=HUB.out.len;rw [H3.out,H4.out] at hul;have OJ:=Lib.hid (O2.out.but TJ.out.but (FG.out g (.inl rfl)));have c1w:=(TJ.out.but.cell zb (FG.out bb (.inr rfl)) 1).trans c1;have zs:=TJ.out.but.size;have FR:Hid (∀ b,b=g ∨ b=bb → b ∉ blk r1 ++ blk r2):=Lib.hid fun b hb hm=>by
    have hlt:b < w2.heap.size:=by
     rcases hb with rfl | rfl
     · exact zg
     · exact zb
    rcases List.mem_append.1 hm with hm | hm
    · rcases TJ.out.o1 _ _ (row_blk TJ.out.r1 hm) with h | h
      · exact FG.out b hb (by simp [h])
      · omega
    · rcases TJ.out.o2 _ _ (row_blk TJ.out.r2 hm) with h | h
      · exact FG.out b hb (by simp [h])
      · omega
   by_cases hlt:j < ks.length
   · have tk1:decide ((j:Int) < (ks.length:Int))=true:=decide_eq_true (by omega);obtain ⟨y,hy⟩:=rd_get (l:=ks) (j:=j) hlt;have HKY:=Lib.hid (HK.out y (List.mem_of_getElem? hy));obtain ⟨kb,ko,rfl,hkb,hck⟩:=SK.out.cells (by omega);have gkb:=hck j y hy;have gk:=(TJ.out.ext0.cell hkb _).trans gkb;have zk:=cell_lt gk;have HY:=Lib.hid hy;have CALL:=Lib.hid (HIH.out y);obtain ⟨a0,a1',a2',a3,a4,az⟩:=id OJ.out;have kbn:Hid (kb ∉ blk r1 ++ blk r2):=Lib.hid fun hm=>by
      rcases List.mem_append.1 hm with hm | hm
      · have:=TJ.out.l1 _ _ (row_blk TJ.out.r1 hm);omega
      · have:=TJ.out.l2 _ _ (row_blk TJ.out.r2 hm);omega
     clear hck hy gkb
     go_wp2_with fail
     refine wp_region_seq (S:=fun W=>Own5 W g (.slice L.ps n1 L.cs) (.slice L.po n2 L.co) (.slice L.pe n3 L.ce) (.slice (some ⟨nb,no,none⟩) n4 L.cn) (.int .i64 rt) ∧ W.cell? ⟨bb,1,none⟩=some (.slice (some ⟨kb,ko,none⟩) ks.length kc) ∧ W.cell? ⟨kb,ko+j,none⟩=some (.int .i64 y)) (R:=Eq) (by kernel_rfl) (fun _=>rfl) ?_ ?_
     · exact ⟨OJ.out.ext exx,by go_simp,by go_simp⟩
     refine' wpAnyR_take (i:=0) (v:=?v0_1) (fun _=>rfl) (fun _ _ _ h k=>h.trans k) rfl (by kernel_rfl) (by kernel_rfl) (by kernel_rfl) (fun _ _ _ h=>h) (Or.inl (Or.inl ⟨by rfl, ?hy0_1⟩)) ?rest0_1
     case hy0_1=>(intro w hSw;(obtain ⟨⟨s0,s1,s2,s3,s4,_⟩,s5,s6⟩:=hSw);go_simp;try with_reducible rfl)
     refine layy ?_;refine' wpAnyR_take (i:=1) (v:=?v1_2) (fun _=>rfl) (fun _ _ _ h k=>h.trans k) rfl (by kernel_rfl) (by kernel_rfl) (by kernel_rfl) (fun _ _ _ h=>h) (Or.inl (Or.inl ⟨by rfl, ?hy1_2⟩)) ?rest1_2
     case hy1_2=>(intro w hSw;(obtain ⟨⟨s0,s1,s2,s3,s4,_⟩,s5,s6⟩:=hSw);go_simp;try with_reducible rfl)
     refine layy ?_;refine' wpAnyR_take (i:=2) (v:=?v2_3) (fun _=>rfl) (fun _ _ _ h k=>h.trans k) rfl (by kernel_rfl) (by kernel_rfl) (by kernel_rfl) (fun _ _ _ h=>h) (Or.inl (Or.inl ⟨by rfl, ?hy2_3⟩)) ?rest2_3
     case hy2_3=>(intro w hSw;(obtain ⟨⟨s0,s1,s2,s3,s4,_⟩,s5,s6⟩:=hSw);go_simp;try with_reducible rfl)
     refine layy ?_;refine' wpAnyR_take (i:=3) (v:=?v3_4) (fun _=>rfl) (fun _ _ _ h k=>h.trans k) rfl (by kernel_rfl) (by kernel_rfl) (by kernel_rfl) (fun _ _ _ h=>h) (Or.inl (Or.inl ⟨by rfl, ?hy3_4⟩)) ?rest3_4
     case hy3_4=>(intro w hSw;(obtain ⟨⟨s0,s1,s2,s3,s4,_⟩,s5,s6⟩:=hSw);go_simp;try with_reducible rfl)
     refine layy ?_;refine' wpAnyR_take (i:=4) (v:=?v4_5) (fun _=>rfl) (fun _ _ _ h k=>h.trans k) rfl (by kernel_rfl) (by kernel_rfl) (by kernel_rfl) (fun _ _ _ h=>h) (Or.inl (Or.inl ⟨by rfl, ?hy4_5⟩)) ?rest4_5
     case hy4_5=>(intro w hSw;(obtain ⟨⟨s0,s1,s2,s3,s4,_⟩,s5,s6⟩:=hSw);go_simp;try with_reducible rfl)
     refine layy ?_;refine' wpAnyR_take (i:=5) (v:=?v5_6) (fun _=>rfl) (fun _ _ _ h k=>h.trans k) rfl (by kernel_rfl) (by kernel_rfl) (by kernel_rfl) (fun _ _ _ h=>h) (Or.inl (Or.inl ⟨by rfl, ?hy5_6⟩)) ?rest5_6
     case hy5_6=>(intro w hSw;(obtain ⟨⟨s0,s1,s2,s3,s4,_⟩,s5,s6⟩:=hSw);go_simp;try with_reducible rfl)
     refine layy ?_;refine' wpAnyR_take (i:=6) (v:=?v6_7) (fun _=>rfl) (fun _ _ _ h k=>h.trans k) rfl (by kernel_rfl) (by kernel_rfl) (by kernel_rfl) (fun _ _ _ h=>h) (Or.inl (Or.inl ⟨by rfl, ?hy6_7⟩)) ?rest6_7
     case hy6_7=>(intro w hSw;(obtain ⟨⟨s0,s1,s2,s3,s4,_⟩,s5,s6⟩:=hSw);go_simp;try with_reducible rfl)
     refine layy ?_;refine' wpAnyR_take (i:=7) (v:=?v7_8) (fun _=>rfl) (fun _ _ _ h k=>h.trans k) rfl (by kernel_rfl) (by kernel_rfl) (by kernel_rfl) (fun _ _ _ h=>h) (Or.inl (Or.inl ⟨by rfl, ?hy7_8⟩)) ?rest7_8
     case hy7_8=>(intro w hSw;(obtain ⟨⟨s0,s1,s2,s3,s4,_⟩,s5,s6⟩:=hSw);go_simp;try with_reducible rfl)
     refine layy ?_;refine wpAnyE_call 8 (f:=154) (args:=#[.agg #[.slice L.ps n1 L.cs,.slice L.po n2 L.co,.slice L.pe n3 L.ce,.slice (some ⟨nb,no,none⟩) n4 L.cn,.int .i64 rt],.int .i64 y,.slice r1 u.1.length c1',.slice r2 u.2.length c2']) rfl (by kernel_rfl) (by rfl) ?run8 ?call8
     case run8=>go_simp
     refine (CALL.out wr.drew r1 r2 c1' c2' u ⟨by have:=HKY.out.1;omega,by have:=HKY.out.2;rw [H3.out] at *;omega⟩ (TJ.out.toSrAt.ext exx) HUB.out).mono ?_;rintro e w4 ⟨s1,m1,s2,m2,rfl,T4'⟩;have T4:=Lib.hid T4';have OD:Own5 wr.drew g (.slice L.ps n1 L.cs) (.slice L.po n2 L.co) (.slice L.pe n3 L.ce) (.slice (some ⟨nb,no,none⟩) n4 L.cn) (.int .i64 rt):=OJ.out.ext exx;have O4:=Lib.hid (OD.but T4'.but (FR.out g (.inl rfl)));have cd:wr.drew.cell? ⟨bb,1,none⟩=some (.slice (some ⟨kb,ko,none⟩) ks.length kc):=by go_simp
     have kd:wr.drew.cell? ⟨kb,ko+j,none⟩=some (.int .i64 y):=by go_simp
     have c14:=(T4'.but.cell (cell_lt cd) (FR.out bb (.inr rfl)) 1).trans cd;have gk4:=(T4'.but.cell (cell_lt kd) kbn.out (ko+j)).trans kd;refine ⟨_,rfl,⟨O4.out,c14,gk4⟩, ?_⟩;have T5:=Lib.hid (TJ.out.trans (T4'.from_ (show Ext wr wr.drew from exx)));clear T4' cd kd OD OJ a0 a1' a2' a3 a4 az c1w gk zk TJ CALL;refine layy ?_;refine' wpAnyR_take (i:=9) (v:=?v9_9) (fun _=>rfl) (fun _ _ _ h k=>h.trans k) rfl (by kernel_rfl) (by kernel_rfl) (by kernel_rfl) (fun _ _ _ h=>h) (Or.inl (Or.inl ⟨by rfl, ?hy9_9⟩)) ?rest9_9
     case hy9_9=>(intro w _;go_simp;try with_reducible rfl)
     refine layy ?_;refine' wpAnyR_take (i:=10) (v:=?v10_10) (fun _=>rfl) (fun _ _ _ h k=>h.trans k) rfl (by kernel_rfl) (by kernel_rfl) (by kernel_rfl) (fun _ _ _ h=>h) (Or.inl (Or.inl ⟨by rfl, ?hy10_10⟩)) ?rest10_10
     case hy10_10=>(intro w _;go_simp;try with_reducible rfl)
     refine layy ?_;refine' wpAnyR_take (i:=11) (v:=?v11_11) (fun _=>rfl) (fun _ _ _ h k=>h.trans k) rfl (by kernel_rfl) (by kernel_rfl) (by kernel_rfl) (fun _ _ _ h=>h) (Or.inl (Or.inl ⟨by rfl, ?hy11_11⟩)) ?rest11_11
     case hy11_11=>(intro w _;go_simp;try with_reducible rfl)
     refine layy ?_;refine' wpAnyR_take (i:=12) (v:=?v12_12) (fun _=>rfl) (fun _ _ _ h k=>h.trans k) rfl (by kernel_rfl) (by kernel_rfl) (by kernel_rfl) (fun _ _ _ h=>h) (Or.inl (Or.inl ⟨by rfl, ?hy12_12⟩)) ?rest12_12
     case hy12_12=>(intro w _;go_simp;try with_reducible rfl)
     refine layy ?_;refine' wpAnyR_take (i:=13) (v:=?v13_13) (fun _=>rfl) (fun _ _ _ h k=>h.trans k) rfl (by kernel_rfl) (by kernel_rfl) (by kernel_rfl) (fun _ _ _ h=>h) (Or.inl (Or.inl ⟨by rfl, ?hy13_13⟩)) ?rest13_13
     case hy13_13=>(intro w _;go_simp;try with_reducible rfl)
     refine layy ?_;refine wpAnyR_done (by kernel_rfl) ?_ _;intro w5 e5 _;subst e5
     go_wp2_with fail
     go_roundg (ks.length-(j+1))
     case measure=>omega
     case rel=>exact ⟨j+1,s1,s2,m1,m2,_,by omega,by omega,rfl,rfl,by go_num,T5,(show Aside _ from by rw [take_fold (show ks[j]? = some y from HY.out),← HU.out];exact rfl)⟩
   · have hjn:j=ks.length:=by omega
     have tk1:decide ((j:Int) < (ks.length:Int))=false:=decide_eq_false (by omega);have HUE:=Lib.hid (show u=ks.foldl (fun t k=>d.srch (n+1) k t) t by rw [HU.out,List.take_of_length_le (by omega)]);have y1:(-9223372036854775808:Int) ≤ (i:Int):=by omega
     have y2:(i:Int) ≤ (9223372036854775807:Int):=by omega
     have bu:u.1.length < 10000000:=by omega
     clear hjn HU
     go_wp2_with (at_builtin;refine app_rowN rfl _ _ rfl (n:=u.1.length) rfl rfl rfl (TJ.out.toSrAt.ext (show Ext wr _ from exx)).r1 (by go_simp) y1 y2 bu ?_;intro g6 c6 w6 row6 hR6 hG6 hr6 hg6;have N6:=Lib.hid (TJ.out.trans (((TJ.out.toSrAt.ext (show Ext wr _ from exx)).grow1 hR6 hG6 hr6 hg6).from_ (show Ext wr _ from exx)));clear hR6 hG6 hr6 hg6)
     go_returns
     refine ⟨_,_,_,_, ?_,(by
      have:=N6.out.from_ E2.out;rw [HUE.out] at this;exact this)⟩
     rw [HUE.out];simp only [List.length_append,List.length_cons,List.length_nil];rfl
theorem search_any {wb : World} {L : DgL} {d : Nd.Dia} (h : DgRd wb L d.sizes d.order d.ends d.nodes) (hI : DgIn d) (hL : d.Low) : ∀ (n : Nat), n ≤ d.nodes.length → ∀ (r : Int) (w : World) (p1 p2 : Option Addr) (k1 k2 : Nat) (t : List Int × List Int), d.Ref r n → SrAt wb w p1 k1 p2 k2 t → Nd.Bnd d t →
      Calls Tryz.prog 154 #[dgV L d.sizes.length d.order.length d.ends.length d.nodes.length d.root,.int .i64 r,.slice p1 t.1.length k1,.slice p2 t.2.length k2] w (SrPost wb w p1 p2 (d.srch (n+1) r t))
  | n,hn,r,w,p1,p2,k1,k2,t,hR,S,hB=>by
   have hl:=hB.len;have e1:=hI.el
   by_cases hr:r < 0
   · exact search_end n _ _ _ _ _ r hr (by have:=hR.2;omega) S (by omega)
   by_cases hm:r ∈ t.1
   · exact search_known n _ _ _ _ _ r hr hm S
   · obtain ⟨i,rfl⟩:∃ i:Nat,r=(i:Int):=⟨r.toNat,by omega⟩
     have hin:=hR.1;obtain ⟨n',rfl⟩:∃ n',n=n'+1:=⟨n-1,by omega⟩
     exact search_node h hI hL (by omega) hn hm S hB (fun r w p1 p2 k1 k2 t hR S hB=>search_any h hI hL n' (by omega) r w p1 p2 k1 k2 t hR S hB)
theorem nodup_of {α:Type} {l:List α} (h:∀ (i k:Nat) (x y:α),k < i → l[i]? = some x → l[k]? = some y → y ≠ x):l.Nodup:=by
 rw [List.nodup_iff_pairwise_ne,List.pairwise_iff_getElem]
 intro k i hk hi hki
 exact h i k l[i] l[k] hki (List.getElem?_eq_getElem hi) (List.getElem?_eq_getElem hk)
theorem not_nodup {α:Type} {l:List α} {i k:Nat} {x:α} (hki:k < i) (hi:l[i]? = some x) (hk:l[k]? = some x):¬ l.Nodup:=fun h=>by
 have:=Nd.nodup_inj h hi hk
 omega
theorem rising_at {w:World} {p:Option Addr} {c:Nat} {l:List Int} (h:SliceAt w p c l) (k:Nat) {b:Bool} (hb:decide (l=Nd.upto k)=b):Calls Tryz.prog 155 #[.slice p l.length c,.int .i64 k] w fun e w'=>e = .returned (.bool b) ∧ Ext w w':=hb ▸ dRising h k
theorem SrAt.start (w:World):SrAt w w none 0 none 0 ([],[]):=
 ⟨Ext.refl w,⟨World.ownsRow_nil w _ _ _,by simp⟩,⟨World.ownsRow_nil w _ _ _,by simp⟩,by simp,by simp,by simp⟩
set_option maxRecDepth 100000 in
set_option maxHeartbeats 16000000 in
theorem dIsDiagram {w:World} {L:DgL} {d:Nd.Dia} {b:Bool} (h:DgRd w L d.sizes d.order d.ends d.nodes) (hI:DgIn d) (hL:d.Low) (hroot:d.Ref d.root d.nodes.length) (hb:b=true ↔ d.Is) :
    Calls Tryz.prog 99 #[dgV L d.sizes.length d.order.length d.ends.length d.nodes.length d.root] w fun e w'=>e = .returned (.bool b) ∧ Ext w w':=by
  have el:=hI.el;have nl:=hI.nl;have H:=Lib.hid h;have l1:=h.s.le;have l2:=h.o.le;have l3:=h.e.le;have l4:=h.n.le;rw [List.length_map] at l3;rw [zip_nodeC_len h.kl] at l4;have HB:=Lib.hid hb;have SE:=Lib.hid (fun W (hE:Ext w W)=>search_any (h.ext hE) hI hL d.nodes.length (Nat.le_refl _) d.root W none none 0 0 ([],[]) hroot (SrAt.start W) (Nd.Bnd.start d));have BL:=Lib.hid (Nd.srch_bnd hL d.nodes.length d.root ([],[]) hroot (Nat.le_refl _) (Nd.Bnd.start d)).1.len;unfold dgV DgL.cells at SE ⊢;clear h hb hI hL hroot;generalize h1:d.sizes.length=n1 at *;generalize h2:d.order.length=n2 at *;generalize h3:d.ends.length=n3 at *;generalize h4:d.nodes.length=n4 at *;generalize hr:d.root=rt at *;have H3:=Lib.hid h3;have H4:=Lib.hid h4;have HR:=Lib.hid hr;clear h1 h2 h3 h4 hr;have mixed:Tryz.prog.follows .mixedOrders=true:=by kernel_rfl
  go_enter Tryz.func99,Tryz.ntmps99
  go_wp2_with fail
  refine cut_world (F:=fun W=>Hid (Ext w W) ∧ Own5 W w.heap.size (.slice L.ps n1 L.cs) (.slice L.po n2 L.co) (.slice L.pe n3 L.ce) (.slice L.pn n4 L.cn) (.int .i64 rt)) ⟨Lib.hid (exx),by go_simp,by go_simp,by go_simp,by go_simp,by go_simp,fun o=>by go_simp⟩ ?_;intro w0 ⟨E0,O0⟩;generalize w.heap.size=g at O0 ⊢;have H0:=Lib.hid (H.out.ext E0.out);have O0:=Lib.hid O0
  go_loopg [3] n3 (fun gg i wr=>∃ j:Nat,j ≤ n3 ∧ n3-j ≤ gg ∧ i = .int .i64 j ∧ Aside (Ext w0 wr) ∧ Aside (∀ (a c:Nat) (x y:Int × Int),a < j → c < a → d.ends[a]? = some x → d.ends[c]? = some y → y ≠ x))
  case atStart=>exact ⟨0,by omega,by omega,rfl,(show Aside _ from Ext.refl _),(show Aside _ from fun a c x y ha=>absurd ha (Nat.not_lt_zero _))⟩
  case round=>
   obtain ⟨j,hj,hg,rfl,HE,HA⟩:=hrel;obtain ⟨a0,a1,a2,a3,a4,az⟩:=id (O0.out.ext HE.out)
   by_cases hlt:j < n3
   · have tk:decide ((j:Int) < (n3:Int))=true:=decide_eq_true (by omega);obtain ⟨v,hv⟩:=get_list (E:=d.ends) (j:=j) (by rw [H3.out];exact hlt);have HV:=Lib.hid hv;clear hv
     go_wp2_with fail
     go_loopg [4] (j+1) (fun gg i wr2=>∃ k:Nat,k ≤ j ∧ j+1-k ≤ gg ∧ i = .int .i64 k ∧ Aside (Ext w0 wr2) ∧ Aside (∀ (c:Nat) (y:Int × Int),c < k → d.ends[c]? = some y → y ≠ v))
     case atStart=>exact ⟨0,by omega,by omega,rfl,(show Aside _ from HE.out),(show Aside _ from fun c y hc=>absurd hc (Nat.not_lt_zero _))⟩
     case round=>
      obtain ⟨k,hk,hg2,rfl,HE2,HA2⟩:=hrel;clear a0 a1 a2 a3 a4 az;obtain ⟨a0,a1,a2,a3,a4,az⟩:=id (O0.out.ext HE2.out)
      by_cases hkj:k < j
      · have tk2:decide ((k:Int) < (j:Int))=true:=decide_eq_true (by omega);obtain ⟨y,hy⟩:=get_list (E:=d.ends) (j:=k) (by rw [H3.out];omega);have HY:=Lib.hid hy;obtain ⟨bb,o,hpe,hbb,hc⟩:=(H0.out.ext HE2.out).e.end_cells (by rw [H3.out];omega);obtain ⟨g1,g2⟩:=hc j v HV.out;obtain ⟨g3,g4⟩:=hc k y hy;rw [hpe] at a2;have EQ:=fun u=>eq_val y.1 y.2 v.1 v.2 u
        have kn:k < n3:=by omega
        clear hc hy hpe
        by_cases he:y=v
        · have hbf:b=false:=by
            cases b with
            | false=>rfl
            | true=>exact absurd (HB.out.1 rfl).ends (not_nodup hkj HV.out (he ▸ HY.out))
          subst hbf;simp only [he,decide_true] at EQ;subst he
          go_wp2_with fail
          go_region_o
          go_wp2;go_returns;exact ⟨rfl,E0.out.trans HE2.out.drew⟩
        · have ne:¬ (y.1,y.2)=(v.1,v.2):=fun e=>he (by have:=Prod.mk.inj e;exact Prod.ext this.1 this.2)
          simp only [decide_eq_false ne] at EQ;have HNE:=Lib.hid he;clear he ne
          go_wp2_with fail
          go_region_o
          go_wp2
          go_roundg (j+1-(k+1))
          case measure=>omega
          case rel=>
           refine ⟨k+1,by omega,by omega,by go_num,(show Aside _ from HE2.out.drew),(show Aside _ from fun c x hc hx=>?_)⟩
           by_cases e:c=k
           · subst e;rw [HY.out] at hx
             cases hx
             exact HNE.out
           · exact HA2.out c x (by omega) hx
      · have tk2:decide ((k:Int) < (j:Int))=false:=decide_eq_false (by omega);have hkj2:k=j:=by omega
        go_wp2_with fail
        go_roundg (n3-(j+1))
        case measure=>omega
        case rel=>
         refine ⟨j+1,by omega,by omega,by go_num,(show Aside _ from HE2.out),(show Aside _ from fun a c x y ha hc hx hy=>?_)⟩
         by_cases e:a=j
         · subst e;rw [HV.out] at hx
           cases hx
           exact HA2.out c y (by omega) hy
         · exact HA.out a c x y (by omega) hc hx hy
   · have tk:decide ((j:Int) < (n3:Int))=false:=decide_eq_false (by omega)
     have ND:=Lib.hid (nodup_of fun a c x y hca hx hy=>HA.out a c x y (by
      have:=(List.getElem?_eq_some_iff.1 hx).1;rw [H3.out] at this;omega) hca hx hy)
     clear HA
     go_wp2_with fail
     go_loopg [5] n4 (fun gg i wr2=>∃ j:Nat,j ≤ n4 ∧ n4-j ≤ gg ∧ i = .int .i64 j ∧ Aside (Ext w0 wr2) ∧ Aside (∀ (a c:Nat) (x y:Int × List Int),a < j → c < a → d.nodes[a]? = some x → d.nodes[c]? = some y → y ≠ x) ∧ Aside (∀ (a:Nat) (x:Int × List Int),a < j → d.nodes[a]? = some x → Nd.flat x.2=false))
     case atStart=>exact ⟨0,by omega,by omega,rfl,(show Aside _ from HE.out),(show Aside _ from fun a c x y ha=>absurd ha (Nat.not_lt_zero _)),(show Aside _ from fun a x ha=>absurd ha (Nat.not_lt_zero _))⟩
     case round=>
      obtain ⟨i,hi,hg,rfl,HE2,HA,HF⟩:=hrel;clear HE a0 a1 a2 a3 a4 az tk;obtain ⟨a0,a1,a2,a3,a4,az⟩:=id (O0.out.ext HE2.out)
      by_cases hlt2:i < n4
      · have tk:decide ((i:Int) < (n4:Int))=true:=decide_eq_true (by omega);obtain ⟨q,hq⟩:=get_list (E:=d.nodes) (j:=i) (by rw [H4.out];exact hlt2);obtain ⟨⟨kp,kc⟩,hk⟩:=get_list (E:=L.K) (j:=i) (by rw [H.out.kl,H4.out];exact hlt2);have HW:=Lib.hid (H0.out.ext HE2.out);obtain ⟨b0,o,hpn,hb0,hc⟩:=HW.out.node_cells (by rw [H4.out];omega);obtain ⟨g1,g2⟩:=hc i q _ hq hk;simp only at g2;rw [hpn] at a3;have SK:=Lib.hid (H.out.ks i q _ hq hk);have HQ:=Lib.hid hq;have HKK:=Lib.hid hk
        cases hfl:Nd.flat q.2 with
        | true=>
         have hbf:b=false:=by
          cases b with
          | false=>rfl
          | true=>
           have:=(HB.out.1 rfl).flat q (List.mem_of_getElem? hq);rw [hfl] at this
           cases this
         subst hbf;have FL:=Lib.hid (fun W (hE:Ext w W)=>dFlat (v:=q.1) (SK.out.ext hE) (show Hp.Hs.alike q.2=true from hfl));simp only at FL;have EX:=Lib.hid (E0.out.trans HE2.out);clear hc hq hk hpn hfl
         go_wp2_with (go_at_call 136;refine (FL.out _ (EX.out)).mono ?_;rintro e w1 ⟨rfl,hb1⟩;obtain ⟨hc1,hf1,hs1⟩:=hb1.cells)
         go_returns;exact ⟨rfl,EX.out.trans hb1⟩
        | false=>
         have FL:=Lib.hid (fun W (hE:Ext w W)=>dFlat (v:=q.1) (SK.out.ext hE) (show Hp.Hs.alike q.2=false from hfl));simp only at FL;have EX:=Lib.hid (E0.out.trans HE2.out);have HFL:=Lib.hid hfl;clear hc hq hk hpn hfl
         go_wp2_with (go_at_call 136;refine (FL.out _ (EX.out)).mono ?_;rintro e w1 ⟨rfl,hb1⟩;obtain ⟨hc1,hf1,hs1⟩:=hb1.cells)
         have HE3:=Lib.hid (HE2.out.trans hb1);clear hb1
         go_loopg [6] (i+1) (fun gg iv wr3=>∃ k:Nat,k ≤ i ∧ i+1-k ≤ gg ∧ iv = .int .i64 k ∧ Aside (Ext w0 wr3) ∧ Aside (∀ (c:Nat) (y:Int × List Int),c < k → d.nodes[c]? = some y → y ≠ q))
         case atStart=>exact ⟨0,by omega,by omega,rfl,(show Aside _ from HE3.out),(show Aside _ from fun c y hc=>absurd hc (Nat.not_lt_zero _))⟩
         case round=>
          obtain ⟨k,hk,hg2,rfl,HE4,HA2⟩:=hrel;clear a0 a1 a2 a3 a4 az g1 g2;obtain ⟨a0,a1,a2,a3,a4,az⟩:=id (O0.out.ext HE4.out)
          by_cases hkj:k < i
          · have tk2:decide ((k:Int) < (i:Int))=true:=decide_eq_true (by omega);obtain ⟨q',hq'⟩:=get_list (E:=d.nodes) (j:=k) (by rw [H4.out];omega);obtain ⟨⟨kp',kc'⟩,hk'⟩:=get_list (E:=L.K) (j:=k) (by rw [H.out.kl,H4.out];omega);have HW4:=Lib.hid (H0.out.ext HE4.out);obtain ⟨b4,o4,hpn,hb4,hc⟩:=HW4.out.node_cells (by rw [H4.out];omega);obtain ⟨g1,g2⟩:=hc i q _ HQ.out HKK.out;obtain ⟨k1,k2⟩:=hc k q' _ hq' hk';simp only at g2 k2;rw [hpn] at a3;have SK':=Lib.hid (H.out.ks k q' _ hq' hk');have HQ':=Lib.hid hq';have zg:=cell_lt a3;have kn:k < n4:=by omega
            obtain ⟨bs,hbs⟩:∃ bs,decide (q'.2=q.2)=bs:=⟨_,rfl⟩
            have SM:=Lib.hid (fun W (hE:Ext w W)=>dSame_is hbs (SK'.out.ext hE) (SK.out.ext hE));simp only at SM;have HBS:=Lib.hid hbs;have EX4:=Lib.hid (E0.out.trans HE4.out);clear hc hq' hk' hpn hbs
            by_cases he:q'.1=q.1
            · have t0:(q'.1 == q.1)=true:=by simpa using he
              have HE0:=Lib.hid he;clear he
              go_wp2_with fail
              have PR31:=Lib.hid (fun (ww:World) (hSw:Ext wr ww)=>And.intro ((hSw.cell zg 3).trans a3) (And.intro ((hSw.cell hb4 (o4+i * 2)).trans g1) (And.intro ((hSw.cell hb4 (o4+i * 2+1)).trans g2) (And.intro ((hSw.cell hb4 (o4+k * 2)).trans k1) ((hSw.cell hb4 (o4+k * 2+1)).trans k2)))));refine wp_region_seq (S:=fun W=>Ext wr W) (R:=Ext) (by kernel_rfl) Ext.refl ?_ ?_
              · exact exx
              refine' tkL 0 rfl ?h0_1 ?_
              case h0_1=>(intro w q;obtain ⟨a3',g1',g2',k1',k2'⟩:=PR31.out w q;go_simp;try with_reducible rfl)
              refine layy ?_;refine' tkL 1 rfl ?h1_2 ?_
              case h1_2=>(intro w q;obtain ⟨a3',g1',g2',k1',k2'⟩:=PR31.out w q;go_simp;try with_reducible rfl)
              refine layy ?_;refine' tkL 2 rfl ?h2_3 ?_
              case h2_3=>(intro w q;obtain ⟨a3',g1',g2',k1',k2'⟩:=PR31.out w q;go_simp;try with_reducible rfl)
              refine layy ?_;refine' tkL 3 rfl ?h3_4 ?_
              case h3_4=>(intro w q;obtain ⟨a3',g1',g2',k1',k2'⟩:=PR31.out w q;go_simp;try with_reducible rfl)
              refine layy ?_;refine' tkL 4 rfl ?h4_5 ?_
              case h4_5=>(intro w q;obtain ⟨a3',g1',g2',k1',k2'⟩:=PR31.out w q;go_simp;try with_reducible rfl)
              refine layy ?_;refine' tkL 5 rfl ?h5_6 ?_
              case h5_6=>(intro w q;obtain ⟨a3',g1',g2',k1',k2'⟩:=PR31.out w q;go_simp;try with_reducible rfl)
              refine layy ?_;refine' tkL 6 rfl ?h6_7 ?_
              case h6_7=>(intro w q;obtain ⟨a3',g1',g2',k1',k2'⟩:=PR31.out w q;go_simp;try with_reducible rfl)
              refine layy ?_;refine' tkL 7 rfl ?h7_8 ?_
              case h7_8=>(intro w q;obtain ⟨a3',g1',g2',k1',k2'⟩:=PR31.out w q;go_simp;try with_reducible rfl)
              refine layy ?_;refine' tkL 8 rfl ?h8_9 ?_
              case h8_9=>(intro w q;obtain ⟨a3',g1',g2',k1',k2'⟩:=PR31.out w q;go_simp;try with_reducible rfl)
              refine layy ?_;refine' tkL 9 rfl ?h9_10 ?_
              case h9_10=>(intro w q;obtain ⟨a3',g1',g2',k1',k2'⟩:=PR31.out w q;go_simp;try with_reducible rfl)
              refine layy ?_;refine' tkL 10 rfl ?h10_11 ?_
              case h10_11=>(intro w q;obtain ⟨a3',g1',g2',k1',k2'⟩:=PR31.out w q;go_simp;try with_reducible rfl)
              refine layy ?_;refine' tkL 11 rfl ?h11_12 ?_
              case h11_12=>(intro w q;obtain ⟨a3',g1',g2',k1',k2'⟩:=PR31.out w q;go_simp;try with_reducible rfl)
              refine layy ?_;refine' tkL 12 rfl ?h12_13 ?_
              case h12_13=>(intro w q;obtain ⟨a3',g1',g2',k1',k2'⟩:=PR31.out w q;go_simp;try with_reducible rfl)
              refine layy ?_;refine' tkL 13 rfl ?h13_14 ?_
              case h13_14=>(intro w q;obtain ⟨a3',g1',g2',k1',k2'⟩:=PR31.out w q;go_simp;try with_reducible rfl)
              refine layy ?_;refine' tkL 14 rfl ?h14_15 ?_
              case h14_15=>(intro w q;obtain ⟨a3',g1',g2',k1',k2'⟩:=PR31.out w q;go_simp;try with_reducible rfl)
              refine layy ?_;refine' tkL 15 rfl ?h15_16 ?_
              case h15_16=>(intro w q;obtain ⟨a3',g1',g2',k1',k2'⟩:=PR31.out w q;go_simp;try with_reducible rfl)
              refine layy ?_;refine' tkL 16 rfl ?h16_17 ?_
              case h16_17=>(intro w q;obtain ⟨a3',g1',g2',k1',k2'⟩:=PR31.out w q;go_simp;try with_reducible rfl)
              refine layy ?_;refine' tkL 17 rfl ?h17_18 ?_
              case h17_18=>(intro w q;obtain ⟨a3',g1',g2',k1',k2'⟩:=PR31.out w q;go_simp;try with_reducible rfl)
              refine layy ?_;refine' tkL 18 rfl ?h18_19 ?_
              case h18_19=>(intro w q;obtain ⟨a3',g1',g2',k1',k2'⟩:=PR31.out w q;go_simp;try with_reducible rfl)
              refine layy ?_;refine' tkL 19 rfl ?h19_20 ?_
              case h19_20=>(intro w q;obtain ⟨a3',g1',g2',k1',k2'⟩:=PR31.out w q;go_simp;try with_reducible rfl)
              refine layy ?_;refine' tkL 20 rfl ?h20_21 ?_
              case h20_21=>(intro w q;obtain ⟨a3',g1',g2',k1',k2'⟩:=PR31.out w q;go_simp;try with_reducible rfl)
              refine layy ?_;refine' tkL 21 rfl ?h21_22 ?_
              case h21_22=>(intro w q;obtain ⟨a3',g1',g2',k1',k2'⟩:=PR31.out w q;go_simp;try with_reducible rfl)
              refine layy ?_;refine' tkL 22 rfl ?h22_23 ?_
              case h22_23=>(intro w q;obtain ⟨a3',g1',g2',k1',k2'⟩:=PR31.out w q;go_simp;try with_reducible rfl)
              refine layy ?_;refine' tkL 23 rfl ?h23_24 ?_
              case h23_24=>(intro w q;obtain ⟨a3',g1',g2',k1',k2'⟩:=PR31.out w q;go_simp;try with_reducible rfl)
              refine layy ?_;refine' tkL 24 rfl ?h24_25 ?_
              case h24_25=>(intro w q;obtain ⟨a3',g1',g2',k1',k2'⟩:=PR31.out w q;go_simp;try with_reducible rfl)
              refine layy ?_;refine' tkL 25 rfl ?h25_26 ?_
              case h25_26=>(intro w q;obtain ⟨a3',g1',g2',k1',k2'⟩:=PR31.out w q;go_simp;try with_reducible rfl)
              refine layy ?_;refine' tkR 26 (v:=.bool bs) rfl (Or.inr ⟨by rfl,24,_, ?hx26_27, ?hy26_27⟩) ?rest26_27
              case hx26_27=>(intro w hSw;go_simp;try with_reducible rfl)
              case hy26_27=>exact fun w hE=>(SM.out _ (EX4.out.trans hE)).mono (fun _ _ h=>⟨h.1,h.2,Ext.trans hE h.2⟩)
              refine layy ?_;refine' tkL 27 rfl ?h27_28 ?_
              case h27_28=>(intro w q;obtain ⟨a3',g1',g2',k1',k2'⟩:=PR31.out w q;go_simp;try with_reducible rfl)
              refine layy ?_;refine wpAnyR_done (by kernel_rfl) ?_ _;intro x1 _ Ex1
              cases bs with
              | true=>
               have hqq:q'=q:=Prod.ext HE0.out (of_decide_eq_true HBS.out);have hbf:b=false:=by
                cases b with
                | false=>rfl
                | true=>exact absurd (HB.out.1 rfl).nodes (not_nodup hkj HQ.out (hqq ▸ HQ'.out))
               subst hbf;clear hqq
               go_wp2_with fail
               go_returns;exact ⟨rfl,EX4.out.trans Ex1⟩
              | false=>
               go_wp2_with fail
               go_roundg (i+1-(k+1))
               case measure=>omega
               case rel=>
                refine ⟨k+1,by omega,by omega,by go_num,(show Aside _ from HE4.out.trans Ex1),(show Aside _ from fun c x hc hx=>?_)⟩
                by_cases e:c=k
                · subst e;rw [HQ'.out] at hx
                  cases hx
                  intro e;exact (of_decide_eq_false HBS.out) (by rw [e])
                · exact HA2.out c x (by omega) hx
            · have t0:(q'.1 == q.1)=false:=by simpa using he
              have HE0:=Lib.hid he;clear he
              go_wp2_with fail
              have PR32:=Lib.hid (fun (ww:World) (hSw:Ext wr ww)=>And.intro ((hSw.cell zg 3).trans a3) (And.intro ((hSw.cell hb4 (o4+i * 2)).trans g1) ((hSw.cell hb4 (o4+k * 2)).trans k1)));refine wp_region_seq (S:=fun W=>Ext wr W) (R:=Ext) (by kernel_rfl) Ext.refl ?_ ?_
              · exact exx
              refine' tkL 0 rfl ?h0_29 ?_
              case h0_29=>(intro w q;obtain ⟨a3',g1',k1'⟩:=PR32.out w q;go_simp;try with_reducible rfl)
              refine layy ?_;refine' tkL 1 rfl ?h1_30 ?_
              case h1_30=>(intro w q;obtain ⟨a3',g1',k1'⟩:=PR32.out w q;go_simp;try with_reducible rfl)
              refine layy ?_;refine' tkL 2 rfl ?h2_31 ?_
              case h2_31=>(intro w q;obtain ⟨a3',g1',k1'⟩:=PR32.out w q;go_simp;try with_reducible rfl)
              refine layy ?_;refine' tkL 3 rfl ?h3_32 ?_
              case h3_32=>(intro w q;obtain ⟨a3',g1',k1'⟩:=PR32.out w q;go_simp;try with_reducible rfl)
              refine layy ?_;refine' tkL 4 rfl ?h4_33 ?_
              case h4_33=>(intro w q;obtain ⟨a3',g1',k1'⟩:=PR32.out w q;go_simp;try with_reducible rfl)
              refine layy ?_;refine' tkL 5 rfl ?h5_34 ?_
              case h5_34=>(intro w q;obtain ⟨a3',g1',k1'⟩:=PR32.out w q;go_simp;try with_reducible rfl)
              refine layy ?_;refine' tkL 6 rfl ?h6_35 ?_
              case h6_35=>(intro w q;obtain ⟨a3',g1',k1'⟩:=PR32.out w q;go_simp;try with_reducible rfl)
              refine layy ?_;refine' tkL 7 rfl ?h7_36 ?_
              case h7_36=>(intro w q;obtain ⟨a3',g1',k1'⟩:=PR32.out w q;go_simp;try with_reducible rfl)
              refine layy ?_;refine' tkL 8 rfl ?h8_37 ?_
              case h8_37=>(intro w q;obtain ⟨a3',g1',k1'⟩:=PR32.out w q;go_simp;try with_reducible rfl)
              refine layy ?_;refine' tkL 9 rfl ?h9_38 ?_
              case h9_38=>(intro w q;obtain ⟨a3',g1',k1'⟩:=PR32.out w q;go_simp;try with_reducible rfl)
              refine layy ?_;refine' tkL 10 rfl ?h10_39 ?_
              case h10_39=>(intro w q;obtain ⟨a3',g1',k1'⟩:=PR32.out w q;go_simp;try with_reducible rfl)
              refine layy ?_;refine' tkL 11 rfl ?h11_40 ?_
              case h11_40=>(intro w q;obtain ⟨a3',g1',k1'⟩:=PR32.out w q;go_simp;try with_reducible rfl)
              refine layy ?_;refine' tkL 12 rfl ?h12_41 ?_
              case h12_41=>(intro w q;obtain ⟨a3',g1',k1'⟩:=PR32.out w q;go_simp;try with_reducible rfl)
              refine layy ?_;refine' tkL 13 rfl ?h13_42 ?_
              case h13_42=>(intro w q;obtain ⟨a3',g1',k1'⟩:=PR32.out w q;go_simp;try with_reducible rfl)
              refine layy ?_;refine' tkR 14 (v:=undef) rfl (Or.inl (Or.inr ⟨by rfl,rfl⟩)) ?rest14_43;refine layy ?_;refine' tkR 15 (v:=undef) rfl (Or.inl (Or.inr ⟨by rfl,rfl⟩)) ?rest15_44;refine layy ?_;refine' tkR 16 (v:=undef) rfl (Or.inl (Or.inr ⟨by rfl,rfl⟩)) ?rest16_45;refine layy ?_;refine' tkR 17 (v:=undef) rfl (Or.inl (Or.inr ⟨by rfl,rfl⟩)) ?rest17_46;refine layy ?_;refine' tkR 18 (v:=undef) rfl (Or.inl (Or.inr ⟨by rfl,rfl⟩)) ?rest18_47;refine layy ?_;refine' tkR 19 (v:=undef) rfl (Or.inl (Or.inr ⟨by rfl,rfl⟩)) ?rest19_48;refine layy ?_;refine' tkR 20 (v:=undef) rfl (Or.inl (Or.inr ⟨by rfl,rfl⟩)) ?rest20_49;refine layy ?_;refine' tkR 21 (v:=undef) rfl (Or.inl (Or.inr ⟨by rfl,rfl⟩)) ?rest21_50;refine layy ?_;refine' tkR 22 (v:=undef) rfl (Or.inl (Or.inr ⟨by rfl,rfl⟩)) ?rest22_51;refine layy ?_;refine' tkR 23 (v:=undef) rfl (Or.inl (Or.inr ⟨by rfl,rfl⟩)) ?rest23_52;refine layy ?_;refine' tkR 24 (v:=undef) rfl (Or.inl (Or.inr ⟨by rfl,rfl⟩)) ?rest24_53;refine layy ?_;refine' tkR 25 (v:=undef) rfl (Or.inl (Or.inr ⟨by rfl,rfl⟩)) ?rest25_54;refine layy ?_;refine' tkR 26 (v:=undef) rfl (Or.inl (Or.inr ⟨by rfl,rfl⟩)) ?rest26_55;refine layy ?_;refine' tkL 27 rfl ?h27_56 ?_
              case h27_56=>(intro w q;obtain ⟨a3',g1',k1'⟩:=PR32.out w q;go_simp;try with_reducible rfl)
              refine layy ?_;refine wpAnyR_done (by kernel_rfl) ?_ _;intro x1 _ Ex1
              go_wp2_with fail
              go_roundg (i+1-(k+1))
              case measure=>omega
              case rel=>
               refine ⟨k+1,by omega,by omega,by go_num,(show Aside _ from HE4.out.trans Ex1),(show Aside _ from fun c x hc hx=>?_)⟩
               by_cases e:c=k
               · subst e;rw [HQ'.out] at hx
                 cases hx
                 intro e;exact HE0.out (by rw [e])
               · exact HA2.out c x (by omega) hx
          · have tk2:decide ((k:Int) < (i:Int))=false:=decide_eq_false (by omega);have hki:k=i:=by omega
            go_wp2_with fail
            go_roundg (n4-(i+1))
            case measure=>omega
            case rel=>
             refine ⟨i+1,by omega,by omega,by go_num,(show Aside _ from HE4.out),(show Aside _ from fun a c x y ha hc hx hy=>?_),(show Aside _ from fun a x ha hx=>?_)⟩
             · by_cases e:a=i
               · subst e;rw [HQ.out] at hx
                 cases hx
                 exact HA2.out c y (by omega) hy
               · exact HA.out a c x y (by omega) hc hx hy
             · by_cases e:a=i
               · subst e;rw [HQ.out] at hx
                 cases hx
                 exact HFL.out
               · exact HF.out a x (by omega) hx
      · have tk:decide ((i:Int) < (n4:Int))=false:=decide_eq_false (by omega);have hin:∀ (a:Nat) (x:Int × List Int),d.nodes[a]? = some x → a < i:=fun a x hx=>by
         have:=(List.getElem?_eq_some_iff.1 hx).1;rw [H4.out] at this;omega
        have OC:Nd.Once d:=⟨ND.out,nodup_of fun a c x y hca hx hy=>HA.out a c x y (hin a x hx) hca hx hy,fun x hx=>by
         obtain ⟨a,ha⟩:=List.mem_iff_getElem?.1 hx;exact HF.out a x (hin a x ha) ha⟩
        have OC:=Lib.hid OC;have EX:=Lib.hid (E0.out.trans HE2.out);clear HA HF ND hin;obtain ⟨u,hu⟩:∃ u,d.srch (n4+1) rt ([],[])=u:=⟨_,rfl⟩
        rw [hu] at SE BL;have blen:=BL.out;obtain ⟨x1,hx1⟩:∃ x,decide (u.1=Nd.upto n4)=x:=⟨_,rfl⟩
        obtain ⟨x2,hx2⟩:∃ x,decide (u.2=Nd.upto n3)=x:=⟨_,rfl⟩
        have hbx:b=(x1 && x2):=by
         have e1:d.Is ↔ u=(Nd.upto n4,Nd.upto n3):=by
          constructor
          · intro h;have:=h.search;rw [H3.out,H4.out,HR.out,hu] at this;exact this
          · intro e;refine { OC.out with search:=?_ };rw [H3.out,H4.out,HR.out,hu];exact e
         have e2:b=true ↔ u=(Nd.upto n4,Nd.upto n3):=HB.out.trans e1
         rw [← hx1,← hx2]
         by_cases h1:u.1=Nd.upto n4
         · by_cases h2:u.2=Nd.upto n3
           · rw [e2.2 (Prod.ext h1 h2),decide_eq_true h1,decide_eq_true h2];rfl
           · rw [decide_eq_false h2,Bool.and_false]
             cases b with
             | false=>rfl
             | true=>exact absurd (congrArg Prod.snd (e2.1 rfl)) h2
         · rw [decide_eq_false h1,Bool.false_and]
           cases b with
           | false=>rfl
           | true=>exact absurd (congrArg Prod.fst (e2.1 rfl)) h1
        have HX1:=Lib.hid hx1;have HX2:=Lib.hid hx2;have OW:=Lib.hid (O0.out.ext HE2.out);clear hu hx1 hx2 blen a0 a1 a2 a3 a4 az;obtain ⟨a0,a1,a2,a3,a4,az⟩:=id OW.out;subst hbx
        cases x1 with
        | false=>
         go_wp2_with (first
          | (go_at_call 154;refine (SE.out _ EX.out).mono ?_;rintro e w1 ⟨q1,c1,q2,c2,rfl,hT⟩;have T:=Lib.hid hT;have O1:=Lib.hid (OW.out.ext hT.ext0);obtain ⟨b0,b1,b2,b3,b4,bz⟩:=id O1.out;clear hT)
          | (go_at_call 155;refine (rising_at T.out.r1.at_ n4 HX1.out).mono ?_;rintro e w8 ⟨rfl,hb8⟩;have c2':=(hb8.cell (cell_lt b2) 2).trans b2))
         go_returns;exact ⟨rfl,(EX.out.trans T.out.ext0).trans hb8⟩
        | true=>
         go_wp2_with (first
          | (go_at_call 154;refine (SE.out _ EX.out).mono ?_;rintro e w1 ⟨q1,c1,q2,c2,rfl,hT⟩;have T:=Lib.hid hT;have O1:=Lib.hid (OW.out.ext hT.ext0);obtain ⟨b0,b1,b2,b3,b4,bz⟩:=id O1.out;clear hT)
          | (have _t:=hb8;go_at_call 155;refine (rising_at (T.out.r2.at_.ext hb8) n3 HX2.out).mono ?_;rintro e w9 ⟨rfl,hb9⟩)
          | (go_at_call 155;refine (rising_at T.out.r1.at_ n4 HX1.out).mono ?_;rintro e w8 ⟨rfl,hb8⟩;have c2':=(hb8.cell (cell_lt b2) 2).trans b2))
         go_returns;exact ⟨rfl,((EX.out.trans T.out.ext0).trans hb8).trans hb9⟩
theorem looseB_low {d:Nd.Dia} (h:looseB d=true):d.Low ∧ d.Ref d.root d.nodes.length:=by
 unfold looseB at h
 simp only [Bool.and_eq_true,List.all_eq_true,List.mem_range] at h
 obtain ⟨⟨h1,h2⟩,h3⟩:=h
 refine ⟨fun i hi k hk=>?_,refB_iff.1 h3⟩
 have:=h2 i hi
 unfold branchB at this
 simp only [Bool.and_eq_true,List.all_eq_true] at this
 have:=this.2 k hk
 unfold kidB at this
 simp only [Bool.and_eq_true] at this
 exact refB_iff.1 this.1
def looseE (d:Nd.Dia):Int:=if Hp.frameErr d.sizes d.order ≠ 0 then Hp.frameErr d.sizes d.order else if looseB d=true then 0 else 4
open Classical in
noncomputable def checkE (d:Nd.Dia):Int:=if looseE d ≠ 0 then looseE d else if d.Is then 0 else 4
structure DgNum (d:Nd.Dia):Prop where
 f:∀ v ∈ d.ends,0 ≤ v.1
 el:d.ends.length ≤ 1000000
 nl:d.nodes.length ≤ 6000
 kids:∀ q ∈ d.nodes,∀ k ∈ q.2,-9223372036854775808 ≤ k ∧ k ≤ 9223372036854775807
 root : -9223372036854775808 ≤ d.root ∧ d.root ≤ 9223372036854775807
theorem DgNum.in_ {d:Nd.Dia} (h:DgNum d) (hf:Hp.frameErr d.sizes d.order=0):DgIn d:=
 ⟨(Hp.frameErr_ok hf).1.toFr.few,h.el,by have:=h.nl;omega,h.f,h.kids,h.root⟩
set_option maxHeartbeats 8000000 in
theorem dCheckLoose {w:World} {L:DgL} {d:Nd.Dia} (h:DgRd w L d.sizes d.order d.ends d.nodes) (hN:DgNum d) :
    Calls Tryz.prog 98 #[dgV L d.sizes.length d.order.length d.ends.length d.nodes.length d.root] w fun e w'=>e = .returned (.int .i64 (looseE d)) ∧ Ext w w':=by
  have H:=Lib.hid h;have CF:=Lib.hid (fun W (hE:Ext w W)=>dCheckFrame (h.s.ext hE) (h.o.ext hE));have nl:=hN.nl;have l4:=h.n.le;rw [zip_nodeC_len h.kl] at l4
  by_cases hfe:Hp.frameErr d.sizes d.order=0
  · have LO:=Lib.hid (fun W (hE:Ext w W)=>dIsLoose (h.ext hE) (hN.in_ hfe));rw [hfe] at CF;have e:looseE d=if looseB d=true then 0 else 4:=by unfold looseE;rw [if_neg (by omega)]
    have HEQ:=Lib.hid e;unfold dgV DgL.cells at LO ⊢;clear h hN hfe e;generalize d.sizes.length=n1 at *;generalize d.order.length=n2 at *;generalize d.ends.length=n3 at *;generalize d.nodes.length=n4 at *;generalize d.root=rt at *;generalize looseE d=res at *;have tn:decide ((n4:Int) > 6000)=false:=decide_eq_false (by omega)
    cases hlb:looseB d with
    | true=>
     rw [hlb] at LO;have e:=HEQ.out;rw [hlb,if_pos rfl] at e;subst e;clear HEQ hlb;go_enter Tryz.func98,Tryz.ntmps98
     go_wp2_with (first
      | (go_at_call 57;refine (CF.out _ (exx)).mono ?_;rintro e w1 ⟨rfl,hb1⟩;obtain ⟨hc1,hf1,hs1⟩:=hb1.cells)
      | (go_at_call 153;refine (LO.out _ (exx)).mono ?_;rintro e w2 ⟨rfl,hb2⟩;obtain ⟨hc2,hf2,hs2⟩:=hb2.cells))
     go_returns;exact ⟨rfl,exx⟩
    | false=>
     rw [hlb] at LO;have e:=HEQ.out;rw [hlb,if_neg (by simp)] at e;subst e;clear HEQ hlb;go_enter Tryz.func98,Tryz.ntmps98
     go_wp2_with (first
      | (go_at_call 57;refine (CF.out _ (exx)).mono ?_;rintro e w1 ⟨rfl,hb1⟩;obtain ⟨hc1,hf1,hs1⟩:=hb1.cells)
      | (go_at_call 153;refine (LO.out _ (exx)).mono ?_;rintro e w2 ⟨rfl,hb2⟩;obtain ⟨hc2,hf2,hs2⟩:=hb2.cells))
     go_returns;exact ⟨rfl,exx⟩
  · have e:looseE d=Hp.frameErr d.sizes d.order:=by unfold looseE;rw [if_pos hfe]
    rw [e];have t0:(Hp.frameErr d.sizes d.order != 0)=true:=by simpa using hfe
    clear h hN e;unfold dgV DgL.cells;generalize Hp.frameErr d.sizes d.order=fe at *;generalize d.sizes.length=n1 at *;generalize d.order.length=n2 at *;generalize d.ends.length=n3 at *;generalize d.nodes.length=n4 at *;generalize d.root=rt at *;clear hfe;go_enter Tryz.func98,Tryz.ntmps98
    go_wp2_with (go_at_call 57;refine (CF.out _ (exx)).mono ?_;rintro e w1 ⟨rfl,hb1⟩;obtain ⟨hc1,hf1,hs1⟩:=hb1.cells)
    go_returns;exact ⟨rfl,exx⟩
set_option maxHeartbeats 8000000 in
theorem dCheck {w:World} {L:DgL} {d:Nd.Dia} (h:DgRd w L d.sizes d.order d.ends d.nodes) (hN:DgNum d) :
    Calls Tryz.prog 35 #[dgV L d.sizes.length d.order.length d.ends.length d.nodes.length d.root] w fun e w'=>e = .returned (.int .i64 (checkE d)) ∧ Ext w w':=by
  classical
  have H:=Lib.hid h;have CL:=Lib.hid (fun W (hE:Ext w W)=>dCheckLoose (h.ext hE) hN)
  by_cases hle:looseE d=0
  · rw [hle] at CL;have hfe:Hp.frameErr d.sizes d.order=0:=by
     unfold looseE at hle
     split at hle
     · exact hle
     · rename_i h
       simpa using h
    have hlb:looseB d=true:=by
     unfold looseE at hle;rw [if_neg (by omega)] at hle
     split at hle
     · assumption
     · cases hle
    obtain ⟨hL,hR⟩:=looseB_low hlb;have DI:=Lib.hid (fun W (hE:Ext w W)=>dIsDiagram (b:=decide d.Is) (h.ext hE) (hN.in_ hfe) hL hR (by simp));have e:checkE d=if d.Is then 0 else 4:=by unfold checkE;rw [if_neg (by omega)]
    have HEQ:=Lib.hid e;unfold dgV DgL.cells at CL DI ⊢;clear h hN hfe e hle hlb hL hR;generalize d.sizes.length=n1 at *;generalize d.order.length=n2 at *;generalize d.ends.length=n3 at *;generalize d.nodes.length=n4 at *;generalize d.root=rt at *;generalize checkE d=res at *
    by_cases hI:d.Is
    · simp only [decide_eq_true hI] at DI;have e:=HEQ.out;rw [if_pos hI] at e;subst e;clear HEQ hI;go_enter Tryz.func35,Tryz.ntmps35
      go_wp2_with (first
       | (go_at_call 98;refine (CL.out _ (exx)).mono ?_;rintro e w1 ⟨rfl,hb1⟩;obtain ⟨hc1,hf1,hs1⟩:=hb1.cells)
       | (go_at_call 99;refine (DI.out _ (exx)).mono ?_;rintro e w2 ⟨rfl,hb2⟩;obtain ⟨hc2,hf2,hs2⟩:=hb2.cells))
      go_returns;exact ⟨rfl,exx⟩
    · simp only [decide_eq_false hI] at DI;have e:=HEQ.out;rw [if_neg hI] at e;subst e;clear HEQ hI;go_enter Tryz.func35,Tryz.ntmps35
      go_wp2_with (first
       | (go_at_call 98;refine (CL.out _ (exx)).mono ?_;rintro e w1 ⟨rfl,hb1⟩;obtain ⟨hc1,hf1,hs1⟩:=hb1.cells)
       | (go_at_call 99;refine (DI.out _ (exx)).mono ?_;rintro e w2 ⟨rfl,hb2⟩;obtain ⟨hc2,hf2,hs2⟩:=hb2.cells))
      go_returns;exact ⟨rfl,exx⟩
  · have e:checkE d=looseE d:=by unfold checkE;rw [if_pos hle]
    rw [e];have t0:(looseE d != 0)=true:=by simpa using hle
    clear h hN e;unfold dgV DgL.cells at CL ⊢;generalize looseE d=fe at *;generalize d.sizes.length=n1 at *;generalize d.order.length=n2 at *;generalize d.ends.length=n3 at *;generalize d.nodes.length=n4 at *;generalize d.root=rt at *;clear hle;go_enter Tryz.func35,Tryz.ntmps35
    go_wp2_with (go_at_call 98;refine (CL.out _ (exx)).mono ?_;rintro e w1 ⟨rfl,hb1⟩;obtain ⟨hc1,hf1,hs1⟩:=hb1.cells)
    go_returns;exact ⟨rfl,exx⟩
end Go.Proofs.YtdokmmhjmclmnaaGreat
