/-
  Part 31 of a proof: VR2 VR4.
-/
import Derived.Test.YtdokmmhjmclmnaaGreatMV17
import Derived.Test.YtdokmmhjmclmnaaGreatMV29
import Derived.Test.YtdokmmhjmclmnaaGreatMV30
set_option linter.unusedSimpArgs false
set_option linter.unusedVariables false
set_option linter.unusedSectionVars false
set_option linter.unnecessarySimpa false
namespace Go.Proofs.YtdokmmhjmclmnaaGreat
variable {W' w w' w0 wb:World} {B a b base c cap ce cn f g gb i j k lb m n oc s sc:Nat} {choice t x:Int} {G W fs l o xs z:List Int} {L:List Hp.Tl} {r:Rd} {S S':Hp.Hs} {A N T:List Nat} {M:List (Nat × Int)} {op p pe pn q sp:Option Addr} {d:Hd} {acts:List Hp.Act'}
open Go.RowKit Go.Maps
def cellsTo (d:Nd.Dia) (z:List Int) (k:Nat):List (Int × Int):=(List.range k).map fun n:Nat=>d.cellAt (nth z (n:Int))
theorem cellsTo_succ (d:Nd.Dia) (z:List Int) (k:Nat):cellsTo d z (k+1)=cellsTo d z k ++ [d.cellAt (nth z (k:Int))]:=by
 unfold cellsTo
 rw [List.range_succ,List.map_append]
 rfl
theorem cellsTo_len (d:Nd.Dia) (z:List Int) (k:Nat):(cellsTo d z k).length=k:=by simp [cellsTo]
theorem cellsTo_get (d:Nd.Dia) (z:List Int) (h:n < k):(cellsTo d z k).getD n (0,0)=d.cellAt (nth z (n:Int)):=by
 unfold cellsTo
 rw [List.getD_eq_getElem?_getD,List.getElem?_map,List.getElem?_range h]
 rfl
set_option maxRecDepth 100000 in
set_option maxHeartbeats 16000000 in
theorem rDiagram {ch:Nat->List Nat} (h:RAt w r S) (hw:Hp.Wf S B L ch) {D:Hp.Dg} (ha:a ∈ S.taken) (hd:S.diagram a=some (x,D)) (hps:r.sp=none->r.sc=0) (hpo:r.op=none->r.oc=0) (hpm:Hp.prodM S.sizes=prod S.sizes) (hpr:prod S.sizes<=2000) (hwt:Nd.wt S.sizes S.order<=14000) :
    Calls Tryz.prog 29 #[.pointer (some ⟨r.rb,0,none⟩),.int .i64 a] w fun e w'=>∃ Lg:DgL,e = .returned (dgV Lg S.sizes.length S.order.length D.ends.length D.nodes.length x)/\DgRd w' Lg S.sizes S.order D.ends D.nodes/\Ext w w':=by
  obtain ⟨A,N,h1,h2,h3,h4,h5,h6⟩:=Nd.diagram_dia hw ha hd;have H:=hZ h;have HW:=hZ hw;have HDG:=hZ h1;have HAD:=hZ h2;have HLO:=hZ h5;have HIS:=hZ h6;have HPS:=hZ hps;have HPO:=hZ hpo;have HWT:=hZ hwt;have hz1:∀ s ∈ S.sizes,1<=s:=fun s hs=>(hw.fr.pos s hs).1
  have HZ1:=hZ hz1;have hp1:=prod_pos hz1;obtain ⟨M,hM⟩:∃ M:Nat,prod S.sizes=(M:Int):=⟨(prod S.sizes).toNat,by omega⟩
  rw [hM] at hpm hpr hp1;have HM:=hZ hM;have few:=hw.fr.few;have hlt:=h.lt;have c0:=h.c0;have c1:=h.c1;have MANY:=hZ (fun W (hE:Ext w W)=>dMany (h.sizes.ext hE) (fun s hs=>hw.fr.pos s hs));rw [hpm] at MANY;have NTH:=hZ (fun (k:Nat) (hk:k<=2000) W (hE:Ext w W)=>dNth (n:=(k:Int)) (h.sizes.ext hE) hz1 (by omega) (by omega) (by omega));have VAL:=hZ (fun (p:List Int) (hp:InPl S.sizes p) q qc W (hE:Ext w W) (hq:SliceAt W q qc p)=>by
   have:=rValue (h.ext hE) hw h1 h5 h3 h4 hq hp;rw [h2] at this;exact this)
  obtain ⟨d,hdd⟩:∃ d,Nd.dia S x D=d:=⟨_,rfl⟩
  have HDD:=hZ hdd;rw [hdd] at VAL HLO HIS;obtain ⟨ns,hns⟩:∃ n,S.sizes.length=n:=⟨_,rfl⟩
  obtain ⟨no,hno⟩:∃ n,S.order.length=n:=⟨_,rfl⟩
  have HNS:=hZ hns;have HNO:=hZ hno;rw [hns] at few c0 MANY NTH ⊢;rw [hno] at c1 ⊢;have mixed:Tryz.prog.follows .mixedOrders=true:=by kernel_rfl
  clear h hw ha hd hps hpo hpm hwt hz1 hM h1 h2 h3 h4 h5 h6 hdd hns hno;go_enter Tryz.func29,Tryz.ntmps29
  go_wp2_with fail
  refine cut_world (F:=fun W=>Hid (Ext w W)/\Hid (Own5 W w.heap.size (.slice none 0 0) (.slice none 0 0) (.slice none 0 0) (.slice none 0 0) (.int .i64 0))) ⟨hZ (exx),hZ ⟨by go_simp,by go_simp,by go_simp,by go_simp,by go_simp,fun o=>by go_simp⟩⟩ ?_;rintro w0 ⟨E0,OR0⟩;obtain ⟨gr,hgr⟩:∃ g,w.heap.size=g:=⟨_,rfl⟩
  have HGR:=hZ hgr;rw [hgr] at OR0 ⊢;clear hgr
  go_loopg [5,6] M (fun g ov iv wr=>∃ (k:Nat) (p:Option Addr) (c:Nat),k<=M/\M-k<=g/\ov = .slice p k c/\iv = .int .i64 k/\Hid (RowN wr 2 43 p c ((cellsTo d S.sizes k).map endC))/\Hid (∀ b ∈ blk p,w0.heap.size<=b)/\Hid (Ext w0 wr))
  case atStart=>exact ⟨0,none,0,Nat.zero_le _,by omega,rfl,rfl,hZ (RowN.nil _ _ _),hZ (by simp [blk]),hZ (Ext.refl _)⟩
  case round=>
   obtain ⟨k,p,c,hk,hg,rfl,rfl,RK,BK,E⟩:=hrel;have EW:=hZ (E0.out.trans E.out);have c0w:=(EW.out.cell hlt 0).trans c0;have z0w:=cell_lt c0w;have MN:=hZ (MANY.out _ EW.out)
   by_cases hlt2:k < M
   . have tk:decide ((k:Int) < (M:Int))=true:=dT;have NT:=hZ (NTH.out k (by omega));obtain ⟨⟨cf,cn⟩,hcell⟩:∃ v,d.cellAt (nth S.sizes (k:Int))=v:=⟨_,rfl⟩
     have VA:=VAL.out (nth S.sizes (k:Int)) (nth_in HZ1.out _);rw [hcell,nth_len,HNS.out] at VA;have VAH:=hZ VA;have HCL:=hZ hcell;have klen:((cellsTo d S.sizes k).map endC).length=k:=by rw [List.length_map,cellsTo_len]
     have kfew:k < 10000000:=by omega
     have ns6:ns<=9223372036854775807:=by omega
     have NL:Hid ((nth S.sizes (k:Int)).length<=ns):=hZ (by rw [nth_len,HNS.out];exact Nat.le_refl _);clear VA hcell
     go_wp2_with (first
      | (go_at_call 89;refine MN.out.mono ?_;rintro e w2 ⟨rfl,hE2⟩;have E2:=hZ (EW.out.trans hE2);have c02:=(hE2.cell z0w 0).trans c0w)
      | (go_at_call 91;refine (NT.out _ E2.out).mono ?_;rintro e w3 ⟨g3,rfl,hW3,hg3,hE3⟩;have E3:=hZ (E2.out.trans hE3);have S3:=hZ (hW3.slice NL.out ns6))
      | (go_at_call 90;refine (VAH.out _ _ _ E3.out S3.out).mono ?_;rintro e w4 ⟨rfl,hE4⟩;have X4:=hZ (hE2.trans (hE3.trans hE4));have XA:Ext wr (w4.alloc (.cells #[.int .u8 cf,.int .i64 cn] 43)):=X4.out.alloc _;have R4:=RK.out.ext XA)
      | (at_builtin;refine wpList_append_N rfl _ _ 46 43 rfl (z:=.agg #[.int .u8 0,.int .i64 0]) (n:=2) (bytes:=16) Tryz.underlying46 (by kernel_rfl) rfl (by decide) (by decide) (m:=k) klen rfl rfl R4 (y:=endC (cf,cn)) rfl (cells2 (by go_simp) (by go_simp)) (by simp [endC,Value.oneCell']) kfew ?_;intro g9 cap w9 row hR hG hrow hg9 hlt9))
     have k2:But (blk p) (w4.alloc (.cells #[.int .u8 cf,.int .i64 cn] 43)) w9:=⟨hG.os,hG.tape,hG.output,hG.size,fun j hj hn=>hG.block j hj fun e=>hn (by rw [hrow j e.symm];simp [blk])⟩
     have E9:=hZ (k2.toExt (E.out.trans XA) BK.out);have B9:Hid (∀ b ∈ blk (some (⟨g9,0,none⟩:Addr)),w0.heap.size<=b):=hZ (fun b hb=>by
      have e:b=g9:=by simpa [blk] using hb
      subst e
      rcases hg9 with h | h
      . exact BK.out b (by rw [h];simp [blk])
      . rw [h];exact (E.out.trans XA).le)
     have R9:Hid (RowN w9 2 43 (some ⟨g9,0,none⟩) cap ((cellsTo d S.sizes (k+1)).map endC)):=hZ (by rw [cellsTo_succ,List.map_append,HCL.out];exact hR)
     go_roundg (M-(k+1))
     case measure=>omega
     case rel=>exact ⟨k+1,some ⟨g9,0,none⟩,cap,by omega,Nat.le_refl _,rfl,by go_num,R9,B9,E9⟩
   have:k=M:=by omega
   subst this;have tk:decide ((k:Int) < (k:Int))=false:=dF;go_upto_region 6 with (go_at_call 89;refine MN.out.mono ?_;rintro e w2 ⟨rfl,hE2⟩)
   have E2:=hZ (EW.out.trans hE2);have OR2:=hZ (OR0.out.ext (E.out.trans hE2));have RK2:=hZ (RK.out.ext hE2);clear RK BK MN E;have c02:=(E2.out.cell hlt 0).trans c0;have c12:=(E2.out.cell hlt 1).trans c1;have OF:=hZ (fun W (hE:Ext w2 W)=>dOf ((H.out.ext (E2.out.trans hE)).sizes) ((H.out.ext (E2.out.trans hE)).order) HPS.out HPO.out ((RK2.out.ext hE).rd) HW.out.fr (by rw [cellsTo_len,HM.out];exact Int.le_refl _) (by rw [cellsTo_len];omega) HWT.out);have hofd:ofD_ S.sizes S.order (cellV S.sizes (cellsTo d S.sizes k))=d:=by
    have:=Nd.diagram_list (x:=x) (D:=D) HW.out (by rw [HDD.out];exact HLO.out) (by rw [HDD.out];exact HIS.out) (l:=cellsTo d S.sizes k) fun n hn=>by
     rw [HDD.out];exact cellsTo_get d S.sizes (by rw [HM.out] at hn;omega)
    rw [HDD.out] at this;exact this
   have hde:d.ends=D.ends/\d.nodes=D.nodes/\d.root=x:=by
    rw [<- HDD.out];exact ⟨rfl,rfl,rfl⟩
   rw [hofd,HNS.out,HNO.out,cellsTo_len,hde.1,hde.2.1,hde.2.2] at OF;clear hofd hde;have PR77:=hZ (fun (ww:World) (hSw:Ext w ww)=>And.intro ((hSw.cell hlt 0).trans c0) ((hSw.cell hlt 1).trans c1));refine wp_region_seq (S:=fun W=>Ext w W) (R:=Eq) (by kernel_rfl) (fun _=>rfl) E2.out.drew ?_;have E3:=hZ (show Ext w2 w2.drew from Ext.drew (Ext.refl w2));have OR3:=hZ (OR2.out.ext E3.out);have HGW:Hid (gr < w2.drew.heap.size):=hZ (cell_lt OR3.out.1);generalize w2.drew=w3 at *;refine' wpAnyR_take (i:=0) (v:=?v0_1910) (fun _=>rfl) (fun _ _ _ h k=>h.trans k) rfl (by kernel_rfl) (by kernel_rfl) (by kernel_rfl) (fun _ _ _ h=>h) (Or.inl (Or.inl ⟨by rfl, ?hy0_1910⟩)) ?rest0_1910
   case hy0_1910=>(intro w q;obtain ⟨k0,k1⟩:=PR77.out w q;go_simp;try with_reducible rfl)
   refine layy ?_;refine' wpAnyR_take (i:=1) (v:=?v1_1911) (fun _=>rfl) (fun _ _ _ h k=>h.trans k) rfl (by kernel_rfl) (by kernel_rfl) (by kernel_rfl) (fun _ _ _ h=>h) (Or.inl (Or.inl ⟨by rfl, ?hy1_1911⟩)) ?rest1_1911
   case hy1_1911=>(intro w q;obtain ⟨k0,k1⟩:=PR77.out w q;go_simp;try with_reducible rfl)
   refine layy ?_;refine' wpAnyR_take (i:=2) (v:=?v2_1912) (fun _=>rfl) (fun _ _ _ h k=>h.trans k) rfl (by kernel_rfl) (by kernel_rfl) (by kernel_rfl) (fun _ _ _ h=>h) (Or.inl (Or.inl ⟨by rfl, ?hy2_1912⟩)) ?rest2_1912
   case hy2_1912=>(intro w q;obtain ⟨k0,k1⟩:=PR77.out w q;go_simp;try with_reducible rfl)
   refine layy ?_;refine' wpAnyR_take (i:=3) (v:=?v3_1913) (fun _=>rfl) (fun _ _ _ h k=>h.trans k) rfl (by kernel_rfl) (by kernel_rfl) (by kernel_rfl) (fun _ _ _ h=>h) (Or.inl (Or.inl ⟨by rfl, ?hy3_1913⟩)) ?rest3_1913
   case hy3_1913=>(intro w q;obtain ⟨k0,k1⟩:=PR77.out w q;go_simp;try with_reducible rfl)
   refine layy ?_;refine' wpAnyR_take (i:=4) (v:=?v4_1914) (fun _=>rfl) (fun _ _ _ h k=>h.trans k) rfl (by kernel_rfl) (by kernel_rfl) (by kernel_rfl) (fun _ _ _ h=>h) (Or.inl (Or.inl ⟨by rfl, ?hy4_1914⟩)) ?rest4_1914
   case hy4_1914=>(intro w q;obtain ⟨k0,k1⟩:=PR77.out w q;go_simp;try with_reducible rfl)
   refine layy ?_;refine' wpAnyR_take (i:=5) (v:=?v5_1915) (fun _=>rfl) (fun _ _ _ h k=>h.trans k) rfl (by kernel_rfl) (by kernel_rfl) (by kernel_rfl) (fun _ _ _ h=>h) (Or.inl (Or.inl ⟨by rfl, ?hy5_1915⟩)) ?rest5_1915
   case hy5_1915=>(intro w q;obtain ⟨k0,k1⟩:=PR77.out w q;go_simp;try with_reducible rfl)
   refine layy ?_;refine' wpAnyR_take (i:=6) (v:=?v6_1916) (fun _=>rfl) (fun _ _ _ h k=>h.trans k) rfl (by kernel_rfl) (by kernel_rfl) (by kernel_rfl) (fun _ _ _ h=>h) (Or.inl (Or.inl ⟨by rfl, ?hy6_1916⟩)) ?rest6_1916
   case hy6_1916=>(intro w q;obtain ⟨k0,k1⟩:=PR77.out w q;go_simp;try with_reducible rfl)
   refine layy ?_;refine' wpAnyR_take (i:=7) (v:=?v7_1917) (fun _=>rfl) (fun _ _ _ h k=>h.trans k) rfl (by kernel_rfl) (by kernel_rfl) (by kernel_rfl) (fun _ _ _ h=>h) (Or.inl (Or.inl ⟨by rfl, ?hy7_1917⟩)) ?rest7_1917
   case hy7_1917=>(intro w q;obtain ⟨k0,k1⟩:=PR77.out w q;go_simp;try with_reducible rfl)
   refine layy ?_;refine' wpAnyR_take (i:=8) (v:=?v8_1918) (fun _=>rfl) (fun _ _ _ h k=>h.trans k) rfl (by kernel_rfl) (by kernel_rfl) (by kernel_rfl) (fun _ _ _ h=>h) (Or.inl (Or.inl ⟨by rfl, ?hy8_1918⟩)) ?rest8_1918
   case hy8_1918=>(intro w q;obtain ⟨k0,k1⟩:=PR77.out w q;go_simp;try with_reducible rfl)
   refine layy ?_;refine wpAnyE_call 9 (f:=92) (args:=#[.slice r.sp ns r.sc,.slice r.op no r.oc,.slice p k c]) rfl (by kernel_rfl) (by rfl) ?run9 ?call9
   case run9=>go_simp
   refine (OF.out w3 E3.out).mono ?_;rintro e w4 ⟨Lg,rfl,hDG,hE4,hLB⟩;have LB:=hZ hLB;have DG4:=hZ hDG;have E4:=hZ (E2.out.trans (E3.out.trans hE4));have OR4:=hZ (OR3.out.ext hE4);refine ⟨_,rfl,E4.out, ?_⟩;refine layy ?_;have K5:But [gr] w4 (((((w4.setCell ⟨gr,0,none⟩ (.slice Lg.ps ns Lg.cs)).setCell ⟨gr,1,none⟩ (.slice Lg.po no Lg.co)).setCell ⟨gr,2,none⟩ (.slice Lg.pe D.ends.length Lg.ce)).setCell ⟨gr,3,none⟩ (.slice Lg.pn D.nodes.length Lg.cn)).setCell ⟨gr,4,none⟩ (.int .i64 x)):=(((((But.refl [gr] _).setCell (.inl (by simp)) _).setCell (.inl (by simp)) _).setCell (.inl (by simp)) _).setCell (.inl (by simp)) _).setCell (.inl (by simp)) _;have O5:=hZ (Own5.set (d0:=.slice Lg.ps ns Lg.cs) (d1:=.slice Lg.po no Lg.co) (d2:=.slice Lg.pe D.ends.length Lg.ce) (d3:=.slice Lg.pn D.nodes.length Lg.cn) (d4:=.int .i64 x) OR4.out);have HK5:=hZ K5;refine wpAnyE_put 10 (w':=(((((w4.setCell ⟨gr,0,none⟩ (.slice Lg.ps ns Lg.cs)).setCell ⟨gr,1,none⟩ (.slice Lg.po no Lg.co)).setCell ⟨gr,2,none⟩ (.slice Lg.pe D.ends.length Lg.ce)).setCell ⟨gr,3,none⟩ (.slice Lg.pn D.nodes.length Lg.cn)).setCell ⟨gr,4,none⟩ (.int .i64 x))) rfl (by kernel_rfl) (by rfl) ?run10 ?s10 ?next10
   case run10=>(obtain ⟨a0,a1,a2,a3,a4,az⟩:=OR4.out;unfold dgV DgL.cells;go_simp)
   case s10=>exact HK5.out.toExt E4.out (fun b hb=>by rw [List.mem_singleton.1 hb,HGR.out];exact Nat.le_refl _)
   refine layy ?_;clear K5;generalize (((((w4.setCell ⟨gr,0,none⟩ (.slice Lg.ps ns Lg.cs)).setCell ⟨gr,1,none⟩ (.slice Lg.po no Lg.co)).setCell ⟨gr,2,none⟩ (.slice Lg.pe D.ends.length Lg.ce)).setCell ⟨gr,3,none⟩ (.slice Lg.pn D.nodes.length Lg.cn)).setCell ⟨gr,4,none⟩ (.int .i64 x))=w5 at *;refine wpAnyR_done (by kernel_rfl) ?_ _;intro w5' e5 _;subst e5
   go_wp2_with fail
   obtain ⟨u0,u1,u2,u3,u4,-⟩:=O5.out;refine bodyPost_ret (v:=.agg #[.slice Lg.ps ns Lg.cs,.slice Lg.po no Lg.co,.slice Lg.pe D.ends.length Lg.ce,.slice Lg.pn D.nodes.length Lg.cn,.int .i64 x]) (by simp [results,Tryz.results29,go_sem, *]) rfl ?_;refine ⟨Lg,rfl, ?_,HK5.out.toExt E4.out (fun b hb=>by rw [List.mem_singleton.1 hb,HGR.out];exact Nat.le_refl _)⟩;refine DG4.out.but HK5.out fun b hb hm=>?_
   have h1:=LB.out b hm;rw [List.mem_singleton.1 hb] at h1;have h2:=HGW.out;omega
set_option maxRecDepth 100000 in
set_option maxHeartbeats 8000000 in
theorem rAt_node {ch:Nat->List Nat} (h:RAt w r S) (hw:Hp.Wf S B L ch) (ha:a ∈ S.taken) (he:Hp.isEnd (Hp.ow S.words a)=false) :
    Calls Tryz.prog 28 #[.pointer (some ⟨r.rb,0,none⟩),.int .i64 a] w fun e w'=>∃ p c,e = .returned (.tuple #[.agg #[.int .i64 (Hp.ow S.words a-1),.slice p (Hp.fz (Hp.ow S.words) S.sizes a).length c],.agg #[.int .u8 0,.int .i64 0]])/\SliceAt w' p c (Hp.fz (Hp.ow S.words) S.sizes a)/\Ext w w':=by
  have pa:=hw.part ha;have hnd:=Hp.isNode_of (hw.cells.tags _ ha) he;have fw6:=hw.fr.few;simp only [Hp.isNode,Hp.within,Bool.and_eq_true,decide_eq_true_eq] at hnd;have NODE:=hZ (fun W (hW:Ext w W)=>(decide_eq_true (by omega:Hp.ow S.words a < 20)) ▸ rIsNode (h.ext hW) (a:=a) (by omega));have FLD:=hZ (fun W (hW:Ext w W)=>rField (h.ext hW) hw ha);have FAT:=hZ (fun W (hW:Ext w W)=>fieldAt (h.ext hW) hw ha);have hfl:(Hp.fz (Hp.ow S.words) S.sizes a).length<=12:=by rw [Hp.fz_length];omega
  have c2:=h.c2;have gx:=h.get (j:=a) (by omega);have hle:=h.words.le;have hcap:=h.words.cap;have hlt:=h.lt;have hhi:=hw.hi;obtain ⟨bb,o',hp',hbb,_⟩:=h.words.cells (by omega)
  cases hp'
  have an:a < S.words.length:=by omega
  obtain ⟨fs,hfs⟩:∃ fs,Hp.fz (Hp.ow S.words) S.sizes a=fs:=⟨_,rfl⟩
  rw [hfs] at hfl FLD FAT ⊢;clear h hw ha he pa hfs;generalize S.words.length=n at *;generalize Hp.ow S.words a=t at *;obtain ⟨te1,te2⟩:=hnd;have q1:IntKind.i64.wrap (t-1)=t-1:=IntWalk.i64_in _ (by omega);have an':(a:Int) < (n:Int):=by omega
  have mixed:Tryz.prog.follows .mixedOrders=true:=by kernel_rfl
  go_enter Tryz.func28,Tryz.ntmps28;go_upto_region 2 with (go_at_call 87;refine (NODE.out _ (exx)).mono ?_;rintro e w1 ⟨rfl,hE1⟩)
  have zl:w.heap.size+1 < ((w.alloc (.cells #[.int .i64 0,.slice none 0 0] 41)).alloc (.cells #[.int .u8 0,.int .i64 0] 43)).heap.size:=by simp
  have d0:w1.cell? ⟨w.heap.size,0,none⟩=some (.int .i64 0):=(hE1.cell (by omega) 0).trans (by go_simp);have d1:w1.cell? ⟨w.heap.size,1,none⟩=some (.slice none 0 0):=(hE1.cell (by omega) 1).trans (by go_simp);have dz:∀ o,w1.frozen? ⟨w.heap.size,o,none⟩=false:=fun o=>(hE1.frozen (by omega) o).trans (by go_simp)
  have v0:w1.cell? ⟨w.heap.size+1,0,none⟩=some (.int .u8 0):=(hE1.cell zl 0).trans (by go_simp);have v1:w1.cell? ⟨w.heap.size+1,1,none⟩=some (.int .i64 0):=(hE1.cell zl 1).trans (by go_simp);have vz:∀ o,w1.frozen? ⟨w.heap.size+1,o,none⟩=false:=fun o=>(hE1.frozen zl o).trans (by go_simp)
  have E1:=hZ (show Ext w w1 from exx);have PR84:=hZ (fun (ww:World) (hSw:Ext w ww)=>And.intro ((hSw.cell hlt 2).trans c2) ((hSw.cell hbb (r.go+a)).trans gx));refine wp_region_seq (S:=fun W=>Ext w W) (R:=Eq) (by kernel_rfl) (fun _=>rfl) E1.out.drew ?_;have E2:=hZ E1.out.drew;have X2:=Ext.drew (Ext.refl w1);have BX:=hZ (show ((w1.drew.cell? ⟨w.heap.size,0,none⟩=some (.int .i64 0)/\w1.drew.cell? ⟨w.heap.size,1,none⟩=some (.slice none 0 0)) /\ ∀ o,w1.drew.frozen? ⟨w.heap.size,o,none⟩=false)/\((w1.drew.cell? ⟨w.heap.size+1,0,none⟩=some (.int .u8 0)/\w1.drew.cell? ⟨w.heap.size+1,1,none⟩=some (.int .i64 0)) /\ ∀ o,w1.drew.frozen? ⟨w.heap.size+1,o,none⟩=false) from ⟨⟨⟨d0,d1⟩,dz⟩,⟨v0,v1⟩,vz⟩);clear d0 d1 dz v0 v1 vz E1 X2 hE1;generalize w1.drew=w2 at *;obtain ⟨gb,hgb⟩:∃ g,w.heap.size=g:=⟨_,rfl⟩
  have HGB:=hZ hgb;rw [hgb] at BX ⊢;refine' wpAnyR_take (i:=0) (v:=?v0_2230) (fun _=>rfl) (fun _ _ _ h k=>h.trans k) rfl (by kernel_rfl) (by kernel_rfl) (by kernel_rfl) (fun _ _ _ h=>h) (Or.inl (Or.inl ⟨by rfl, ?hy0_2230⟩)) ?rest0_2230
  case hy0_2230=>(intro w q;obtain ⟨k2,kx⟩:=PR84.out w q;go_simp;try with_reducible rfl)
  refine layy ?_;refine' wpAnyR_take (i:=1) (v:=?v1_2231) (fun _=>rfl) (fun _ _ _ h k=>h.trans k) rfl (by kernel_rfl) (by kernel_rfl) (by kernel_rfl) (fun _ _ _ h=>h) (Or.inl (Or.inl ⟨by rfl, ?hy1_2231⟩)) ?rest1_2231
  case hy1_2231=>(intro w q;obtain ⟨k2,kx⟩:=PR84.out w q;go_simp;try with_reducible rfl)
  refine layy ?_;refine' wpAnyR_take (i:=2) (v:=?v2_2232) (fun _=>rfl) (fun _ _ _ h k=>h.trans k) rfl (by kernel_rfl) (by kernel_rfl) (by kernel_rfl) (fun _ _ _ h=>h) (Or.inl (Or.inl ⟨by rfl, ?hy2_2232⟩)) ?rest2_2232
  case hy2_2232=>(intro w q;obtain ⟨k2,kx⟩:=PR84.out w q;go_simp;try with_reducible rfl)
  refine layy ?_;refine' wpAnyR_take (i:=3) (v:=?v3_2233) (fun _=>rfl) (fun _ _ _ h k=>h.trans k) rfl (by kernel_rfl) (by kernel_rfl) (by kernel_rfl) (fun _ _ _ h=>h) (Or.inl (Or.inl ⟨by rfl, ?hy3_2233⟩)) ?rest3_2233
  case hy3_2233=>(intro w q;obtain ⟨k2,kx⟩:=PR84.out w q;go_simp;try with_reducible rfl)
  refine layy ?_;refine' wpAnyR_take (i:=4) (v:=?v4_2234) (fun _=>rfl) (fun _ _ _ h k=>h.trans k) rfl (by kernel_rfl) (by kernel_rfl) (by kernel_rfl) (fun _ _ _ h=>h) (Or.inl (Or.inl ⟨by rfl, ?hy4_2234⟩)) ?rest4_2234
  case hy4_2234=>(intro w q;obtain ⟨k2,kx⟩:=PR84.out w q;go_simp;try with_reducible rfl)
  refine layy ?_;refine' wpAnyR_take (i:=5) (v:=?v5_2235) (fun _=>rfl) (fun _ _ _ h k=>h.trans k) rfl (by kernel_rfl) (by kernel_rfl) (by kernel_rfl) (fun _ _ _ h=>h) (Or.inl (Or.inl ⟨by rfl, ?hy5_2235⟩)) ?rest5_2235
  case hy5_2235=>(intro w q;obtain ⟨k2,kx⟩:=PR84.out w q;go_simp;try with_reducible rfl)
  refine layy ?_;refine' wpAnyR_take (i:=6) (v:=?v6_2236) (fun _=>rfl) (fun _ _ _ h k=>h.trans k) rfl (by kernel_rfl) (by kernel_rfl) (by kernel_rfl) (fun _ _ _ h=>h) (Or.inl (Or.inl ⟨by rfl, ?hy6_2236⟩)) ?rest6_2236
  case hy6_2236=>(intro w q;obtain ⟨k2,kx⟩:=PR84.out w q;go_simp;try with_reducible rfl)
  refine layy ?_;refine' wpAnyR_take (i:=7) (v:=?v7_2237) (fun _=>rfl) (fun _ _ _ h k=>h.trans k) rfl (by kernel_rfl) (by kernel_rfl) (by kernel_rfl) (fun _ _ _ h=>h) (Or.inl (Or.inl ⟨by rfl, ?hy7_2237⟩)) ?rest7_2237
  case hy7_2237=>(intro w q;obtain ⟨k2,kx⟩:=PR84.out w q;go_simp;try with_reducible rfl)
  refine layy ?_;refine' wpAnyR_take (i:=8) (v:=?v8_2238) (fun _=>rfl) (fun _ _ _ h k=>h.trans k) rfl (by kernel_rfl) (by kernel_rfl) (by kernel_rfl) (fun _ _ _ h=>h) (Or.inl (Or.inl ⟨by rfl, ?hy8_2238⟩)) ?rest8_2238
  case hy8_2238=>(intro w q;obtain ⟨k2,kx⟩:=PR84.out w q;go_simp;try with_reducible rfl)
  refine layy ?_;refine' wpAnyR_take (i:=9) (v:=?v9_2239) (fun _=>rfl) (fun _ _ _ h k=>h.trans k) rfl (by kernel_rfl) (by kernel_rfl) (by kernel_rfl) (fun _ _ _ h=>h) (Or.inl (Or.inl ⟨by rfl, ?hy9_2239⟩)) ?rest9_2239
  case hy9_2239=>(intro w q;obtain ⟨k2,kx⟩:=PR84.out w q;go_simp;try with_reducible rfl)
  refine layy ?_;refine' wpAnyR_take (i:=13) (v:=?v13_2240) (fun _=>rfl) (fun _ _ _ h k=>h.trans k) rfl (by kernel_rfl) (by kernel_rfl) (by kernel_rfl) (fun _ _ _ h=>h) (Or.inl (Or.inl ⟨by rfl, ?hy13_2240⟩)) ?rest13_2240
  case hy13_2240=>(intro w q;obtain ⟨k2,kx⟩:=PR84.out w q;go_simp;try with_reducible rfl)
  refine layy ?_;refine wpAnyE_call 10 (f:=88) (args:=#[.pointer (some ⟨r.rb,0,none⟩),.int .i64 a]) rfl (by kernel_rfl) (by rfl) ?run10 ?call10
  case run10=>go_simp
  refine (FLD.out w2 E2.out).mono ?_;rintro e w3 ⟨rfl,hE3⟩;have E3:=hZ (E2.out.trans hE3);refine ⟨_,rfl,E3.out, ?_⟩;refine layy ?_;refine wpAnyE_one 11 (by kernel_rfl) ?_;refine wpOp_copyR rfl (by rfl) _ rfl rfl (FAT.out w3 E3.out) (fun h=>by cases h) (by omega) ?_;intro p4 c4 w4 R4 hE4;have E4:=hZ (E3.out.trans hE4);have HR4:=hZ R4;have GX:Hid (gb+1 < w3.heap.size):=hZ (Nat.lt_of_lt_of_le (cell_lt BX.out.2.1.1) hE3.le);have X4:=hZ (hE3.trans hE4);refine ⟨E4.out, ?_⟩;refine layy ?_;refine' wpAnyR_take (i:=12) (v:=?v12_2241) (fun _=>rfl) (fun _ _ _ h k=>h.trans k) rfl (by kernel_rfl) (by kernel_rfl) (by kernel_rfl) (fun _ _ _ h=>h) (Or.inl (Or.inl ⟨by rfl, ?hy12_2241⟩)) ?rest12_2241
  case hy12_2241=>(intro w _;go_simp;try with_reducible rfl)
  refine layy ?_;obtain ⟨⟨⟨d0,d1⟩,dz⟩,⟨⟨v0,v1⟩,vz⟩⟩:=BX.out;have y0:=(X4.out.cell (cell_lt d0) 0).trans d0;have y1:=(X4.out.cell (cell_lt d0) 1).trans d1;have yz:=fun o=>(X4.out.frozen (cell_lt d0) o).trans (dz o)
  have x0:=(X4.out.cell (cell_lt v0) 0).trans v0;have x1:=(X4.out.cell (cell_lt v0) 1).trans v1;have xz:=fun o=>(X4.out.frozen (cell_lt v0) o).trans (vz o)
  clear d0 d1 dz v0 v1 vz;have E5:Ext w ((w4.setCell ⟨gb,0,none⟩ (.int .i64 (t-1))).setCell ⟨gb,1,none⟩ (.slice p4 fs.length c4)):=Ext.setCell (Ext.setCell E4.out (by rw [HGB.out];exact Nat.le_refl _) _) (by rw [HGB.out];exact Nat.le_refl _) _;have f0:((w4.setCell ⟨gb,0,none⟩ (.int .i64 (t-1))).setCell ⟨gb,1,none⟩ (.slice p4 fs.length c4)).cell? ⟨gb,0,none⟩=some (.int .i64 (t-1)):=by simp [go_sem,y0]
  have f1:((w4.setCell ⟨gb,0,none⟩ (.int .i64 (t-1))).setCell ⟨gb,1,none⟩ (.slice p4 fs.length c4)).cell? ⟨gb,1,none⟩=some (.slice p4 fs.length c4):=by simp [go_sem,y1]
  have e0:((w4.setCell ⟨gb,0,none⟩ (.int .i64 (t-1))).setCell ⟨gb,1,none⟩ (.slice p4 fs.length c4)).cell? ⟨gb+1,0,none⟩=some (.int .u8 0):=by simp [go_sem,x0]
  have e1:((w4.setCell ⟨gb,0,none⟩ (.int .i64 (t-1))).setCell ⟨gb,1,none⟩ (.slice p4 fs.length c4)).cell? ⟨gb+1,1,none⟩=some (.int .i64 0):=by simp [go_sem,x1]
  have ez:∀ o,((w4.setCell ⟨gb,0,none⟩ (.int .i64 (t-1))).setCell ⟨gb,1,none⟩ (.slice p4 fs.length c4)).frozen? ⟨gb+1,o,none⟩=false:=fun o=>by simp [go_sem,xz]
  have nfar:∀ b o,p4=some ⟨b,o,none⟩->gb+1 < b:=fun b o e=>by
   have h1:=HR4.out.far e;have h2:=GX.out;omega
  have S5:SliceAt ((w4.setCell ⟨gb,0,none⟩ (.int .i64 (t-1))).setCell ⟨gb,1,none⟩ (.slice p4 fs.length c4)) p4 c4 fs:=(HR4.out.at_.but ((But.refl [gb] _).setCell (.inl (by simp)) _ |>.setCell (.inl (by simp)) _) (fun b o e hm=>by have:=nfar b o e;rw [List.mem_singleton.1 hm] at this;omega))
  refine wpAnyE_put 14 (w':=((w4.setCell ⟨gb,0,none⟩ (.int .i64 (t-1))).setCell ⟨gb,1,none⟩ (.slice p4 fs.length c4))) rfl (by kernel_rfl) (by rfl) ?run14 E5 ?next14
  case run14=>(have yz0:=yz 0;have yz1:=yz 1;go_simp)
  refine layy ?_;clear y0 y1 yz x0 x1 xz;generalize ((w4.setCell ⟨gb,0,none⟩ (.int .i64 (t-1))).setCell ⟨gb,1,none⟩ (.slice p4 fs.length c4))=w5 at *;have E6:Ext w ((w5.setCell ⟨gb+1,0,none⟩ (.int .u8 0)).setCell ⟨gb+1,1,none⟩ (.int .i64 0)):=Ext.setCell (Ext.setCell E5 (by rw [HGB.out];exact Nat.le_succ _) _) (by rw [HGB.out];exact Nat.le_succ _) _;have h0:((w5.setCell ⟨gb+1,0,none⟩ (.int .u8 0)).setCell ⟨gb+1,1,none⟩ (.int .i64 0)).cell? ⟨gb,0,none⟩=some (.int .i64 (t-1)):=by simp [go_sem,f0]
  have h1:((w5.setCell ⟨gb+1,0,none⟩ (.int .u8 0)).setCell ⟨gb+1,1,none⟩ (.int .i64 0)).cell? ⟨gb,1,none⟩=some (.slice p4 fs.length c4):=by simp [go_sem,f1]
  have h2:((w5.setCell ⟨gb+1,0,none⟩ (.int .u8 0)).setCell ⟨gb+1,1,none⟩ (.int .i64 0)).cell? ⟨gb+1,0,none⟩=some (.int .u8 0):=by simp [go_sem,e0]
  have h3:((w5.setCell ⟨gb+1,0,none⟩ (.int .u8 0)).setCell ⟨gb+1,1,none⟩ (.int .i64 0)).cell? ⟨gb+1,1,none⟩=some (.int .i64 0):=by simp [go_sem,e1]
  have S6:SliceAt ((w5.setCell ⟨gb+1,0,none⟩ (.int .u8 0)).setCell ⟨gb+1,1,none⟩ (.int .i64 0)) p4 c4 fs:=(S5.but ((But.refl [gb+1] _).setCell (.inl (by simp)) _ |>.setCell (.inl (by simp)) _) (fun b o e hm=>by have:=nfar b o e;rw [List.mem_singleton.1 hm] at this;omega))
  refine wpAnyE_put 15 (w':=((w5.setCell ⟨gb+1,0,none⟩ (.int .u8 0)).setCell ⟨gb+1,1,none⟩ (.int .i64 0))) rfl (by kernel_rfl) (by rfl) ?run15 E6 ?next15
  case run15=>(have ez0:=ez 0;have ez1:=ez 1;go_simp)
  refine layy ?_;clear f0 f1 e0 e1 ez;generalize ((w5.setCell ⟨gb+1,0,none⟩ (.int .u8 0)).setCell ⟨gb+1,1,none⟩ (.int .i64 0))=w6 at *;refine wpAnyR_done (by kernel_rfl) ?_ _;intro w6' e6 _;subst e6
  go_wp2_with fail
  refine bodyPost_ret (v:=.tuple #[.agg #[.int .i64 (t-1),.slice p4 fs.length c4],.agg #[.int .u8 0,.int .i64 0]]) (by simp [results,Tryz.results28,go_sem, *]) rfl ?_;exact ⟨p4,c4,rfl,S6,E6⟩
end Go.Proofs.YtdokmmhjmclmnaaGreat
