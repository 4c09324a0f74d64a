/-
  Part 21 of a proof: RH6b.
-/
import Derived.BigRegion
import Derived.Test.YtdokmmhjmclmnaaGreatMV17
set_option linter.unusedSimpArgs false
set_option linter.unusedVariables false
set_option linter.unusedSectionVars false
set_option linter.unnecessarySimpa false
namespace Go.Proofs.YtdokmmhjmclmnaaGreat
variable {W' w w' w0 wb:World} {B a b base c cap ce cn f g gb i j k lb m n oc s sc:Nat} {choice t x:Int} {G W fs l o xs z:List Int} {L:List Hp.Tl} {r:Rd} {S S':Hp.Hs} {A N T:List Nat} {M:List (Nat × Int)} {op p pe pn q sp:Option Addr} {d:Hd} {acts:List Hp.Act'}
open Go.RowKit Go.Maps
set_option maxRecDepth 100000 in
set_option maxHeartbeats 4000000 in
theorem rAt_end0 (h:RAt w r S) (hhi:S.words.length<=100000) (ha:a+5<=S.words.length) (te:20<=Hp.ow S.words a/\Hp.ow S.words a<=24) :
    Calls Tryz.prog 28 #[.pointer (some ⟨r.rb,0,none⟩),.int .i64 a] w fun e w'=>e = .returned (.tuple #[.agg #[.int .i64 (-1),.slice none 0 0],.agg #[.int .u8 (Hp.ow S.words a-20),.int .i64 (Hp.ow S.words (a+4))]])/\Ext w w':=by
  have NODE:=hZ (fun W (hW:Ext w W)=>(decide_eq_false (by omega:¬ Hp.ow S.words a < 20)) ▸ rIsNode (h.ext hW) (a:=a) (by omega));have c2:=h.c2;have gx:=h.get (j:=a) (by omega);have gy:=h.get (j:=a+4) (by omega);have hle:=h.words.le;have hcap:=h.words.cap;have hlt:=h.lt;obtain ⟨bb,o',hp',hbb,_⟩:=h.words.cells (by omega)
  cases hp'
  have a4:a+4 < S.words.length:=by omega
  clear h;generalize S.words.length=n at *;generalize Hp.ow S.words a=t at *;generalize Hp.ow S.words (a+4)=y at *;obtain ⟨te1,te2⟩:=te;have q1:IntKind.i64.wrap (t-20)=t-20:=IntWalk.i64_in _ (by omega);have q2:IntKind.u8.wrap (t-20)=t-20:=by
   have hh:t=20 \/ t=21 \/ t=22 \/ t=23 \/ t=24:=by omega
   rcases hh with rfl | rfl | rfl | rfl | rfl <;> rfl
  have mixed:Tryz.prog.follows .mixedOrders=true:=by kernel_rfl
  have s1:IntKind.i64.wrap ((a:Int)+4)=(a:Int)+4:=IntWalk.i64_in _ (by omega);have s2:(0:Int)<=(a:Int)+4:=by omega
  have s3:(a:Int)+4 < (n:Int):=by omega
  have s4:((a:Int)+4).toNat=a+4:=by omega
  have s5:(a:Int) < (n:Int):=by omega
  go_enter Tryz.func28,Tryz.ntmps28;go_upto_region 3 with (go_at_call 87;refine (NODE.out _ (exx)).mono ?_;rintro e w1 ⟨rfl,hb1⟩;obtain ⟨hc1,hf1,hs1⟩:=hb1.cells;have hz1_0:w.heap.size < w1.heap.size:=(by have h:=hb1.le;(try simp at h);omega);have hc1_0:=hb1.cell (b:=w.heap.size) (by first | omega | (simp;done) | (simp;omega));have hf1_0:=hb1.frozen (b:=w.heap.size) (by first | omega | (simp;done) | (simp;omega));have hz1_1:w.heap.size+1 < w1.heap.size:=(by have h:=hb1.le;(try simp at h);omega);have hc1_1:=hb1.cell (b:=w.heap.size+1) (by first | omega | (simp;done) | (simp;omega));have hf1_1:=hb1.frozen (b:=w.heap.size+1) (by first | omega | (simp;done) | (simp;omega));have E1:Ext w w1:=Ext.trans (exx) hb1;have c2':=(E1.cell hlt 2).trans c2;have gx':=(E1.cell hbb (r.go+a)).trans gx;have gy':=(E1.cell hbb (r.go+(a+4))).trans gy)
  clear c2 gx gy;have zr:r.rb ≠ w.heap.size:=by omega
  go_region_with (fail)
  all_goals
   go_wp2_with fail
   refine bodyPost_ret (v:=.tuple #[.agg #[.int .i64 (-1),.slice none 0 0],.agg #[.int .u8 (t-20),.int .i64 y]]) (by simp [results,Tryz.results28,go_sem, *]) rfl ⟨rfl,exx⟩
theorem rAt_end {ch:Nat->List Nat} (h:RAt w r S) (hw:Hp.Wf S B L ch) (ha:a ∈ S.taken) (he:Hp.isEnd (Hp.ow S.words a)=true) :
    Calls Tryz.prog 28 #[.pointer (some ⟨r.rb,0,none⟩),.int .i64 a] w fun e w'=>e = .returned (.tuple #[.agg #[.int .i64 (-1),.slice none 0 0],.agg #[.int .u8 (Hp.ow S.words a-20),.int .i64 (Hp.ow S.words (a+4))]])/\Ext w w':=by
  have pa:=hw.part ha;have te:20<=Hp.ow S.words a/\Hp.ow S.words a<=24:=by
   unfold Hp.isEnd Hp.within at he
   simpa using he
  exact rAt_end0 h hw.hi (by omega) te
end Go.Proofs.YtdokmmhjmclmnaaGreat
