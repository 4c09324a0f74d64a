/-
  Part 12 of a proof: HFn49.
-/
import Derived.Test.YtdokmmhjmclmnaaGreatMV04
import Derived.Test.YtdokmmhjmclmnaaGreatMV11
set_option linter.unusedSimpArgs false
set_option linter.unusedVariables false
set_option linter.unusedSectionVars false
set_option linter.unnecessarySimpa false
namespace Go.Proofs.YtdokmmhjmclmnaaGreat
variable {W' w w' w0 wb:World} {B a b base c cap ce cn f g gb i j k lb m n oc s sc:Nat} {choice t x:Int} {G W fs l o xs z:List Int} {S S':Hp.Hs} {A N T:List Nat} {M:List (Nat × Int)} {op p pe pn q sp:Option Addr} {d:Hd} {acts:List Hp.Act'}
open Go.RowKit Go.Maps
def TagsOk (S:Hp.Hs):Prop:=∀ a ∈ S.taken,∃ t:Int,Hp.rd S.words a=some t /\ -4611686018427387904 < t/\t < 4611686018427387904
theorem has_nat (h:S.has x=true):∃ a:Nat,x=a/\a ∈ S.taken:=by
 unfold Hp.Hs.has at h
 simp only [Bool.and_eq_true,decide_eq_true_eq,List.contains_iff_mem] at h
 exact ⟨x.toNat,by omega,h.2⟩
set_option maxHeartbeats 4000000 in
theorem areCells1_any {bx br:Nat} {v:Value} {r:Int} (h:LdAt w0 w lb d S v p k G)
    (hx:w.cell? ⟨bx,0,none⟩=some (.pointer (some ⟨lb,0,none⟩))) (hr:w.cell? ⟨br,0,none⟩=some (.int .i64 r)) (hT:TagsOk S) (hx1 : -9223372036854775808<=x) (hx2:x<=9223372036854775807) :
    Calls Tryz.prog 127 #[.int .i64 x,.pointer (some ⟨bx,0,none⟩),.pointer (some ⟨br,0,none⟩)] w fun e w'=>e = .returned (.bool (Hp.laterB S r x))/\Ext w w':=by
  have h0:=h.h0;have c0:=h.c0;have c1:=h.c1;have zx:=cell_lt hx;have zr:=cell_lt hr;have zl:=cell_lt h0;have zh:=cell_lt c0;have H:=hZ h
  cases hb:S.has x with
  | false=>
   have e:Hp.laterB S r x=false:=by simp [Hp.laterB,hb]
   rw [e];have HB:=hZ hb;clear h hb e hT;go_enter Tryz.func127,Tryz.ntmps127
   go_wp2_with fail
   have pr19a:=fun u_ (h_:Ext w u_)=>(h_.cell zx 0).trans hx
   have pr19b:=fun u_ (h_:Ext w u_)=>(h_.cell zr 0).trans hr
   have pr19c:=fun u_ (h_:Ext w u_)=>(h_.cell zl 0).trans h0
   have pr19d:=fun u_ (h_:Ext w u_)=>(h_.cell zh 0).trans c0
   have pr19e:=fun u_ (h_:Ext w u_)=>(h_.cell zh 1).trans c1
   refine wp_region_seq (S:=fun W=>Ext w W) (R:=Ext) (by kernel_rfl) Ext.refl ?_ ?_
   . exact exx
   refine' tkL 0 ?_;refine' tkL 1 ?_;refine' tkL 2 ?_;refine' tkL 3 ?_;refine' tkL 4 ?_;refine' tkC 5 (.bool false) 128 (fun w hE=>isTaken_any (H.out.toHAt.ext hE) HB.out hx1 hx2) ?_;refine' tkL 6 ?_;refine' tkN 7 ?_;refine' tkN 8 ?_;refine' tkN 9 ?_;refine' tkN 10 ?_;refine' tkN 11 ?_;refine' tkN 12 ?_;refine' tkN 13 ?_;refine' tkN 14 ?_;refine' tkN 15 ?_;refine' tkN 16 ?_;refine' tkN 17 ?_;refine' tkN 18 ?_;refine' tkN 19 ?_;refine' tkN 20 ?_;refine' tkN 21 ?_;refine' tkN 22 ?_;refine' tkL 23 ?_;refine' tkL 24 ?_;refine wpAnyR_done (by kernel_rfl) ?_ _;intro x1 _ Ex1;clear pr19a pr19b pr19c pr19d pr19e;go_wp2;go_returns;exact ⟨rfl,exx⟩
  | true=>
   obtain ⟨a,rfl,ha⟩:=has_nat hb;obtain ⟨t,ht,t1,t2⟩:=hT a ha;have e:Hp.laterB S r a=decide (Hp.rank S.order t > r):=by simp [Hp.laterB,hb,ht]
   rw [e];have HB:=hZ hb;have HTG:=hZ ht;generalize hr1:Hp.rank S.order t=r1;have HR1:=hZ hr1;clear h hb e hT ht ha hr1;go_enter Tryz.func127,Tryz.ntmps127
   go_wp2_with fail
   have pr20a:=fun u_ (h_:Ext w u_)=>(h_.cell zx 0).trans hx
   have pr20b:=fun u_ (h_:Ext w u_)=>(h_.cell zr 0).trans hr
   have pr20c:=fun u_ (h_:Ext w u_)=>(h_.cell zl 0).trans h0
   have pr20d:=fun u_ (h_:Ext w u_)=>(h_.cell zh 0).trans c0
   have pr20e:=fun u_ (h_:Ext w u_)=>(h_.cell zh 1).trans c1
   refine wp_region_seq (S:=fun W=>Ext w W) (R:=Ext) (by kernel_rfl) Ext.refl ?_ ?_
   . exact exx
   refine' tkL 0 ?_;refine' tkL 1 ?_;refine' tkL 2 ?_;refine' tkL 3 ?_;refine' tkL 4 ?_;refine' tkC 5 (.bool true) 128 (fun w hE=>isTaken_any (H.out.toHAt.ext hE) HB.out hx1 hx2) ?_;refine' tkL 6 ?_;refine' tkL 7 ?_;refine' tkL 8 ?_;refine' tkL 9 ?_;refine' tkL 10 ?_;refine' tkL 11 ?_;refine' tkL 12 ?_;refine' tkL 13 ?_;refine' tkL 14 ?_;refine' tkL 15 ?_;refine' tkL 16 ?_;refine' tkL 17 ?_;refine' tkL 18 ?_;refine' tkC 19 (.int .i64 t) 76 (fun w hE=>tag_any (H.out.toHAt.ext hE).c2 rfl H.out.le H.out.cap (H.out.toHAt.ext hE).words HTG.out) ?_;refine' tkC 20 (.int .i64 r1) 126 (fun w hE=>(HR1.out ▸ rank_any (H.out.toHAt.ext hE).order (by omega) (by omega))) ?_;refine' tkL 21 ?_;refine' tkL 22 ?_;refine' tkL 23 ?_;refine' tkL 24 ?_;refine wpAnyR_done (by kernel_rfl) ?_ _;intro x1 _ Ex1;clear pr20a pr20b pr20c pr20d pr20e;go_wp2;go_returns;exact ⟨rfl,exx⟩
end Go.Proofs.YtdokmmhjmclmnaaGreat
