/- Part 13 of a proof. -/
import Derived.Test.YtdokmmhjmclmnaaGreatMU09
set_option linter.unusedSimpArgs false
set_option linter.unusedVariables false
set_option linter.unusedSectionVars false
set_option linter.unnecessarySimpa false
set_option maxHeartbeats 4000000
namespace Go.Proofs.YtdokmmhjmclmnaaGreat
open Go.Proofs.Tryz
variable {W' w w' w0 wb:World} {B a b bx c ca cap ce cn f g i j k lb m n qc:Nat} {choice e t x:Int} {A W fs ks l o z:List Int} {D T Y:List Nat} {p p2 pa pe pn q:Option Addr} {d:Hd} {S S':Hp.Hs} {M:List (Nat × Int)} {s:Hp.Sc}
open Go.RowKit Go.Maps
def h9b (S:Hp.Hs):Prop:=∀ a ∈ S.taken,∃ t:Int,Hp.rd S.words a=some t /\ -4611686018427387904 < t/\t < 4611686018427387904
theorem Y0b (h:S.has x=true):∃ a:Nat,x=a/\a ∈ S.taken:=by
 unfold Hp.Hs.has at h
 simp only [B8c,A1c,t3b] at h
 exact ⟨x.toNat,by omega,h.2⟩
theorem r8a {br:Nat} {v:Value} {G:List Int} {r:Int} (h:LdAt w0 w lb d S v p k G)
    (hx:w.cell? ⟨bx,0,none⟩=some (.pointer (some ⟨lb,0,none⟩))) (hr:w.cell? ⟨br,0,none⟩=some (.int .i64 r)) (hT:h9b S) (hx1 : -9223372036854775808<=x) (hx2:x<=9223372036854775807) :
    Calls prog 127 #[.int .i64 x,.pointer (some ⟨bx,0,none⟩),.pointer (some ⟨br,0,none⟩)] w (Rt w (.bool (Hp.k1a S r x))):=by
  have h0:=h.h0;have c0:=h.c0;have c1:=h.c1;have zx:=cell_lt hx;have zr:=cell_lt hr;have zl:=cell_lt h0;have zh:=cell_lt c0;have H:=hZ h
  cases hb:S.has x with
  | false=>
   have e:Hp.k1a S r x=false:=by simp [Hp.k1a,hb]
   rw [e];have HB:=hZ hb;clear h hb e hT;go_enter func127,ntmps127
   go_wp2_with fail
   have pr19a:=Ext.r hx;have pr19b:=Ext.r hr;have pr19c:=Ext.r h0;have pr19d:=Ext.r c0;have pr19e:=Ext.r c1
   refine rg0 w ?_
   refine' tkd 0 ?_;refine' tkd 2 ?_;refine' tkL 4 ?_;refine' tkC 5 (.bool false) 128 (fun w hE=>X7a (H.out.toHAt.ext hE) HB.out hx1 hx2) ?_;refine' tkL 6 ?_;refine' tkN 7 ?_;refine' tkN 8 ?_;refine' tkN 9 ?_;refine' tkN 10 ?_;refine' tkN 11 ?_;refine' tkN 12 ?_;refine' tkN 13 ?_;refine' tkN 14 ?_;refine' tkN 15 ?_;refine' tkN 16 ?_;refine' tkN 17 ?_;refine' tkN 18 ?_;refine' tkN 19 ?_;refine' tkN 20 ?_;refine' tkN 21 ?_;refine' tkN 22 ?_;refine' tkd 23 ?_;refine A0a (by kernel_rfl) ?_ _;intro x1 _ Ex1;clear pr19a pr19b pr19c pr19d pr19e;go_wp2;go_returns;exact ⟨rfl,exx⟩
  | true=>
   obtain ⟨a,rfl,ha⟩:=Y0b hb;obtain ⟨t,ht,t1,t2⟩:=hT a ha;have e:Hp.k1a S r a=decide (Hp.rank S.order t > r):=by simp [Hp.k1a,hb,ht]
   rw [e];have HB:=hZ hb;have HTG:=hZ ht;generalize hr1:Hp.rank S.order t=r1;have HR1:=hZ hr1;clear h hb e hT ht ha hr1;go_enter func127,ntmps127
   go_wp2_with fail
   have pr20a:=Ext.r hx;have pr20b:=Ext.r hr;have pr20c:=Ext.r h0;have pr20d:=Ext.r c0;have pr20e:=Ext.r c1
   refine rg0 w ?_
   refine' tkd 0 ?_;refine' tkd 2 ?_;refine' tkL 4 ?_;refine' tkC 5 (.bool true) 128 (fun w hE=>X7a (H.out.toHAt.ext hE) HB.out hx1 hx2) ?_;refine' tkd 6 ?_;refine' tkd 8 ?_;refine' tkd 10 ?_;refine' tkd 12 ?_;refine' tkd 14 ?_;refine' tkd 16 ?_;refine' tkL 18 ?_;refine' tkC 19 (.int .i64 t) 76 (fun w hE=>F4a (H.out.toHAt.ext hE).c2 rfl H.out.le H.out.cap (H.out.toHAt.ext hE).words HTG.out) ?_;refine' tkC 20 (.int .i64 r1) 126 (fun w hE=>(HR1.out ▸ f7a (H.out.toHAt.ext hE).order (by omega) (by omega))) ?_;refine' tkd 21 ?_;refine' tkd 23 ?_;refine A0a (by kernel_rfl) ?_ _;intro x1 _ Ex1;clear pr20a pr20b pr20c pr20d pr20e;go_wp2;go_returns;exact ⟨rfl,exx⟩
end Go.Proofs.YtdokmmhjmclmnaaGreat
