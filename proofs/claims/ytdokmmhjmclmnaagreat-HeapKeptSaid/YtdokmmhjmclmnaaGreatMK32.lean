/-
  HeapKept: for every frame, number of words and acts the law returns true (a cell that is held has the same Diagram before and after Collect, before and after Compact at its new address, and after whatever end is added); the arguments read as they did. No condition.
-/
import Derived.Test.YtdokmmhjmclmnaaGreatMK18
import Derived.Test.YtdokmmhjmclmnaaGreatMK31
set_option linter.unusedSimpArgs false
set_option linter.unusedVariables false
set_option linter.unusedSectionVars false
set_option linter.unnecessarySimpa false
namespace Go.Proofs.YtdokmmhjmclmnaaGreat.lawHeapKept
open Go.ChangeShapes Go.WideShapes Go.ChangeAt Go.RowKit Go.Joins
theorem cellsV:Tryz.prog.cellsOf 43=2:=by kernel_rfl
set_option maxRecDepth 100000 in
theorem open_valN {H:Type} {enc:TypeId × Value->H} {w:World} {base:Nat} {spare:Nat->Bool} {held:Bool} {r:Reach} {b0:Nat} {v:Value} {d:DataW H} {p:List MemPlace} (hv:Value.okWide Tryz.prog w r b0 43 v) (h:DataW.Trod enc Tryz.prog w base spare held 43 v d p) :
    ∃ (f:Nat) (n:Int),v = .agg #[.int .u8 f,.int .i64 n]/\f < 256 /\ -9223372036854775808<=n/\n<=9223372036854775807:=by
  obtain ⟨c0,c1,y0,y1,m,rfl,rfl,rfl,hy0,hy1⟩:=open_agg2 Tryz.underlying43 (by kernel_rfl) cellsV hv h;obtain ⟨f,e0,rfl,wf0⟩:=DataW.trod_int Tryz.underlying5 hy0;obtain ⟨n,e1,rfl,wf1⟩:=DataW.trod_int Tryz.underlying3 hy1;simp at e0 e1;subst e0 e1;obtain ⟨l0,u0⟩:=bounds_u8 wf0;obtain ⟨l1,u1⟩:=bounds_i64 wf1;exact ⟨f.toNat,n,by rw [Int.toNat_of_nonneg l0],by omega,l1,u1⟩
set_option maxRecDepth 100000 in
theorem lifted (os:Os) (started:os.Started) (H:Type) (enc:TypeId × Value->H) :
    ReturnsInHanded {} Tryz.checked os 12 .any (Rows.heapKeptSpec.pre6 enc Tryz.prog Tryz.f12 [] false) (Rows.heapKeptSpec.post enc Tryz.prog Tryz.f12 false true false false):=by
  refine returnsInHanded_of_change (C:=Tryz.checked) own started (by kernel_rfl) Tryz.func12
   (ChangeSpec.witness6 (enc:=enc) (C:=Tryz.checked) false ⟨#[],#[.agg #[.slice none 0 0,.slice none 0 0,.int .i64 0,.slice none 0 0],.int .u32 0,.agg #[.int .u8 0,.int .i64 0]],[]⟩ 8 (by kernel_rfl) (by kernel_rfl) (by kernel_rfl) (by kernel_rfl)) ?_
  intro W base args ds gs before hval0 hW _ _;have hval:∀ (j:Nat) t v,Tryz.f12.params[j]? = some t->args[j]? = some v->Value.okWide Tryz.prog W .any base t v:=hval0
  have hW':=hW;obtain ⟨p,q,hA0,hV,rfl,hfz,hnd⟩:=hW;have hA:DataW.TrodAll enc Tryz.prog W 0 (fun _=>true) true Tryz.f12.params.toList args.toList ds p:=hA0;have hAk:=hA;rw [Tryz.params12] at hA hval;obtain ⟨v0,v1,v2,d0,d1,d2,p0,p1,p2,rfl,rfl,rfl,h0,h1,h2⟩:=trodAll_three hA;obtain ⟨rfl,rfl⟩:=trodVars_none hV;obtain ⟨sp,op,pa,sc,oc,ca,z,o,n,acts,rfl,hS,hn1,hn2⟩:=open_S (hval 0 25 v0 rfl rfl) h0;obtain ⟨x1,rfl,rfl,rfl,wx1⟩:=open_int Tryz.underlying91 (hval 1 91 v1 rfl rfl) h1;obtain ⟨l1,u1⟩:=bounds_u32 wx1;obtain ⟨f,vn,rfl,hf,hv1,hv2⟩:=open_valN (hval 2 43 v2 rfl rfl) h2;clear hA0 hval0;simp only [List.append_nil] at hW';refine (heapKept l1 u1 hf hv1 hv2 hS).mono fun e W' ⟨he,hb⟩=>?_
  subst he;exact ⟨_,rfl,post_ext (pa:=_) (pv:=[]) hW' (fun _ _ _=>trodAll_mk1 (shut_bool Tryz.underlying4 _)) (fun sp hsp=>args_again hb (by rw [Tryz.params12];decide) hAk (fun p hp=>hW'.lt p (by simpa using hp)) (fun p hp=>hsp p (by simpa using hp))) (fun _ _=>rfl) (by simp) hb⟩
theorem said:Rows.HeapKeptSaid:=
 OpenClaim.holds_of_wide 12 Tryz.f12 rfl rfl rfl rfl rfl rfl rfl ⟨rfl,rfl,rfl,rfl,rfl⟩ rfl rfl rfl rfl rfl (by kernel_rfl) Tryz.func12 (by kernel_rfl)
  (of_decide_eq_true (by kernel_rfl)) (by unfold Func.isWrapper;first | (rw [if_pos (by decide +kernel)];kernel_rfl) | (rw [if_neg (by decide +kernel)];exact ⟨rfl,rfl⟩))
  (fun os started H enc _=>lifted os started H enc)
end Go.Proofs.YtdokmmhjmclmnaaGreat.lawHeapKept
