/-
  HeapLoads: for every frame, words and address the law returns true (what any words are loaded as, the cell with any address in them, its diagram, and the numbers of all, are the document's, or the errors are); the arguments read as they did. No condition.
-/
import Derived.Test.YtdokmmhjmclmnaaGreatMV33
import Derived.Test.YtdokmmhjmclmnaaGreatMV34
set_option linter.unusedSimpArgs false
set_option linter.unusedVariables false
set_option linter.unusedSectionVars false
set_option linter.unnecessarySimpa false
namespace Go.Proofs.YtdokmmhjmclmnaaGreat.lawHeapLoads
open Go.ChangeShapes Go.WideShapes Go.ChangeAt Go.RowKit Go.Joins
set_option maxRecDepth 100000 in
theorem lifted (os:Os) (started:os.Started) (H:Type) (enc:TypeId × Value->H) :
    ReturnsInHanded {} Tryz.checked os 3 .any (Rows.heapLoadsSpec.pre6 enc Tryz.prog Tryz.f3 [] false) (Rows.heapLoadsSpec.post enc Tryz.prog Tryz.f3 false true false false):=by
  refine returnsInHanded_of_change (C:=Tryz.checked) own started (by kernel_rfl) Tryz.func3
   (ChangeSpec.witness6 (enc:=enc) (C:=Tryz.checked) false ⟨#[],#[.agg #[.slice none 0 0,.slice none 0 0,.int .i64 0,.slice none 0 0],.slice none 0 0,.int .i64 0],[]⟩ 8 (by kernel_rfl) (by kernel_rfl) (by kernel_rfl) (by kernel_rfl)) ?_
  intro W base args ds gs before hval0 hW _ _;have hval:∀ (j:Nat) t v,Tryz.f3.params[j]? = some t->args[j]? = some v->Value.okWide Tryz.prog W .any base t v:=hval0
  have hW':=hW;obtain ⟨p,q,hA0,hV,rfl,hfz,hnd⟩:=hW;have hA:DataW.TrodAll enc Tryz.prog W 0 (fun _=>true) true Tryz.f3.params.toList args.toList ds p:=hA0;have hAk:=hA;rw [Tryz.params3] at hA hval;obtain ⟨v0,v1,v2,d0,d1,d2,p0,p1,p2,rfl,rfl,rfl,h0,h1,h2⟩:=trodAll_three hA;obtain ⟨rfl,rfl⟩:=trodVars_none hV;obtain ⟨sp,op,pa,sc,oc,ca,z,o,n,acts,rfl,hS,hn1,hn2⟩:=open_S (hval 0 25 v0 rfl rfl) h0;obtain ⟨pw,cw,W1,rfl,hW1,hWn⟩:∃ (q:Option Addr) (c:Nat) (l:List Int),v1 = .slice q l.length c/\SliceAt W q c l/\(q=none->c=0):=by
   obtain ⟨a0,len,cap,rfl⟩:=okWide_slice Tryz.underlying22 (hval 1 22 v1 rfl rfl);obtain ⟨fuel,h1'⟩:=h1;exact open_ints h1'
  obtain ⟨x2,rfl,rfl,rfl,wx2⟩:=open_int Tryz.underlying3 (hval 2 3 v2 rfl rfl) h2;obtain ⟨l2,u2⟩:=bounds_i64 wx2;clear hA0 hval0;simp only [List.append_nil] at hW';refine (heapLoads hS hW1 hWn ⟨l2,u2⟩).mono fun e W' ⟨he,hb⟩=>?_
  subst he;exact ⟨_,rfl,post_ext (pa:=_) (pv:=[]) hW' (fun _ _ _=>trodAll_mk1 (shut_bool Tryz.underlying4 _)) (fun sp hsp=>args_again hb (by rw [Tryz.params3];decide) hAk (fun p hp=>hW'.lt p (by simpa using hp)) (fun p hp=>hsp p (by simpa using hp))) (fun _ _=>rfl) (by simp) hb⟩
theorem said:Rows.HeapLoadsSaid:=
 OpenClaim.holds_of_wide 3 Tryz.f3 rfl rfl rfl rfl rfl rfl rfl ⟨rfl,rfl,rfl,rfl,rfl⟩ rfl rfl rfl rfl rfl (by kernel_rfl) Tryz.func3 (by kernel_rfl)
  (of_decide_eq_true (by kernel_rfl)) (by unfold Func.isWrapper;first | (rw [if_pos (by decide +kernel)];kernel_rfl) | (rw [if_neg (by decide +kernel)];exact ⟨rfl,rfl⟩))
  (fun os started H enc _=>lifted os started H enc)
end Go.Proofs.YtdokmmhjmclmnaaGreat.lawHeapLoads
