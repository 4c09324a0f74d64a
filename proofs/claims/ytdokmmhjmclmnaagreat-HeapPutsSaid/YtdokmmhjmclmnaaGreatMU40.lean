/-
  HeapPuts: for every frame, number of words, acts and diagram the law returns true (Put of the diagram into the heap and into its reference answer alike and leave the same words); the arguments read as they did. No condition.
-/
import Derived.Test.YtdokmmhjmclmnaaGreatMU39
set_option linter.unusedSimpArgs false
set_option linter.unusedVariables false
set_option linter.unusedSectionVars false
set_option linter.unnecessarySimpa false
set_option maxHeartbeats 200000
set_option maxRecDepth 100000
namespace Go.Proofs.YtdokmmhjmclmnaaGreat.lawHeapPuts
open Go.Proofs.Tryz
open Go.ChangeShapes Go.WideShapes Go.ChangeAt Go.RowKit Go.Joins
theorem lifted (os:Os) (started:os.Started) (H:Type) (enc:TypeId × Value->H) :
    ReturnsInHanded {} Tryz.checked os 8 .any (Rows.heapPutsSpec.pre6 enc prog Tryz.f8 [] false) (Rows.heapPutsSpec.post enc prog Tryz.f8 false true false false):=by
  refine returnsInHanded_of_change (C:=Tryz.checked) own started (by kernel_rfl) func8
   (ChangeSpec.witness6 (enc:=enc) (C:=Tryz.checked) false ⟨#[],#[.agg #[.slice none 0 0,.slice none 0 0,.int .i64 0,.slice none 0 0],.agg #[.slice none 0 0,.slice none 0 0,.slice none 0 0,.slice none 0 0,.int .i64 0]],[]⟩ 8 (by kernel_rfl) (by kernel_rfl) (by kernel_rfl) (by kernel_rfl)) ?_
  intro W base args ds gs before hval0 hW _ _;have hval:∀ (j:Nat) t v,Tryz.f8.params[j]? = some t->args[j]? = some v->Value.okWide prog W .any base t v:=hval0
  have hW':=hW;obtain ⟨p,q,hA0,hV,rfl,hfz,hnd⟩:=hW;have hA:DataW.TrodAll enc prog W 0 (fun _=>true) true Tryz.f8.params.toList args.toList ds p:=hA0;have hAk:=hA;rw [Tryz.params8] at hA hval;obtain ⟨v0,v1,d0,d1,p0,p1,rfl,rfl,rfl,h0,h1⟩:=trodAll_two hA;obtain ⟨rfl,rfl⟩:=trodVars_none hV;obtain ⟨sp,op,pa,sc,oc,ca,z,o,n,acts,rfl,hS,hn1,hn2⟩:=open_S (hval 0 25 v0 rfl rfl) h0;obtain ⟨L,d,rfl,hD⟩:=open_D (hval 1 49 v1 rfl rfl) h1;clear hA0 hval0;simp only [C7c] at hW';refine (heapPuts hS hD).mono fun e W' ⟨he,hb⟩=>?_
  subst he;exact ⟨_,rfl,Z0b (pa:=_) (pv:=[]) hW' (fun _ _ _=>trodAll_mk1 (shut_bool underlying4 _)) (fun sp hsp=>K0b hb (by rw [Tryz.params8];decide) hAk (fun p hp=>hW'.lt p (by simpa using hp)) (fun p hp=>hsp p (by simpa using hp))) (fun _ _=>rfl) (by simp) hb⟩
theorem said:Rows.HeapPutsSaid:=
 OpenClaim.holds_of_wide 8 Tryz.f8 rfl rfl rfl rfl rfl rfl rfl ⟨rfl,rfl,rfl,rfl,rfl⟩ rfl rfl rfl rfl rfl (by kernel_rfl) func8 (by kernel_rfl)
  (A2c (by kernel_rfl)) (by unfold Func.isWrapper;first | (rw [H5c (by decide +kernel)];kernel_rfl) | (rw [H4c (by decide +kernel)];exact ⟨rfl,rfl⟩))
  (fun os started H enc _=>lifted os started H enc)
end Go.Proofs.YtdokmmhjmclmnaaGreat.lawHeapPuts
