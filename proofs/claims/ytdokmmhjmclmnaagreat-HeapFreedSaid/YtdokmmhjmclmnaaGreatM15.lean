/-
  Part 15 of a proof: HFn49.
-/
import Derived.Test.YtdokmmhjmclmnaaGreatM04
import Derived.Test.YtdokmmhjmclmnaaGreatM14
set_option linter.unusedSimpArgs false
set_option linter.unusedVariables false
set_option linter.unusedSectionVars false
set_option linter.unnecessarySimpa false
namespace Go.Proofs.YtdokmmhjmclmnaaGreat
open Go.RowKit Go.Maps
def TagsOk (S : Hp.Hs) : Prop := ∀ a ∈ S.taken, ∃ t : Int, Hp.rd S.words a = some t ∧ -4611686018427387904 < t ∧ t < 4611686018427387904
theorem has_nat {S : Hp.Hs} {x : Int} (h : S.has x = true) : ∃ a : Nat, x = a ∧ a ∈ S.taken := by
 unfold Hp.Hs.has at h
 simp only [Bool.and_eq_true, decide_eq_true_eq, List.contains_iff_mem] at h
 exact ⟨x.toNat, by omega, h.2⟩
set_option maxHeartbeats 4000000 in
theorem areCells1_any {w0 w : World} {lb bx br : Nat} {d : Hd} {S : Hp.Hs} {v : Value} {p : Option Addr} {k : Nat} {G : List Int} {r x : Int} (h : LdAt w0 w lb d S v p k G)
    (hx : w.cell? ⟨bx, 0, none⟩ = some (.pointer (some ⟨lb, 0, none⟩))) (hr : w.cell? ⟨br, 0, none⟩ = some (.int .i64 r)) (hT : TagsOk S) (hx1 : -9223372036854775808 ≤ x) (hx2 : x ≤ 9223372036854775807) :
    Calls Tryz.prog 127 #[.int .i64 x, .pointer (some ⟨bx, 0, none⟩), .pointer (some ⟨br, 0, none⟩)] w fun e w' => e = .returned (.bool (Hp.laterB S r x)) ∧ Ext w w' := by
  have h0 := h.h0
  have c0 := h.c0
  have c1 := h.c1
  have zx := cell_lt hx
  have zr := cell_lt hr
  have zl := cell_lt h0
  have zh := cell_lt c0
  have H := Lib.hid h
  cases hb : S.has x with
  | false =>
   have e : Hp.laterB S r x = false := by simp [Hp.laterB, hb]
   rw [e]
   have HB := Lib.hid hb
   clear h hb e hT
   go_enter Tryz.func127, Tryz.ntmps127
   go_wp2_with fail
   have PR26 := Lib.hid (fun (ww : World) (hSw : Ext w ww) => And.intro ((hSw.cell zx 0).trans hx) (And.intro ((hSw.cell zr 0).trans hr) (And.intro ((hSw.cell zl 0).trans h0) (And.intro ((hSw.cell zh 0).trans c0) ((hSw.cell zh 1).trans c1)))))
   refine wp_region_seq (S := fun W => Ext w W) (R := Ext) (by kernel_rfl) Ext.refl ?_ ?_
   · exact exx
   refine' tkL (i := 0) (v := ?v0_1) rfl ?h0_1 ?r0_1
   case h0_1 => (intro w q; obtain ⟨hx', hr', h0', c0', c1'⟩ := PR26.out w q; go_simp; try with_reducible rfl)
   refine layy ?_
   refine' tkL (i := 1) (v := ?v1_2) rfl ?h1_2 ?r1_2
   case h1_2 => (intro w q; obtain ⟨hx', hr', h0', c0', c1'⟩ := PR26.out w q; go_simp; try with_reducible rfl)
   refine layy ?_
   refine' tkL (i := 2) (v := ?v2_3) rfl ?h2_3 ?r2_3
   case h2_3 => (intro w q; obtain ⟨hx', hr', h0', c0', c1'⟩ := PR26.out w q; go_simp; try with_reducible rfl)
   refine layy ?_
   refine' tkL (i := 3) (v := ?v3_4) rfl ?h3_4 ?r3_4
   case h3_4 => (intro w q; obtain ⟨hx', hr', h0', c0', c1'⟩ := PR26.out w q; go_simp; try with_reducible rfl)
   refine layy ?_
   refine' tkL (i := 4) (v := ?v4_5) rfl ?h4_5 ?r4_5
   case h4_5 => (intro w q; obtain ⟨hx', hr', h0', c0', c1'⟩ := PR26.out w q; go_simp; try with_reducible rfl)
   refine layy ?_
   refine' tkR (i := 5) (v := .bool false) rfl (Or.inr ⟨by rfl, 128, _, ?hx5_6, ?hy5_6⟩) ?rest5_6
   case hx5_6 => (intro w hSw; go_simp; (try with_reducible rfl))
   case hy5_6 => exact fun w hE => (isTaken_any (H.out.toHAt.ext hE) HB.out hx1 hx2).mono (fun _ _ h => ⟨h.1, h.2, Ext.trans hE h.2⟩)
   refine layy ?_
   refine' tkL (i := 6) (v := ?v6_7) rfl ?h6_7 ?r6_7
   case h6_7 => (intro w q; obtain ⟨hx', hr', h0', c0', c1'⟩ := PR26.out w q; go_simp; try with_reducible rfl)
   refine layy ?_
   refine' tkR (i := 7) (v := undef) rfl (Or.inl (Or.inr ⟨by rfl, rfl⟩)) ?rest7_8
   refine layy ?_
   refine' tkR (i := 8) (v := undef) rfl (Or.inl (Or.inr ⟨by rfl, rfl⟩)) ?rest8_9
   refine layy ?_
   refine' tkR (i := 9) (v := undef) rfl (Or.inl (Or.inr ⟨by rfl, rfl⟩)) ?rest9_10
   refine layy ?_
   refine' tkR (i := 10) (v := undef) rfl (Or.inl (Or.inr ⟨by rfl, rfl⟩)) ?rest10_11
   refine layy ?_
   refine' tkR (i := 11) (v := undef) rfl (Or.inl (Or.inr ⟨by rfl, rfl⟩)) ?rest11_12
   refine layy ?_
   refine' tkR (i := 12) (v := undef) rfl (Or.inl (Or.inr ⟨by rfl, rfl⟩)) ?rest12_13
   refine layy ?_
   refine' tkR (i := 13) (v := undef) rfl (Or.inl (Or.inr ⟨by rfl, rfl⟩)) ?rest13_14
   refine layy ?_
   refine' tkR (i := 14) (v := undef) rfl (Or.inl (Or.inr ⟨by rfl, rfl⟩)) ?rest14_15
   refine layy ?_
   refine' tkR (i := 15) (v := undef) rfl (Or.inl (Or.inr ⟨by rfl, rfl⟩)) ?rest15_16
   refine layy ?_
   refine' tkR (i := 16) (v := undef) rfl (Or.inl (Or.inr ⟨by rfl, rfl⟩)) ?rest16_17
   refine layy ?_
   refine' tkR (i := 17) (v := undef) rfl (Or.inl (Or.inr ⟨by rfl, rfl⟩)) ?rest17_18
   refine layy ?_
   refine' tkR (i := 18) (v := undef) rfl (Or.inl (Or.inr ⟨by rfl, rfl⟩)) ?rest18_19
   refine layy ?_
   refine' tkR (i := 19) (v := undef) rfl (Or.inl (Or.inr ⟨by rfl, rfl⟩)) ?rest19_20
   refine layy ?_
   refine' tkR (i := 20) (v := undef) rfl (Or.inl (Or.inr ⟨by rfl, rfl⟩)) ?rest20_21
   refine layy ?_
   refine' tkR (i := 21) (v := undef) rfl (Or.inl (Or.inr ⟨by rfl, rfl⟩)) ?rest21_22
   refine layy ?_
   refine' tkR (i := 22) (v := undef) rfl (Or.inl (Or.inr ⟨by rfl, rfl⟩)) ?rest22_23
   refine layy ?_
   refine' tkL (i := 23) (v := ?v23_24) rfl ?h23_24 ?r23_24
   case h23_24 => (intro w q; obtain ⟨hx', hr', h0', c0', c1'⟩ := PR26.out w q; go_simp; try with_reducible rfl)
   refine layy ?_
   refine' tkL (i := 24) (v := ?v24_25) rfl ?h24_25 ?r24_25
   case h24_25 => (intro w q; obtain ⟨hx', hr', h0', c0', c1'⟩ := PR26.out w q; go_simp; try with_reducible rfl)
   refine layy ?_
   refine wpAnyR_done (by kernel_rfl) ?_ _
   intro x1 _ Ex1
   go_wp2
   go_returns
   exact ⟨rfl, exx⟩
  | true =>
   obtain ⟨a, rfl, ha⟩ := has_nat hb
   obtain ⟨t, ht, t1, t2⟩ := hT a ha
   have e : Hp.laterB S r a = decide (Hp.rank S.order t > r) := by simp [Hp.laterB, hb, ht]
   rw [e]
   have HB := Lib.hid hb
   have HTG := Lib.hid ht
   generalize hr1 : Hp.rank S.order t = r1
   have HR1 := Lib.hid hr1
   clear h hb e hT ht ha hr1
   go_enter Tryz.func127, Tryz.ntmps127
   go_wp2_with fail
   have PR27 := Lib.hid (fun (ww : World) (hSw : Ext w ww) => And.intro ((hSw.cell zx 0).trans hx) (And.intro ((hSw.cell zr 0).trans hr) (And.intro ((hSw.cell zl 0).trans h0) (And.intro ((hSw.cell zh 0).trans c0) ((hSw.cell zh 1).trans c1)))))
   refine wp_region_seq (S := fun W => Ext w W) (R := Ext) (by kernel_rfl) Ext.refl ?_ ?_
   · exact exx
   refine' tkL (i := 0) (v := ?v0_26) rfl ?h0_26 ?r0_26
   case h0_26 => (intro w q; obtain ⟨hx', hr', h0', c0', c1'⟩ := PR27.out w q; go_simp; try with_reducible rfl)
   refine layy ?_
   refine' tkL (i := 1) (v := ?v1_27) rfl ?h1_27 ?r1_27
   case h1_27 => (intro w q; obtain ⟨hx', hr', h0', c0', c1'⟩ := PR27.out w q; go_simp; try with_reducible rfl)
   refine layy ?_
   refine' tkL (i := 2) (v := ?v2_28) rfl ?h2_28 ?r2_28
   case h2_28 => (intro w q; obtain ⟨hx', hr', h0', c0', c1'⟩ := PR27.out w q; go_simp; try with_reducible rfl)
   refine layy ?_
   refine' tkL (i := 3) (v := ?v3_29) rfl ?h3_29 ?r3_29
   case h3_29 => (intro w q; obtain ⟨hx', hr', h0', c0', c1'⟩ := PR27.out w q; go_simp; try with_reducible rfl)
   refine layy ?_
   refine' tkL (i := 4) (v := ?v4_30) rfl ?h4_30 ?r4_30
   case h4_30 => (intro w q; obtain ⟨hx', hr', h0', c0', c1'⟩ := PR27.out w q; go_simp; try with_reducible rfl)
   refine layy ?_
   refine' tkR (i := 5) (v := .bool true) rfl (Or.inr ⟨by rfl, 128, _, ?hx5_31, ?hy5_31⟩) ?rest5_31
   case hx5_31 => (intro w hSw; go_simp; (try with_reducible rfl))
   case hy5_31 => exact fun w hE => (isTaken_any (H.out.toHAt.ext hE) HB.out hx1 hx2).mono (fun _ _ h => ⟨h.1, h.2, Ext.trans hE h.2⟩)
   refine layy ?_
   refine' tkL (i := 6) (v := ?v6_32) rfl ?h6_32 ?r6_32
   case h6_32 => (intro w q; obtain ⟨hx', hr', h0', c0', c1'⟩ := PR27.out w q; go_simp; try with_reducible rfl)
   refine layy ?_
   refine' tkL (i := 7) (v := ?v7_33) rfl ?h7_33 ?r7_33
   case h7_33 => (intro w q; obtain ⟨hx', hr', h0', c0', c1'⟩ := PR27.out w q; go_simp; try with_reducible rfl)
   refine layy ?_
   refine' tkL (i := 8) (v := ?v8_34) rfl ?h8_34 ?r8_34
   case h8_34 => (intro w q; obtain ⟨hx', hr', h0', c0', c1'⟩ := PR27.out w q; go_simp; try with_reducible rfl)
   refine layy ?_
   refine' tkL (i := 9) (v := ?v9_35) rfl ?h9_35 ?r9_35
   case h9_35 => (intro w q; obtain ⟨hx', hr', h0', c0', c1'⟩ := PR27.out w q; go_simp; try with_reducible rfl)
   refine layy ?_
   refine' tkL (i := 10) (v := ?v10_36) rfl ?h10_36 ?r10_36
   case h10_36 => (intro w q; obtain ⟨hx', hr', h0', c0', c1'⟩ := PR27.out w q; go_simp; try with_reducible rfl)
   refine layy ?_
   refine' tkL (i := 11) (v := ?v11_37) rfl ?h11_37 ?r11_37
   case h11_37 => (intro w q; obtain ⟨hx', hr', h0', c0', c1'⟩ := PR27.out w q; go_simp; try with_reducible rfl)
   refine layy ?_
   refine' tkL (i := 12) (v := ?v12_38) rfl ?h12_38 ?r12_38
   case h12_38 => (intro w q; obtain ⟨hx', hr', h0', c0', c1'⟩ := PR27.out w q; go_simp; try with_reducible rfl)
   refine layy ?_
   refine' tkL (i := 13) (v := ?v13_39) rfl ?h13_39 ?r13_39
   case h13_39 => (intro w q; obtain ⟨hx', hr', h0', c0', c1'⟩ := PR27.out w q; go_simp; try with_reducible rfl)
   refine layy ?_
   refine' tkL (i := 14) (v := ?v14_40) rfl ?h14_40 ?r14_40
   case h14_40 => (intro w q; obtain ⟨hx', hr', h0', c0', c1'⟩ := PR27.out w q; go_simp; try with_reducible rfl)
   refine layy ?_
   refine' tkL (i := 15) (v := ?v15_41) rfl ?h15_41 ?r15_41
   case h15_41 => (intro w q; obtain ⟨hx', hr', h0', c0', c1'⟩ := PR27.out w q; go_simp; try with_reducible rfl)
   refine layy ?_
   refine' tkL (i := 16) (v := ?v16_42) rfl ?h16_42 ?r16_42
   case h16_42 => (intro w q; obtain ⟨hx', hr', h0', c0', c1'⟩ := PR27.out w q; go_simp; try with_reducible rfl)
   refine layy ?_
   refine' tkL (i := 17) (v := ?v17_43) rfl ?h17_43 ?r17_43
   case h17_43 => (intro w q; obtain ⟨hx', hr', h0', c0', c1'⟩ := PR27.out w q; go_simp; try with_reducible rfl)
   refine layy ?_
   refine' tkL (i := 18) (v := ?v18_44) rfl ?h18_44 ?r18_44
   case h18_44 => (intro w q; obtain ⟨hx', hr', h0', c0', c1'⟩ := PR27.out w q; go_simp; try with_reducible rfl)
   refine layy ?_
   refine' tkR (i := 19) (v := .int .i64 t) rfl (Or.inr ⟨by rfl, 76, _, ?hx19_45, ?hy19_45⟩) ?rest19_45
   case hx19_45 => (intro w hSw; go_simp; (try with_reducible rfl))
   case hy19_45 => exact fun w hE => (tag_any (H.out.toHAt.ext hE).c2 rfl H.out.le H.out.cap (H.out.toHAt.ext hE).words HTG.out).mono (fun _ _ h => ⟨h.1, h.2, Ext.trans hE h.2⟩)
   refine layy ?_
   refine' tkR (i := 20) (v := .int .i64 r1) rfl (Or.inr ⟨by rfl, 126, _, ?hx20_46, ?hy20_46⟩) ?rest20_46
   case hx20_46 => (intro w hSw; go_simp; (try with_reducible rfl))
   case hy20_46 => exact fun w hE => ((HR1.out ▸ rank_any (H.out.toHAt.ext hE).order (by omega) (by omega))).mono (fun _ _ h => ⟨h.1, h.2, Ext.trans hE h.2⟩)
   refine layy ?_
   refine' tkL (i := 21) (v := ?v21_47) rfl ?h21_47 ?r21_47
   case h21_47 => (intro w q; obtain ⟨hx', hr', h0', c0', c1'⟩ := PR27.out w q; go_simp; try with_reducible rfl)
   refine layy ?_
   refine' tkL (i := 22) (v := ?v22_48) rfl ?h22_48 ?r22_48
   case h22_48 => (intro w q; obtain ⟨hx', hr', h0', c0', c1'⟩ := PR27.out w q; go_simp; try with_reducible rfl)
   refine layy ?_
   refine' tkL (i := 23) (v := ?v23_49) rfl ?h23_49 ?r23_49
   case h23_49 => (intro w q; obtain ⟨hx', hr', h0', c0', c1'⟩ := PR27.out w q; go_simp; try with_reducible rfl)
   refine layy ?_
   refine' tkL (i := 24) (v := ?v24_50) rfl ?h24_50 ?r24_50
   case h24_50 => (intro w q; obtain ⟨hx', hr', h0', c0', c1'⟩ := PR27.out w q; go_simp; try with_reducible rfl)
   refine layy ?_
   refine wpAnyR_done (by kernel_rfl) ?_ _
   intro x1 _ Ex1
   go_wp2
   go_returns
   exact ⟨rfl, exx⟩
end Go.Proofs.YtdokmmhjmclmnaaGreat
