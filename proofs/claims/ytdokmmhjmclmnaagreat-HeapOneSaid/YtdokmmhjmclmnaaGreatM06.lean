/-
  Part 6 of a proof: HFn17.
-/
import Derived.Test.YtdokmmhjmclmnaaGreatM05
set_option linter.unusedSimpArgs false
set_option linter.unusedVariables false
set_option linter.unusedSectionVars false
set_option linter.unnecessarySimpa false
namespace Go.Proofs.YtdokmmhjmclmnaaGreat
open Go.RowKit Go.Maps
set_option maxRecDepth 100000 in
set_option maxHeartbeats 16000000 in
theorem free_any {w : World} {d : Hd} {S S' : Hp.Hs} {a : Nat} (h : HAt w d S) (hr : S.free a = some S') :
    Calls Tryz.prog 161 #[.pointer (some ⟨d.hb, 0, none⟩), .int .i64 a] w (Turned d w (.tuple #[]) S') := by
  obtain ⟨t, k, W, before, link, next, ht, hk, hW, hs, hx, W', rfl, hq⟩ := free_some hr
  have hwk := wide_le h hk
  have sm := h.small
  have hle := h.le
  have hcap := h.cap
  have apn := h.apart1
  have apn' := h.apart1.symm
  have c0 := h.c0
  have c1 := h.c1
  have z1 := h.lt
  have hz := HAt.zero_len hW
  generalize hn : S.words.length = n at sm hle hz
  have EN := Lib.hid hn
  have EL := Lib.hid hz.1
  have hzl := hz.2
  have H := Lib.hid (Now.refl h)
  have HTG := Lib.hid ht
  have HK := Lib.hid hk
  have HW := Lib.hid hW
  have HS := Lib.hid hs
  have HX := Lib.hid hx
  have HQ0 := Lib.hid hq
  clear h hr ht hk hW hs hx hz hn hq
  go_enter Tryz.func161, Tryz.ntmps161
  go_wp2_with fail
  have PR9 := Lib.hid (fun (ww : World) (hSw : Ext w ww) => And.intro ((hSw.cell z1 0).trans c0) ((hSw.cell z1 1).trans c1))
  refine wp_region_seq (S := fun W => Ext w W) (R := Ext) (by kernel_rfl) Ext.refl ?_ ?_
  · exact exx
  refine' tkL (i := 0) (v := ?v0_1) rfl ?h0_1 ?r0_1
  case h0_1 => (intro w q; obtain ⟨c0', c1'⟩ := PR9.out w q; go_simp; try with_reducible rfl)
  refine layy ?_
  refine' tkL (i := 1) (v := ?v1_2) rfl ?h1_2 ?r1_2
  case h1_2 => (intro w q; obtain ⟨c0', c1'⟩ := PR9.out w q; go_simp; try with_reducible rfl)
  refine layy ?_
  refine' tkL (i := 2) (v := ?v2_3) rfl ?h2_3 ?r2_3
  case h2_3 => (intro w q; obtain ⟨c0', c1'⟩ := PR9.out w q; go_simp; try with_reducible rfl)
  refine layy ?_
  refine' tkL (i := 3) (v := ?v3_4) rfl ?h3_4 ?r3_4
  case h3_4 => (intro w q; obtain ⟨c0', c1'⟩ := PR9.out w q; go_simp; try with_reducible rfl)
  refine layy ?_
  refine' tkL (i := 4) (v := ?v4_5) rfl ?h4_5 ?r4_5
  case h4_5 => (intro w q; obtain ⟨c0', c1'⟩ := PR9.out w q; go_simp; try with_reducible rfl)
  refine layy ?_
  refine' tkL (i := 5) (v := ?v5_6) rfl ?h5_6 ?r5_6
  case h5_6 => (intro w q; obtain ⟨c0', c1'⟩ := PR9.out w q; go_simp; try with_reducible rfl)
  refine layy ?_
  refine' tkR (i := 6) (v := .int .i64 t) rfl (Or.inr ⟨by rfl, 76, _, ?hx6_7, ?hy6_7⟩) ?rest6_7
  case hx6_7 => (intro w hSw; go_simp; (try with_reducible rfl))
  case hy6_7 => exact fun w hE => (tag_any (H.out.toHAt.ext hE).c2 rfl H.out.le H.out.cap (H.out.toHAt.ext hE).words HTG.out).mono (fun _ _ h => ⟨h.1, h.2, Ext.trans hE h.2⟩)
  refine layy ?_
  refine' tkR (i := 7) (v := .int .i64 k) rfl (Or.inr ⟨by rfl, 123, _, ?hx7_8, ?hy7_8⟩) ?rest7_8
  case hx7_8 => (intro w hSw; go_simp; (try with_reducible rfl))
  case hy7_8 => exact fun w hE => (wide_any (H.out.toHAt.ext hE).sizes HK.out (by omega)).mono (fun _ _ h => ⟨h.1, h.2, Ext.trans hE h.2⟩)
  refine layy ?_
  refine' tkL (i := 8) (v := ?v8_9) rfl ?h8_9 ?r8_9
  case h8_9 => (intro w q; obtain ⟨c0', c1'⟩ := PR9.out w q; go_simp; try with_reducible rfl)
  refine layy ?_
  refine wpAnyR_done (by kernel_rfl) ?_ _
  intro x1 _ Ex1
  have N0 := Lib.hid (H.out.ext Ex1)
  have c3 := N0.out.c3
  clear c0 c1 z1
  go_upto_region 2 with (at_delete; refine wpList_delete_taken rfl _ _ rfl rfl rfl N0.out.map (by omega) ?_; intro w2 hm2 ht2; go_frame)
  have N2 := Lib.hid (N0.out.mapped ht2 hm2 (fun x hx => N0.out.below x (List.mem_of_mem_erase hx)))
  clear hm2 ht2 c3 N0 Ex1
  have c2 := N2.out.len EN.out
  have hcl := fun c ty => run_clear_words N2.out.toHAt HW.out (by omega) c ty
  have N2c := Lib.hid (N2.out.clear HW.out)
  go_upto_region 3 with (fail)
  refine Now.cut N2c.out ?_
  intro w3 N3'
  have N3 := Lib.hid N3'
  clear N3' c2 hcl N2c N2
  obtain ⟨_, x16, _, h16, _⟩ := seek_succ HS.out
  have g16 := N3.out.words.get (ra_some h16)
  have l16 := rd_lt (ra_some h16)
  rw [EL.out] at l16
  have c2 := N3.out.len EL.out
  have X16 := Lib.hid h16
  clear h16
  go_wp2_with fail
  clear c2 g16
  go_loopg [5, 6, 7] S.fuel (fun g b l s wr => ∃ m bf lk nx : Nat, wr = w3 ∧ m ≤ g ∧ b = .int .i64 bf ∧ l = .int .i64 lk ∧ s = .int .i64 nx ∧ lk < n ∧ Hid (Hp.ra W lk = some nx) ∧ Hid (Hp.Hs.seek W a m bf lk = some (before, link)))
  case atStart => exact ⟨S.fuel, 0, 16, x16, rfl, Nat.le_refl _, rfl, rfl, rfl, l16, X16, HS⟩
  case round =>
   obtain ⟨m, bf, lk, nx, rfl, hm, rfl, rfl, rfl, hll, RA, SK⟩ := hrel
   obtain ⟨n', nx', hn', hnx', hsk⟩ := seek_succ SK.out
   have e := RA.out
   rw [hnx'] at e
   cases e
   have HN := Lib.hid hn'
   clear hn' hnx'
   rcases hsk with ⟨h0, h1, h2⟩ | ⟨hne0, he⟩
   · have u0 : ((nx : Int) != 0) = true := by simpa using h0
     have u1 : decide (nx < a) = true := decide_eq_true h1
     obtain ⟨_, nx2, _, hnx2, _⟩ := seek_succ h2
     have g2 := N3.out.words.get (ra_some hnx2)
     have l2 := rd_lt (ra_some hnx2)
     rw [EL.out] at l2
     have c2 := N3.out.len EL.out
     have X2 := Lib.hid hnx2
     have SK2 := Lib.hid h2
     clear h0 h1 h2 hnx2
     go_wp2_with fail
     go_roundg n'
     case measure => have := HN.out; omega
     case rel => exact ⟨n', nx, nx + 2, nx2, rfl, Nat.le_refl _, rfl, by go_num, rfl, l2, X2, SK2⟩
   · obtain ⟨rfl, rfl⟩ := by simpa using he
     obtain rfl : next = (nx : Int) := by
      have h1 := HX.out
      rw [ra_some RA.out] at h1
      exact (Option.some.inj h1).symm
     have hq := HQ0.out
     clear he HQ0
     by_cases hz0 : nx = 0
     · skip
       have c2 := N3.out.len EL.out
       have gl := N3.out.words.get (ra_some RA.out)
       have hnx := N3.out.words.bound (ra_some RA.out)
       have hnx1 := hnx.1
       have hnx2 := hnx.2
       clear hnx
       have u0 : ((nx : Int) != 0) = false := by simpa using hz0
       rcases hq with ⟨hne, _⟩ | ⟨hne, hft⟩
       · exfalso
         omega
       · skip
         have u2 : ((nx : Int) == (a : Int) + (k : Int)) = false := by
          simpa using (fun e => hne (by rw [e]; simp) : ¬ (nx : Int) = (a : Int) + (k : Int))
         have HT := Lib.hid hft
         clear hne hft
         (try clear hz0)
         (try clear hge)
         go_upto_region 14 with (fail)
         clear c2 gl u0 u2
         (try clear u1)
         rcases freeTail_some HT.out with ⟨hb, v, hv, hc, V1, h1, h2⟩ | ⟨hb | ⟨hb, v, hv, hc⟩, V1, V2, h1, h2, h3⟩
         · have t0 : ((before : Int) != 0) = true := by simpa using hb
           obtain ⟨hv, hv1, hv2⟩ := rc_some hv
           have gv := N3.out.words.get hv
           have lv := rd_lt hv
           rw [EL.out] at lv
           have t1 : ((before : Int) + v == (a : Int)) = true := by simpa using hc
           have c2 := N3.out.len EL.out
           have fv := N3.out.words.froz (before + 1)
           have NY := Lib.hid (N3.out.set h1 (by omega) (by omega))
           have EL1 := Lib.hid ((HAt.wr_len h1).1.trans EL.out)
           have H2 := Lib.hid h2
           have l2 := (HAt.wr_len h2).2
           rw [EL1.out] at l2
           clear hb hv hc h1 h2
           go_upto_region 16 with (fail)
           refine Now.cut NY.out ?_
           clear NY gv fv c2
           intro wy NY'
           have NY := Lib.hid NY'
           clear NY'
           have c2 := NY.out.len EL1.out
           obtain ⟨y3, hy3⟩ := rd_get (HAt.wr_len H2.out).2
           have g3 := NY.out.words.get hy3
           have f3 := NY.out.words.froz (before + 2)
           have Y3 := Lib.hid hy3
           clear hy3
           go_wp2_with fail
           go_returns
           exact (NY.out.set H2.out (by omega) (by omega)).done
         · have t0 : ((before : Int) != 0) = false := by simpa using hb
           clear hb
           have e1 := HAt.wr_len h1
           have e2 := HAt.wr_len h2
           have e3 := HAt.wr_len h3
           have l1 := e1.2
           rw [EL.out] at l1
           have l2 := e2.2
           rw [e1.1, EL.out] at l2
           obtain ⟨y1, hy1⟩ := rd_get (l := W) (j := a + 1) (by rw [EL.out]; exact l1)
           obtain ⟨y2, hy2⟩ := rd_get (l := W) (j := a + 2) (by rw [EL.out]; exact l2)
           have EL2 := Lib.hid (e2.1.trans (e1.1.trans EL.out))
           have Y1 := Lib.hid hy1
           have Y2 := Lib.hid hy2
           have H1 := Lib.hid h1
           have H2 := Lib.hid h2
           have H3 := Lib.hid h3
           clear e1 e2 e3 hy1 hy2 h1 h2 h3
           go_upto_region 17 with (fail)
           (try clear gv)
           (try clear c2)
           have c2 := N3.out.len EL.out
           have z1 := N3.out.lt
           obtain ⟨i1, i2, i3, i4⟩ : IntKind.i64.wrap (((a : Nat) : Int) + 1) = ((a : Nat) : Int) + 1 ∧ (0 : Int) ≤ ((a : Nat) : Int) + 1 ∧ ((a : Nat) : Int) + 1 < ((n : Nat) : Int) ∧ (((a : Nat) : Int) + 1).toNat = a + 1 := ⟨IntWalk.i64_in _ (by omega), by omega, by omega, by omega⟩
           obtain ⟨j1, j2, j3, j4⟩ : IntKind.i64.wrap (((a : Nat) : Int) + 2) = ((a : Nat) : Int) + 2 ∧ (0 : Int) ≤ ((a : Nat) : Int) + 2 ∧ ((a : Nat) : Int) + 2 < ((n : Nat) : Int) ∧ (((a : Nat) : Int) + 2).toNat = a + 2 := ⟨IntWalk.i64_in _ (by omega), by omega, by omega, by omega⟩
           refine wp_region_any (by kernel_rfl) ?_
           refine' wpAny_take (i := 10) (v := ?v10_10) rfl (by kernel_rfl) (by kernel_rfl) (by kernel_rfl) (fun _ _ _ h => h) (Or.inl ⟨by rfl, ?hy10_10⟩) ?rest10_10
           case hy10_10 => (intro w; go_simp; (try with_reducible rfl))
           refine layy ?_
           refine' wpAny_take (i := 11) (v := ?v11_11) rfl (by kernel_rfl) (by kernel_rfl) (by kernel_rfl) (fun _ _ _ h => h) (Or.inl ⟨by rfl, ?hy11_11⟩) ?rest11_11
           case hy11_11 => (intro w; go_simp; (try with_reducible rfl))
           refine layy ?_
           refine' wpAny_take (i := 13) (v := ?v13_12) rfl (by kernel_rfl) (by kernel_rfl) (by kernel_rfl) (fun _ _ _ h => h) (Or.inl ⟨by rfl, ?hy13_12⟩) ?rest13_12
           case hy13_12 => (intro w; go_simp; (try with_reducible rfl))
           refine layy ?_
           have PR10 := Lib.hid (fun (ww : World) (hSw : Ext wr ww) => (hSw.cell z1 2).trans c2)
           refine wpAny_to_X (S := fun W => Ext wr W) (R := Ext) 14 11 Ext.refl ?_ ?_ (by rfl)
           · exact Ext.drew exx
           refine' tkY (i := 0) (v := ?v0_13) rfl ?h0_13 ?r0_13
           case h0_13 => (intro w q; obtain c2' := PR10.out w q; go_simp; try with_reducible rfl)
           refine layy ?_
           refine' tkY (i := 1) (v := ?v1_14) rfl ?h1_14 ?r1_14
           case h1_14 => (intro w q; obtain c2' := PR10.out w q; go_simp; try with_reducible rfl)
           refine layy ?_
           refine' tkY (i := 2) (v := ?v2_15) rfl ?h2_15 ?r2_15
           case h2_15 => (intro w q; obtain c2' := PR10.out w q; go_simp; try with_reducible rfl)
           refine layy ?_
           refine' tkY (i := 3) (v := ?v3_16) rfl ?h3_16 ?r3_16
           case h3_16 => (intro w q; obtain c2' := PR10.out w q; go_simp; try with_reducible rfl)
           refine layy ?_
           refine' tkY (i := 4) (v := ?v4_17) rfl ?h4_17 ?r4_17
           case h4_17 => (intro w q; obtain c2' := PR10.out w q; go_simp; try with_reducible rfl)
           refine layy ?_
           refine' tkY (i := 5) (v := ?v5_18) rfl ?h5_18 ?r5_18
           case h5_18 => (intro w q; obtain c2' := PR10.out w q; go_simp; try with_reducible rfl)
           refine layy ?_
           refine' tkY (i := 6) (v := ?v6_19) rfl ?h6_19 ?r6_19
           case h6_19 => (intro w q; obtain c2' := PR10.out w q; go_simp; try with_reducible rfl)
           refine layy ?_
           refine' tkY (i := 7) (v := ?v7_20) rfl ?h7_20 ?r7_20
           case h7_20 => (intro w q; obtain c2' := PR10.out w q; go_simp; try with_reducible rfl)
           refine layy ?_
           refine' tkY (i := 8) (v := ?v8_21) rfl ?h8_21 ?r8_21
           case h8_21 => (intro w q; obtain c2' := PR10.out w q; go_simp; try with_reducible rfl)
           refine layy ?_
           refine' tkY (i := 9) (v := ?v9_22) rfl ?h9_22 ?r9_22
           case h9_22 => (intro w q; obtain c2' := PR10.out w q; go_simp; try with_reducible rfl)
           refine layy ?_
           refine' tkY (i := 12) (v := ?v12_23) rfl ?h12_23 ?r12_23
           case h12_23 => (intro w q; obtain c2' := PR10.out w q; go_simp; try with_reducible rfl)
           refine layy ?_
           refine wpAnyX_done (by kernel_rfl) ?_
           intro wz _ Ewz
           simp only [List.drop_succ_cons, List.drop_zero]
           clear c2 z1 i1 i2 i3 i4 j1 j2 j3 j4
           have NZ := Lib.hid (N3.out.ext Ewz)
           have g1 := NZ.out.words.get Y1.out
           have g2 := NZ.out.words.get Y2.out
           have f1 := NZ.out.words.froz (a + 1)
           have f2 := NZ.out.words.froz (a + 2)
           have NY := Lib.hid ((NZ.out.set H1.out (by omega) (by omega)).set H2.out (by omega) (by omega))
           go_upto_region 18 with (fail)
           refine Now.cut NY.out ?_
           clear NY NZ g1 g2 f1 f2 Ewz
           intro wy NY'
           have NY := Lib.hid NY'
           clear NY'
           have c2 := NY.out.len EL2.out
           obtain ⟨y3, hy3⟩ := rd_get (HAt.wr_len H3.out).2
           have g3 := NY.out.words.get hy3
           have f3 := NY.out.words.froz link
           have Y3 := Lib.hid hy3
           clear hy3
           go_wp2_with fail
           go_returns
           exact (NY.out.set H3.out (by omega) (by omega)).done
         · have t0 : ((before : Int) != 0) = true := by simpa using hb
           obtain ⟨hv, hv1, hv2⟩ := rc_some hv
           have gv := N3.out.words.get hv
           have lv := rd_lt hv
           rw [EL.out] at lv
           have t1 : ((before : Int) + v == (a : Int)) = false := by simpa using hc
           have c2 := N3.out.len EL.out
           clear hb hv hc
           have e1 := HAt.wr_len h1
           have e2 := HAt.wr_len h2
           have e3 := HAt.wr_len h3
           have l1 := e1.2
           rw [EL.out] at l1
           have l2 := e2.2
           rw [e1.1, EL.out] at l2
           obtain ⟨y1, hy1⟩ := rd_get (l := W) (j := a + 1) (by rw [EL.out]; exact l1)
           obtain ⟨y2, hy2⟩ := rd_get (l := W) (j := a + 2) (by rw [EL.out]; exact l2)
           have EL2 := Lib.hid (e2.1.trans (e1.1.trans EL.out))
           have Y1 := Lib.hid hy1
           have Y2 := Lib.hid hy2
           have H1 := Lib.hid h1
           have H2 := Lib.hid h2
           have H3 := Lib.hid h3
           clear e1 e2 e3 hy1 hy2 h1 h2 h3
           go_upto_region 17 with (fail)
           (try clear gv)
           (try clear c2)
           have c2 := N3.out.len EL.out
           have z1 := N3.out.lt
           obtain ⟨i1, i2, i3, i4⟩ : IntKind.i64.wrap (((a : Nat) : Int) + 1) = ((a : Nat) : Int) + 1 ∧ (0 : Int) ≤ ((a : Nat) : Int) + 1 ∧ ((a : Nat) : Int) + 1 < ((n : Nat) : Int) ∧ (((a : Nat) : Int) + 1).toNat = a + 1 := ⟨IntWalk.i64_in _ (by omega), by omega, by omega, by omega⟩
           obtain ⟨j1, j2, j3, j4⟩ : IntKind.i64.wrap (((a : Nat) : Int) + 2) = ((a : Nat) : Int) + 2 ∧ (0 : Int) ≤ ((a : Nat) : Int) + 2 ∧ ((a : Nat) : Int) + 2 < ((n : Nat) : Int) ∧ (((a : Nat) : Int) + 2).toNat = a + 2 := ⟨IntWalk.i64_in _ (by omega), by omega, by omega, by omega⟩
           refine wp_region_any (by kernel_rfl) ?_
           refine' wpAny_take (i := 10) (v := ?v10_24) rfl (by kernel_rfl) (by kernel_rfl) (by kernel_rfl) (fun _ _ _ h => h) (Or.inl ⟨by rfl, ?hy10_24⟩) ?rest10_24
           case hy10_24 => (intro w; go_simp; (try with_reducible rfl))
           refine layy ?_
           refine' wpAny_take (i := 11) (v := ?v11_25) rfl (by kernel_rfl) (by kernel_rfl) (by kernel_rfl) (fun _ _ _ h => h) (Or.inl ⟨by rfl, ?hy11_25⟩) ?rest11_25
           case hy11_25 => (intro w; go_simp; (try with_reducible rfl))
           refine layy ?_
           refine' wpAny_take (i := 13) (v := ?v13_26) rfl (by kernel_rfl) (by kernel_rfl) (by kernel_rfl) (fun _ _ _ h => h) (Or.inl ⟨by rfl, ?hy13_26⟩) ?rest13_26
           case hy13_26 => (intro w; go_simp; (try with_reducible rfl))
           refine layy ?_
           have PR11 := Lib.hid (fun (ww : World) (hSw : Ext wr ww) => (hSw.cell z1 2).trans c2)
           refine wpAny_to_X (S := fun W => Ext wr W) (R := Ext) 14 11 Ext.refl ?_ ?_ (by rfl)
           · exact Ext.drew exx
           refine' tkY (i := 0) (v := ?v0_27) rfl ?h0_27 ?r0_27
           case h0_27 => (intro w q; obtain c2' := PR11.out w q; go_simp; try with_reducible rfl)
           refine layy ?_
           refine' tkY (i := 1) (v := ?v1_28) rfl ?h1_28 ?r1_28
           case h1_28 => (intro w q; obtain c2' := PR11.out w q; go_simp; try with_reducible rfl)
           refine layy ?_
           refine' tkY (i := 2) (v := ?v2_29) rfl ?h2_29 ?r2_29
           case h2_29 => (intro w q; obtain c2' := PR11.out w q; go_simp; try with_reducible rfl)
           refine layy ?_
           refine' tkY (i := 3) (v := ?v3_30) rfl ?h3_30 ?r3_30
           case h3_30 => (intro w q; obtain c2' := PR11.out w q; go_simp; try with_reducible rfl)
           refine layy ?_
           refine' tkY (i := 4) (v := ?v4_31) rfl ?h4_31 ?r4_31
           case h4_31 => (intro w q; obtain c2' := PR11.out w q; go_simp; try with_reducible rfl)
           refine layy ?_
           refine' tkY (i := 5) (v := ?v5_32) rfl ?h5_32 ?r5_32
           case h5_32 => (intro w q; obtain c2' := PR11.out w q; go_simp; try with_reducible rfl)
           refine layy ?_
           refine' tkY (i := 6) (v := ?v6_33) rfl ?h6_33 ?r6_33
           case h6_33 => (intro w q; obtain c2' := PR11.out w q; go_simp; try with_reducible rfl)
           refine layy ?_
           refine' tkY (i := 7) (v := ?v7_34) rfl ?h7_34 ?r7_34
           case h7_34 => (intro w q; obtain c2' := PR11.out w q; go_simp; try with_reducible rfl)
           refine layy ?_
           refine' tkY (i := 8) (v := ?v8_35) rfl ?h8_35 ?r8_35
           case h8_35 => (intro w q; obtain c2' := PR11.out w q; go_simp; try with_reducible rfl)
           refine layy ?_
           refine' tkY (i := 9) (v := ?v9_36) rfl ?h9_36 ?r9_36
           case h9_36 => (intro w q; obtain c2' := PR11.out w q; go_simp; try with_reducible rfl)
           refine layy ?_
           refine' tkY (i := 12) (v := ?v12_37) rfl ?h12_37 ?r12_37
           case h12_37 => (intro w q; obtain c2' := PR11.out w q; go_simp; try with_reducible rfl)
           refine layy ?_
           refine wpAnyX_done (by kernel_rfl) ?_
           intro wz _ Ewz
           simp only [List.drop_succ_cons, List.drop_zero]
           clear c2 z1 i1 i2 i3 i4 j1 j2 j3 j4
           have NZ := Lib.hid (N3.out.ext Ewz)
           have g1 := NZ.out.words.get Y1.out
           have g2 := NZ.out.words.get Y2.out
           have f1 := NZ.out.words.froz (a + 1)
           have f2 := NZ.out.words.froz (a + 2)
           have NY := Lib.hid ((NZ.out.set H1.out (by omega) (by omega)).set H2.out (by omega) (by omega))
           go_upto_region 18 with (fail)
           refine Now.cut NY.out ?_
           clear NY NZ g1 g2 f1 f2 Ewz
           intro wy NY'
           have NY := Lib.hid NY'
           clear NY'
           have c2 := NY.out.len EL2.out
           obtain ⟨y3, hy3⟩ := rd_get (HAt.wr_len H3.out).2
           have g3 := NY.out.words.get hy3
           have f3 := NY.out.words.froz link
           have Y3 := Lib.hid hy3
           clear hy3
           go_wp2_with fail
           go_returns
           exact (NY.out.set H3.out (by omega) (by omega)).done
     · have hge : a ≤ nx := by
         apply Classical.byContradiction
         intro hlt
         exact hne0 ⟨hz0, by omega⟩
       have c2 := N3.out.len EL.out
       have gl := N3.out.words.get (ra_some RA.out)
       have hnx := N3.out.words.bound (ra_some RA.out)
       have hnx1 := hnx.1
       have hnx2 := hnx.2
       clear hnx
       have u0 : ((nx : Int) != 0) = true := by simpa using hz0
       have u1 : decide (nx < a) = false := decide_eq_false (by omega)
       rcases hq with ⟨hne, after, v0, U1, U2, haf, hv0, hck, hU1, hU2, hft⟩ | ⟨hne, hft⟩
       · skip
         have e : a + k = nx := by omega
         have u2 : ((nx : Int) == (a : Int) + (k : Int)) = true := by simpa using (by omega : (nx : Int) = (a : Int) + (k : Int))
         rw [e] at haf hv0 hU1 hU2
         obtain ⟨hv0, hv1, hv2⟩ := rc_some hv0
         obtain ⟨-, hw1, hw2⟩ := ck_some hck
         have ha := N3.out.words.bound haf
         have ha1 := ha.1
         have ha2 := ha.2
         have g0 := N3.out.words.get hv0
         have g4 := N3.out.words.get haf
         have l3 := rd_lt hv0
         rw [EL.out] at l3
         have l4 := rd_lt haf
         rw [EL.out] at l4
         have EL5 := Lib.hid (((HAt.wr_len hU2).1.trans (HAt.wr_len hU1).1).trans EL.out)
         have HT := Lib.hid hft
         have HV0 := Lib.hid hv0
         have HAF := Lib.hid haf
         have HU1 := Lib.hid hU1
         have HU2 := Lib.hid hU2
         clear hne e hft hv0 haf hU1 hU2 ha hck hz0 hge
         go_upto_region 12 with (fail)
         clear u0 u1 u2 gl g0 g4 c2
         have c2 := N3.out.len EL.out
         have z1 := N3.out.lt
         obtain ⟨i1, i2, i3, i4⟩ : IntKind.i64.wrap (((nx : Nat) : Int) + 1) = ((nx : Nat) : Int) + 1 ∧ (0 : Int) ≤ ((nx : Nat) : Int) + 1 ∧ ((nx : Nat) : Int) + 1 < ((n : Nat) : Int) ∧ (((nx : Nat) : Int) + 1).toNat = nx + 1 := ⟨IntWalk.i64_in _ (by omega), by omega, by omega, by omega⟩
         obtain ⟨j1, j2, j3, j4⟩ : IntKind.i64.wrap (((nx : Nat) : Int) + 2) = ((nx : Nat) : Int) + 2 ∧ (0 : Int) ≤ ((nx : Nat) : Int) + 2 ∧ ((nx : Nat) : Int) + 2 < ((n : Nat) : Int) ∧ (((nx : Nat) : Int) + 2).toNat = nx + 2 := ⟨IntWalk.i64_in _ (by omega), by omega, by omega, by omega⟩
         refine wp_region_any (by kernel_rfl) ?_
         refine' wpAny_take (i := 10) (v := ?v10_38) rfl (by kernel_rfl) (by kernel_rfl) (by kernel_rfl) (fun _ _ _ h => h) (Or.inl ⟨by rfl, ?hy10_38⟩) ?rest10_38
         case hy10_38 => (intro w; go_simp; (try with_reducible rfl))
         refine layy ?_
         refine' wpAny_take (i := 11) (v := ?v11_39) rfl (by kernel_rfl) (by kernel_rfl) (by kernel_rfl) (fun _ _ _ h => h) (Or.inl ⟨by rfl, ?hy11_39⟩) ?rest11_39
         case hy11_39 => (intro w; go_simp; (try with_reducible rfl))
         refine layy ?_
         have PR12 := Lib.hid (fun (ww : World) (hSw : Ext wr ww) => (hSw.cell z1 2).trans c2)
         refine wpAny_to_X (S := fun W => Ext wr W) (R := Ext) 12 10 Ext.refl ?_ ?_ (by rfl)
         · exact Ext.drew exx
         refine' tkY (i := 0) (v := ?v0_40) rfl ?h0_40 ?r0_40
         case h0_40 => (intro w q; obtain c2' := PR12.out w q; go_simp; try with_reducible rfl)
         refine layy ?_
         refine' tkY (i := 1) (v := ?v1_41) rfl ?h1_41 ?r1_41
         case h1_41 => (intro w q; obtain c2' := PR12.out w q; go_simp; try with_reducible rfl)
         refine layy ?_
         refine' tkY (i := 2) (v := ?v2_42) rfl ?h2_42 ?r2_42
         case h2_42 => (intro w q; obtain c2' := PR12.out w q; go_simp; try with_reducible rfl)
         refine layy ?_
         refine' tkY (i := 3) (v := ?v3_43) rfl ?h3_43 ?r3_43
         case h3_43 => (intro w q; obtain c2' := PR12.out w q; go_simp; try with_reducible rfl)
         refine layy ?_
         refine' tkY (i := 4) (v := ?v4_44) rfl ?h4_44 ?r4_44
         case h4_44 => (intro w q; obtain c2' := PR12.out w q; go_simp; try with_reducible rfl)
         refine layy ?_
         refine' tkY (i := 5) (v := ?v5_45) rfl ?h5_45 ?r5_45
         case h5_45 => (intro w q; obtain c2' := PR12.out w q; go_simp; try with_reducible rfl)
         refine layy ?_
         refine' tkY (i := 6) (v := ?v6_46) rfl ?h6_46 ?r6_46
         case h6_46 => (intro w q; obtain c2' := PR12.out w q; go_simp; try with_reducible rfl)
         refine layy ?_
         refine' tkY (i := 7) (v := ?v7_47) rfl ?h7_47 ?r7_47
         case h7_47 => (intro w q; obtain c2' := PR12.out w q; go_simp; try with_reducible rfl)
         refine layy ?_
         refine' tkY (i := 8) (v := ?v8_48) rfl ?h8_48 ?r8_48
         case h8_48 => (intro w q; obtain c2' := PR12.out w q; go_simp; try with_reducible rfl)
         refine layy ?_
         refine' tkY (i := 9) (v := ?v9_49) rfl ?h9_49 ?r9_49
         case h9_49 => (intro w q; obtain c2' := PR12.out w q; go_simp; try with_reducible rfl)
         refine layy ?_
         refine wpAnyX_done (by kernel_rfl) ?_
         intro wq _ Ewq
         simp only [List.drop_succ_cons, List.drop_zero]
         clear c2 z1 i1 i2 i3 i4 j1 j2 j3 j4
         have N4 := Lib.hid (N3.out.ext Ewq)
         have g1 := N4.out.words.get HV0.out
         have g2 := N4.out.words.get HAF.out
         have f1 := N4.out.words.froz (nx + 1)
         have f2 := N4.out.words.froz (nx + 2)
         have N5' := Lib.hid ((N4.out.set HU1.out (by omega) (by omega)).set HU2.out (by omega) (by omega))
         go_upto_region 13 with (fail)
         refine Now.cut N5'.out ?_
         clear N5' N4 g1 g2 f1 f2 Ewq
         intro w5 N5'
         have N5 := Lib.hid N5'
         clear N5'
         go_upto_region 14 with (fail)
         rcases freeTail_some HT.out with ⟨hb, v, hv, hc, V1, h1, h2⟩ | ⟨hb | ⟨hb, v, hv, hc⟩, V1, V2, h1, h2, h3⟩
         · have t0 : ((before : Int) != 0) = true := by simpa using hb
           obtain ⟨hv, hv1, hv2⟩ := rc_some hv
           have gv := N5.out.words.get hv
           have lv := rd_lt hv
           rw [EL5.out] at lv
           have t1 : ((before : Int) + v == (a : Int)) = true := by simpa using hc
           have c2 := N5.out.len EL5.out
           have fv := N5.out.words.froz (before + 1)
           have NY := Lib.hid (N5.out.set h1 (by omega) (by omega))
           have EL1 := Lib.hid ((HAt.wr_len h1).1.trans EL5.out)
           have H2 := Lib.hid h2
           have l2 := (HAt.wr_len h2).2
           rw [EL1.out] at l2
           clear hb hv hc h1 h2
           go_upto_region 16 with (fail)
           refine Now.cut NY.out ?_
           clear NY gv fv c2
           intro wy NY'
           have NY := Lib.hid NY'
           clear NY'
           have c2 := NY.out.len EL1.out
           obtain ⟨y3, hy3⟩ := rd_get (HAt.wr_len H2.out).2
           have g3 := NY.out.words.get hy3
           have f3 := NY.out.words.froz (before + 2)
           have Y3 := Lib.hid hy3
           clear hy3
           go_wp2_with fail
           go_returns
           exact (NY.out.set H2.out ha1 ha2).done
         · have t0 : ((before : Int) != 0) = false := by simpa using hb
           clear hb
           have e1 := HAt.wr_len h1
           have e2 := HAt.wr_len h2
           have e3 := HAt.wr_len h3
           have l1 := e1.2
           rw [EL5.out] at l1
           have l2 := e2.2
           rw [e1.1, EL5.out] at l2
           obtain ⟨y1, hy1⟩ := rd_get (l := U2) (j := a + 1) (by rw [EL5.out]; exact l1)
           obtain ⟨y2, hy2⟩ := rd_get (l := U2) (j := a + 2) (by rw [EL5.out]; exact l2)
           have EL2 := Lib.hid (e2.1.trans (e1.1.trans EL5.out))
           have Y1 := Lib.hid hy1
           have Y2 := Lib.hid hy2
           have H1 := Lib.hid h1
           have H2 := Lib.hid h2
           have H3 := Lib.hid h3
           clear e1 e2 e3 hy1 hy2 h1 h2 h3
           go_upto_region 17 with (fail)
           (try clear gv)
           (try clear c2)
           have c2 := N5.out.len EL5.out
           have z1 := N5.out.lt
           obtain ⟨i1, i2, i3, i4⟩ : IntKind.i64.wrap (((a : Nat) : Int) + 1) = ((a : Nat) : Int) + 1 ∧ (0 : Int) ≤ ((a : Nat) : Int) + 1 ∧ ((a : Nat) : Int) + 1 < ((n : Nat) : Int) ∧ (((a : Nat) : Int) + 1).toNat = a + 1 := ⟨IntWalk.i64_in _ (by omega), by omega, by omega, by omega⟩
           obtain ⟨j1, j2, j3, j4⟩ : IntKind.i64.wrap (((a : Nat) : Int) + 2) = ((a : Nat) : Int) + 2 ∧ (0 : Int) ≤ ((a : Nat) : Int) + 2 ∧ ((a : Nat) : Int) + 2 < ((n : Nat) : Int) ∧ (((a : Nat) : Int) + 2).toNat = a + 2 := ⟨IntWalk.i64_in _ (by omega), by omega, by omega, by omega⟩
           refine wp_region_any (by kernel_rfl) ?_
           refine' wpAny_take (i := 10) (v := ?v10_50) rfl (by kernel_rfl) (by kernel_rfl) (by kernel_rfl) (fun _ _ _ h => h) (Or.inl ⟨by rfl, ?hy10_50⟩) ?rest10_50
           case hy10_50 => (intro w; go_simp; (try with_reducible rfl))
           refine layy ?_
           refine' wpAny_take (i := 11) (v := ?v11_51) rfl (by kernel_rfl) (by kernel_rfl) (by kernel_rfl) (fun _ _ _ h => h) (Or.inl ⟨by rfl, ?hy11_51⟩) ?rest11_51
           case hy11_51 => (intro w; go_simp; (try with_reducible rfl))
           refine layy ?_
           refine' wpAny_take (i := 13) (v := ?v13_52) rfl (by kernel_rfl) (by kernel_rfl) (by kernel_rfl) (fun _ _ _ h => h) (Or.inl ⟨by rfl, ?hy13_52⟩) ?rest13_52
           case hy13_52 => (intro w; go_simp; (try with_reducible rfl))
           refine layy ?_
           have PR13 := Lib.hid (fun (ww : World) (hSw : Ext w5 ww) => (hSw.cell z1 2).trans c2)
           refine wpAny_to_X (S := fun W => Ext w5 W) (R := Ext) 14 11 Ext.refl ?_ ?_ (by rfl)
           · exact Ext.drew exx
           refine' tkY (i := 0) (v := ?v0_53) rfl ?h0_53 ?r0_53
           case h0_53 => (intro w q; obtain c2' := PR13.out w q; go_simp; try with_reducible rfl)
           refine layy ?_
           refine' tkY (i := 1) (v := ?v1_54) rfl ?h1_54 ?r1_54
           case h1_54 => (intro w q; obtain c2' := PR13.out w q; go_simp; try with_reducible rfl)
           refine layy ?_
           refine' tkY (i := 2) (v := ?v2_55) rfl ?h2_55 ?r2_55
           case h2_55 => (intro w q; obtain c2' := PR13.out w q; go_simp; try with_reducible rfl)
           refine layy ?_
           refine' tkY (i := 3) (v := ?v3_56) rfl ?h3_56 ?r3_56
           case h3_56 => (intro w q; obtain c2' := PR13.out w q; go_simp; try with_reducible rfl)
           refine layy ?_
           refine' tkY (i := 4) (v := ?v4_57) rfl ?h4_57 ?r4_57
           case h4_57 => (intro w q; obtain c2' := PR13.out w q; go_simp; try with_reducible rfl)
           refine layy ?_
           refine' tkY (i := 5) (v := ?v5_58) rfl ?h5_58 ?r5_58
           case h5_58 => (intro w q; obtain c2' := PR13.out w q; go_simp; try with_reducible rfl)
           refine layy ?_
           refine' tkY (i := 6) (v := ?v6_59) rfl ?h6_59 ?r6_59
           case h6_59 => (intro w q; obtain c2' := PR13.out w q; go_simp; try with_reducible rfl)
           refine layy ?_
           refine' tkY (i := 7) (v := ?v7_60) rfl ?h7_60 ?r7_60
           case h7_60 => (intro w q; obtain c2' := PR13.out w q; go_simp; try with_reducible rfl)
           refine layy ?_
           refine' tkY (i := 8) (v := ?v8_61) rfl ?h8_61 ?r8_61
           case h8_61 => (intro w q; obtain c2' := PR13.out w q; go_simp; try with_reducible rfl)
           refine layy ?_
           refine' tkY (i := 9) (v := ?v9_62) rfl ?h9_62 ?r9_62
           case h9_62 => (intro w q; obtain c2' := PR13.out w q; go_simp; try with_reducible rfl)
           refine layy ?_
           refine' tkY (i := 12) (v := ?v12_63) rfl ?h12_63 ?r12_63
           case h12_63 => (intro w q; obtain c2' := PR13.out w q; go_simp; try with_reducible rfl)
           refine layy ?_
           refine wpAnyX_done (by kernel_rfl) ?_
           intro wz _ Ewz
           simp only [List.drop_succ_cons, List.drop_zero]
           clear c2 z1 i1 i2 i3 i4 j1 j2 j3 j4
           have NZ := Lib.hid (N5.out.ext Ewz)
           have g1 := NZ.out.words.get Y1.out
           have g2 := NZ.out.words.get Y2.out
           have f1 := NZ.out.words.froz (a + 1)
           have f2 := NZ.out.words.froz (a + 2)
           have NY := Lib.hid ((NZ.out.set H1.out (by omega) (by omega)).set H2.out ha1 ha2)
           go_upto_region 18 with (fail)
           refine Now.cut NY.out ?_
           clear NY NZ g1 g2 f1 f2 Ewz
           intro wy NY'
           have NY := Lib.hid NY'
           clear NY'
           have c2 := NY.out.len EL2.out
           obtain ⟨y3, hy3⟩ := rd_get (HAt.wr_len H3.out).2
           have g3 := NY.out.words.get hy3
           have f3 := NY.out.words.froz link
           have Y3 := Lib.hid hy3
           clear hy3
           go_wp2_with fail
           go_returns
           exact (NY.out.set H3.out (by omega) (by omega)).done
         · have t0 : ((before : Int) != 0) = true := by simpa using hb
           obtain ⟨hv, hv1, hv2⟩ := rc_some hv
           have gv := N5.out.words.get hv
           have lv := rd_lt hv
           rw [EL5.out] at lv
           have t1 : ((before : Int) + v == (a : Int)) = false := by simpa using hc
           have c2 := N5.out.len EL5.out
           clear hb hv hc
           have e1 := HAt.wr_len h1
           have e2 := HAt.wr_len h2
           have e3 := HAt.wr_len h3
           have l1 := e1.2
           rw [EL5.out] at l1
           have l2 := e2.2
           rw [e1.1, EL5.out] at l2
           obtain ⟨y1, hy1⟩ := rd_get (l := U2) (j := a + 1) (by rw [EL5.out]; exact l1)
           obtain ⟨y2, hy2⟩ := rd_get (l := U2) (j := a + 2) (by rw [EL5.out]; exact l2)
           have EL2 := Lib.hid (e2.1.trans (e1.1.trans EL5.out))
           have Y1 := Lib.hid hy1
           have Y2 := Lib.hid hy2
           have H1 := Lib.hid h1
           have H2 := Lib.hid h2
           have H3 := Lib.hid h3
           clear e1 e2 e3 hy1 hy2 h1 h2 h3
           go_upto_region 17 with (fail)
           (try clear gv)
           (try clear c2)
           have c2 := N5.out.len EL5.out
           have z1 := N5.out.lt
           obtain ⟨i1, i2, i3, i4⟩ : IntKind.i64.wrap (((a : Nat) : Int) + 1) = ((a : Nat) : Int) + 1 ∧ (0 : Int) ≤ ((a : Nat) : Int) + 1 ∧ ((a : Nat) : Int) + 1 < ((n : Nat) : Int) ∧ (((a : Nat) : Int) + 1).toNat = a + 1 := ⟨IntWalk.i64_in _ (by omega), by omega, by omega, by omega⟩
           obtain ⟨j1, j2, j3, j4⟩ : IntKind.i64.wrap (((a : Nat) : Int) + 2) = ((a : Nat) : Int) + 2 ∧ (0 : Int) ≤ ((a : Nat) : Int) + 2 ∧ ((a : Nat) : Int) + 2 < ((n : Nat) : Int) ∧ (((a : Nat) : Int) + 2).toNat = a + 2 := ⟨IntWalk.i64_in _ (by omega), by omega, by omega, by omega⟩
           refine wp_region_any (by kernel_rfl) ?_
           refine' wpAny_take (i := 10) (v := ?v10_64) rfl (by kernel_rfl) (by kernel_rfl) (by kernel_rfl) (fun _ _ _ h => h) (Or.inl ⟨by rfl, ?hy10_64⟩) ?rest10_64
           case hy10_64 => (intro w; go_simp; (try with_reducible rfl))
           refine layy ?_
           refine' wpAny_take (i := 11) (v := ?v11_65) rfl (by kernel_rfl) (by kernel_rfl) (by kernel_rfl) (fun _ _ _ h => h) (Or.inl ⟨by rfl, ?hy11_65⟩) ?rest11_65
           case hy11_65 => (intro w; go_simp; (try with_reducible rfl))
           refine layy ?_
           refine' wpAny_take (i := 13) (v := ?v13_66) rfl (by kernel_rfl) (by kernel_rfl) (by kernel_rfl) (fun _ _ _ h => h) (Or.inl ⟨by rfl, ?hy13_66⟩) ?rest13_66
           case hy13_66 => (intro w; go_simp; (try with_reducible rfl))
           refine layy ?_
           have PR14 := Lib.hid (fun (ww : World) (hSw : Ext w5 ww) => (hSw.cell z1 2).trans c2)
           refine wpAny_to_X (S := fun W => Ext w5 W) (R := Ext) 14 11 Ext.refl ?_ ?_ (by rfl)
           · exact Ext.drew exx
           refine' tkY (i := 0) (v := ?v0_67) rfl ?h0_67 ?r0_67
           case h0_67 => (intro w q; obtain c2' := PR14.out w q; go_simp; try with_reducible rfl)
           refine layy ?_
           refine' tkY (i := 1) (v := ?v1_68) rfl ?h1_68 ?r1_68
           case h1_68 => (intro w q; obtain c2' := PR14.out w q; go_simp; try with_reducible rfl)
           refine layy ?_
           refine' tkY (i := 2) (v := ?v2_69) rfl ?h2_69 ?r2_69
           case h2_69 => (intro w q; obtain c2' := PR14.out w q; go_simp; try with_reducible rfl)
           refine layy ?_
           refine' tkY (i := 3) (v := ?v3_70) rfl ?h3_70 ?r3_70
           case h3_70 => (intro w q; obtain c2' := PR14.out w q; go_simp; try with_reducible rfl)
           refine layy ?_
           refine' tkY (i := 4) (v := ?v4_71) rfl ?h4_71 ?r4_71
           case h4_71 => (intro w q; obtain c2' := PR14.out w q; go_simp; try with_reducible rfl)
           refine layy ?_
           refine' tkY (i := 5) (v := ?v5_72) rfl ?h5_72 ?r5_72
           case h5_72 => (intro w q; obtain c2' := PR14.out w q; go_simp; try with_reducible rfl)
           refine layy ?_
           refine' tkY (i := 6) (v := ?v6_73) rfl ?h6_73 ?r6_73
           case h6_73 => (intro w q; obtain c2' := PR14.out w q; go_simp; try with_reducible rfl)
           refine layy ?_
           refine' tkY (i := 7) (v := ?v7_74) rfl ?h7_74 ?r7_74
           case h7_74 => (intro w q; obtain c2' := PR14.out w q; go_simp; try with_reducible rfl)
           refine layy ?_
           refine' tkY (i := 8) (v := ?v8_75) rfl ?h8_75 ?r8_75
           case h8_75 => (intro w q; obtain c2' := PR14.out w q; go_simp; try with_reducible rfl)
           refine layy ?_
           refine' tkY (i := 9) (v := ?v9_76) rfl ?h9_76 ?r9_76
           case h9_76 => (intro w q; obtain c2' := PR14.out w q; go_simp; try with_reducible rfl)
           refine layy ?_
           refine' tkY (i := 12) (v := ?v12_77) rfl ?h12_77 ?r12_77
           case h12_77 => (intro w q; obtain c2' := PR14.out w q; go_simp; try with_reducible rfl)
           refine layy ?_
           refine wpAnyX_done (by kernel_rfl) ?_
           intro wz _ Ewz
           simp only [List.drop_succ_cons, List.drop_zero]
           clear c2 z1 i1 i2 i3 i4 j1 j2 j3 j4
           have NZ := Lib.hid (N5.out.ext Ewz)
           have g1 := NZ.out.words.get Y1.out
           have g2 := NZ.out.words.get Y2.out
           have f1 := NZ.out.words.froz (a + 1)
           have f2 := NZ.out.words.froz (a + 2)
           have NY := Lib.hid ((NZ.out.set H1.out (by omega) (by omega)).set H2.out ha1 ha2)
           go_upto_region 18 with (fail)
           refine Now.cut NY.out ?_
           clear NY NZ g1 g2 f1 f2 Ewz
           intro wy NY'
           have NY := Lib.hid NY'
           clear NY'
           have c2 := NY.out.len EL2.out
           obtain ⟨y3, hy3⟩ := rd_get (HAt.wr_len H3.out).2
           have g3 := NY.out.words.get hy3
           have f3 := NY.out.words.froz link
           have Y3 := Lib.hid hy3
           clear hy3
           go_wp2_with fail
           go_returns
           exact (NY.out.set H3.out (by omega) (by omega)).done
       · skip
         have u2 : ((nx : Int) == (a : Int) + (k : Int)) = false := by
          simpa using (fun e => hne (by rw [e]; simp) : ¬ (nx : Int) = (a : Int) + (k : Int))
         have HT := Lib.hid hft
         clear hne hft
         (try clear hz0)
         (try clear hge)
         go_upto_region 14 with (fail)
         clear c2 gl u0 u2
         (try clear u1)
         rcases freeTail_some HT.out with ⟨hb, v, hv, hc, V1, h1, h2⟩ | ⟨hb | ⟨hb, v, hv, hc⟩, V1, V2, h1, h2, h3⟩
         · have t0 : ((before : Int) != 0) = true := by simpa using hb
           obtain ⟨hv, hv1, hv2⟩ := rc_some hv
           have gv := N3.out.words.get hv
           have lv := rd_lt hv
           rw [EL.out] at lv
           have t1 : ((before : Int) + v == (a : Int)) = true := by simpa using hc
           have c2 := N3.out.len EL.out
           have fv := N3.out.words.froz (before + 1)
           have NY := Lib.hid (N3.out.set h1 (by omega) (by omega))
           have EL1 := Lib.hid ((HAt.wr_len h1).1.trans EL.out)
           have H2 := Lib.hid h2
           have l2 := (HAt.wr_len h2).2
           rw [EL1.out] at l2
           clear hb hv hc h1 h2
           go_upto_region 16 with (fail)
           refine Now.cut NY.out ?_
           clear NY gv fv c2
           intro wy NY'
           have NY := Lib.hid NY'
           clear NY'
           have c2 := NY.out.len EL1.out
           obtain ⟨y3, hy3⟩ := rd_get (HAt.wr_len H2.out).2
           have g3 := NY.out.words.get hy3
           have f3 := NY.out.words.froz (before + 2)
           have Y3 := Lib.hid hy3
           clear hy3
           go_wp2_with fail
           go_returns
           exact (NY.out.set H2.out (by omega) (by omega)).done
         · have t0 : ((before : Int) != 0) = false := by simpa using hb
           clear hb
           have e1 := HAt.wr_len h1
           have e2 := HAt.wr_len h2
           have e3 := HAt.wr_len h3
           have l1 := e1.2
           rw [EL.out] at l1
           have l2 := e2.2
           rw [e1.1, EL.out] at l2
           obtain ⟨y1, hy1⟩ := rd_get (l := W) (j := a + 1) (by rw [EL.out]; exact l1)
           obtain ⟨y2, hy2⟩ := rd_get (l := W) (j := a + 2) (by rw [EL.out]; exact l2)
           have EL2 := Lib.hid (e2.1.trans (e1.1.trans EL.out))
           have Y1 := Lib.hid hy1
           have Y2 := Lib.hid hy2
           have H1 := Lib.hid h1
           have H2 := Lib.hid h2
           have H3 := Lib.hid h3
           clear e1 e2 e3 hy1 hy2 h1 h2 h3
           go_upto_region 17 with (fail)
           (try clear gv)
           (try clear c2)
           have c2 := N3.out.len EL.out
           have z1 := N3.out.lt
           obtain ⟨i1, i2, i3, i4⟩ : IntKind.i64.wrap (((a : Nat) : Int) + 1) = ((a : Nat) : Int) + 1 ∧ (0 : Int) ≤ ((a : Nat) : Int) + 1 ∧ ((a : Nat) : Int) + 1 < ((n : Nat) : Int) ∧ (((a : Nat) : Int) + 1).toNat = a + 1 := ⟨IntWalk.i64_in _ (by omega), by omega, by omega, by omega⟩
           obtain ⟨j1, j2, j3, j4⟩ : IntKind.i64.wrap (((a : Nat) : Int) + 2) = ((a : Nat) : Int) + 2 ∧ (0 : Int) ≤ ((a : Nat) : Int) + 2 ∧ ((a : Nat) : Int) + 2 < ((n : Nat) : Int) ∧ (((a : Nat) : Int) + 2).toNat = a + 2 := ⟨IntWalk.i64_in _ (by omega), by omega, by omega, by omega⟩
           refine wp_region_any (by kernel_rfl) ?_
           refine' wpAny_take (i := 10) (v := ?v10_78) rfl (by kernel_rfl) (by kernel_rfl) (by kernel_rfl) (fun _ _ _ h => h) (Or.inl ⟨by rfl, ?hy10_78⟩) ?rest10_78
           case hy10_78 => (intro w; go_simp; (try with_reducible rfl))
           refine layy ?_
           refine' wpAny_take (i := 11) (v := ?v11_79) rfl (by kernel_rfl) (by kernel_rfl) (by kernel_rfl) (fun _ _ _ h => h) (Or.inl ⟨by rfl, ?hy11_79⟩) ?rest11_79
           case hy11_79 => (intro w; go_simp; (try with_reducible rfl))
           refine layy ?_
           refine' wpAny_take (i := 13) (v := ?v13_80) rfl (by kernel_rfl) (by kernel_rfl) (by kernel_rfl) (fun _ _ _ h => h) (Or.inl ⟨by rfl, ?hy13_80⟩) ?rest13_80
           case hy13_80 => (intro w; go_simp; (try with_reducible rfl))
           refine layy ?_
           have PR15 := Lib.hid (fun (ww : World) (hSw : Ext wr ww) => (hSw.cell z1 2).trans c2)
           refine wpAny_to_X (S := fun W => Ext wr W) (R := Ext) 14 11 Ext.refl ?_ ?_ (by rfl)
           · exact Ext.drew exx
           refine' tkY (i := 0) (v := ?v0_81) rfl ?h0_81 ?r0_81
           case h0_81 => (intro w q; obtain c2' := PR15.out w q; go_simp; try with_reducible rfl)
           refine layy ?_
           refine' tkY (i := 1) (v := ?v1_82) rfl ?h1_82 ?r1_82
           case h1_82 => (intro w q; obtain c2' := PR15.out w q; go_simp; try with_reducible rfl)
           refine layy ?_
           refine' tkY (i := 2) (v := ?v2_83) rfl ?h2_83 ?r2_83
           case h2_83 => (intro w q; obtain c2' := PR15.out w q; go_simp; try with_reducible rfl)
           refine layy ?_
           refine' tkY (i := 3) (v := ?v3_84) rfl ?h3_84 ?r3_84
           case h3_84 => (intro w q; obtain c2' := PR15.out w q; go_simp; try with_reducible rfl)
           refine layy ?_
           refine' tkY (i := 4) (v := ?v4_85) rfl ?h4_85 ?r4_85
           case h4_85 => (intro w q; obtain c2' := PR15.out w q; go_simp; try with_reducible rfl)
           refine layy ?_
           refine' tkY (i := 5) (v := ?v5_86) rfl ?h5_86 ?r5_86
           case h5_86 => (intro w q; obtain c2' := PR15.out w q; go_simp; try with_reducible rfl)
           refine layy ?_
           refine' tkY (i := 6) (v := ?v6_87) rfl ?h6_87 ?r6_87
           case h6_87 => (intro w q; obtain c2' := PR15.out w q; go_simp; try with_reducible rfl)
           refine layy ?_
           refine' tkY (i := 7) (v := ?v7_88) rfl ?h7_88 ?r7_88
           case h7_88 => (intro w q; obtain c2' := PR15.out w q; go_simp; try with_reducible rfl)
           refine layy ?_
           refine' tkY (i := 8) (v := ?v8_89) rfl ?h8_89 ?r8_89
           case h8_89 => (intro w q; obtain c2' := PR15.out w q; go_simp; try with_reducible rfl)
           refine layy ?_
           refine' tkY (i := 9) (v := ?v9_90) rfl ?h9_90 ?r9_90
           case h9_90 => (intro w q; obtain c2' := PR15.out w q; go_simp; try with_reducible rfl)
           refine layy ?_
           refine' tkY (i := 12) (v := ?v12_91) rfl ?h12_91 ?r12_91
           case h12_91 => (intro w q; obtain c2' := PR15.out w q; go_simp; try with_reducible rfl)
           refine layy ?_
           refine wpAnyX_done (by kernel_rfl) ?_
           intro wz _ Ewz
           simp only [List.drop_succ_cons, List.drop_zero]
           clear c2 z1 i1 i2 i3 i4 j1 j2 j3 j4
           have NZ := Lib.hid (N3.out.ext Ewz)
           have g1 := NZ.out.words.get Y1.out
           have g2 := NZ.out.words.get Y2.out
           have f1 := NZ.out.words.froz (a + 1)
           have f2 := NZ.out.words.froz (a + 2)
           have NY := Lib.hid ((NZ.out.set H1.out (by omega) (by omega)).set H2.out (by omega) (by omega))
           go_upto_region 18 with (fail)
           refine Now.cut NY.out ?_
           clear NY NZ g1 g2 f1 f2 Ewz
           intro wy NY'
           have NY := Lib.hid NY'
           clear NY'
           have c2 := NY.out.len EL2.out
           obtain ⟨y3, hy3⟩ := rd_get (HAt.wr_len H3.out).2
           have g3 := NY.out.words.get hy3
           have f3 := NY.out.words.froz link
           have Y3 := Lib.hid hy3
           clear hy3
           go_wp2_with fail
           go_returns
           exact (NY.out.set H3.out (by omega) (by omega)).done
         · have t0 : ((before : Int) != 0) = true := by simpa using hb
           obtain ⟨hv, hv1, hv2⟩ := rc_some hv
           have gv := N3.out.words.get hv
           have lv := rd_lt hv
           rw [EL.out] at lv
           have t1 : ((before : Int) + v == (a : Int)) = false := by simpa using hc
           have c2 := N3.out.len EL.out
           clear hb hv hc
           have e1 := HAt.wr_len h1
           have e2 := HAt.wr_len h2
           have e3 := HAt.wr_len h3
           have l1 := e1.2
           rw [EL.out] at l1
           have l2 := e2.2
           rw [e1.1, EL.out] at l2
           obtain ⟨y1, hy1⟩ := rd_get (l := W) (j := a + 1) (by rw [EL.out]; exact l1)
           obtain ⟨y2, hy2⟩ := rd_get (l := W) (j := a + 2) (by rw [EL.out]; exact l2)
           have EL2 := Lib.hid (e2.1.trans (e1.1.trans EL.out))
           have Y1 := Lib.hid hy1
           have Y2 := Lib.hid hy2
           have H1 := Lib.hid h1
           have H2 := Lib.hid h2
           have H3 := Lib.hid h3
           clear e1 e2 e3 hy1 hy2 h1 h2 h3
           go_upto_region 17 with (fail)
           (try clear gv)
           (try clear c2)
           have c2 := N3.out.len EL.out
           have z1 := N3.out.lt
           obtain ⟨i1, i2, i3, i4⟩ : IntKind.i64.wrap (((a : Nat) : Int) + 1) = ((a : Nat) : Int) + 1 ∧ (0 : Int) ≤ ((a : Nat) : Int) + 1 ∧ ((a : Nat) : Int) + 1 < ((n : Nat) : Int) ∧ (((a : Nat) : Int) + 1).toNat = a + 1 := ⟨IntWalk.i64_in _ (by omega), by omega, by omega, by omega⟩
           obtain ⟨j1, j2, j3, j4⟩ : IntKind.i64.wrap (((a : Nat) : Int) + 2) = ((a : Nat) : Int) + 2 ∧ (0 : Int) ≤ ((a : Nat) : Int) + 2 ∧ ((a : Nat) : Int) + 2 < ((n : Nat) : Int) ∧ (((a : Nat) : Int) + 2).toNat = a + 2 := ⟨IntWalk.i64_in _ (by omega), by omega, by omega, by omega⟩
           refine wp_region_any (by kernel_rfl) ?_
           refine' wpAny_take (i := 10) (v := ?v10_92) rfl (by kernel_rfl) (by kernel_rfl) (by kernel_rfl) (fun _ _ _ h => h) (Or.inl ⟨by rfl, ?hy10_92⟩) ?rest10_92
           case hy10_92 => (intro w; go_simp; (try with_reducible rfl))
           refine layy ?_
           refine' wpAny_take (i := 11) (v := ?v11_93) rfl (by kernel_rfl) (by kernel_rfl) (by kernel_rfl) (fun _ _ _ h => h) (Or.inl ⟨by rfl, ?hy11_93⟩) ?rest11_93
           case hy11_93 => (intro w; go_simp; (try with_reducible rfl))
           refine layy ?_
           refine' wpAny_take (i := 13) (v := ?v13_94) rfl (by kernel_rfl) (by kernel_rfl) (by kernel_rfl) (fun _ _ _ h => h) (Or.inl ⟨by rfl, ?hy13_94⟩) ?rest13_94
           case hy13_94 => (intro w; go_simp; (try with_reducible rfl))
           refine layy ?_
           have PR16 := Lib.hid (fun (ww : World) (hSw : Ext wr ww) => (hSw.cell z1 2).trans c2)
           refine wpAny_to_X (S := fun W => Ext wr W) (R := Ext) 14 11 Ext.refl ?_ ?_ (by rfl)
           · exact Ext.drew exx
           refine' tkY (i := 0) (v := ?v0_95) rfl ?h0_95 ?r0_95
           case h0_95 => (intro w q; obtain c2' := PR16.out w q; go_simp; try with_reducible rfl)
           refine layy ?_
           refine' tkY (i := 1) (v := ?v1_96) rfl ?h1_96 ?r1_96
           case h1_96 => (intro w q; obtain c2' := PR16.out w q; go_simp; try with_reducible rfl)
           refine layy ?_
           refine' tkY (i := 2) (v := ?v2_97) rfl ?h2_97 ?r2_97
           case h2_97 => (intro w q; obtain c2' := PR16.out w q; go_simp; try with_reducible rfl)
           refine layy ?_
           refine' tkY (i := 3) (v := ?v3_98) rfl ?h3_98 ?r3_98
           case h3_98 => (intro w q; obtain c2' := PR16.out w q; go_simp; try with_reducible rfl)
           refine layy ?_
           refine' tkY (i := 4) (v := ?v4_99) rfl ?h4_99 ?r4_99
           case h4_99 => (intro w q; obtain c2' := PR16.out w q; go_simp; try with_reducible rfl)
           refine layy ?_
           refine' tkY (i := 5) (v := ?v5_100) rfl ?h5_100 ?r5_100
           case h5_100 => (intro w q; obtain c2' := PR16.out w q; go_simp; try with_reducible rfl)
           refine layy ?_
           refine' tkY (i := 6) (v := ?v6_101) rfl ?h6_101 ?r6_101
           case h6_101 => (intro w q; obtain c2' := PR16.out w q; go_simp; try with_reducible rfl)
           refine layy ?_
           refine' tkY (i := 7) (v := ?v7_102) rfl ?h7_102 ?r7_102
           case h7_102 => (intro w q; obtain c2' := PR16.out w q; go_simp; try with_reducible rfl)
           refine layy ?_
           refine' tkY (i := 8) (v := ?v8_103) rfl ?h8_103 ?r8_103
           case h8_103 => (intro w q; obtain c2' := PR16.out w q; go_simp; try with_reducible rfl)
           refine layy ?_
           refine' tkY (i := 9) (v := ?v9_104) rfl ?h9_104 ?r9_104
           case h9_104 => (intro w q; obtain c2' := PR16.out w q; go_simp; try with_reducible rfl)
           refine layy ?_
           refine' tkY (i := 12) (v := ?v12_105) rfl ?h12_105 ?r12_105
           case h12_105 => (intro w q; obtain c2' := PR16.out w q; go_simp; try with_reducible rfl)
           refine layy ?_
           refine wpAnyX_done (by kernel_rfl) ?_
           intro wz _ Ewz
           simp only [List.drop_succ_cons, List.drop_zero]
           clear c2 z1 i1 i2 i3 i4 j1 j2 j3 j4
           have NZ := Lib.hid (N3.out.ext Ewz)
           have g1 := NZ.out.words.get Y1.out
           have g2 := NZ.out.words.get Y2.out
           have f1 := NZ.out.words.froz (a + 1)
           have f2 := NZ.out.words.froz (a + 2)
           have NY := Lib.hid ((NZ.out.set H1.out (by omega) (by omega)).set H2.out (by omega) (by omega))
           go_upto_region 18 with (fail)
           refine Now.cut NY.out ?_
           clear NY NZ g1 g2 f1 f2 Ewz
           intro wy NY'
           have NY := Lib.hid NY'
           clear NY'
           have c2 := NY.out.len EL2.out
           obtain ⟨y3, hy3⟩ := rd_get (HAt.wr_len H3.out).2
           have g3 := NY.out.words.get hy3
           have f3 := NY.out.words.froz link
           have Y3 := Lib.hid hy3
           clear hy3
           go_wp2_with fail
           go_returns
           exact (NY.out.set H3.out (by omega) (by omega)).done
end Go.Proofs.YtdokmmhjmclmnaaGreat
