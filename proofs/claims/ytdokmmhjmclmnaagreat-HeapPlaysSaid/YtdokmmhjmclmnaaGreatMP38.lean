/-
  Part 38 of a proof: RP12.
-/
import Derived.Test.YtdokmmhjmclmnaaGreatMP37
set_option linter.unusedSimpArgs false
set_option linter.unusedVariables false
set_option linter.unusedSectionVars false
set_option linter.unnecessarySimpa false
namespace Go.Proofs.YtdokmmhjmclmnaaGreat
open Go.RowKit Go.Maps
set_option maxRecDepth 100000 in
set_option maxHeartbeats 16000000 in
theorem rCompact {w : World} {r : Rd} {S S1 S2 : Hp.Hs} {B k0 : Nat} {L : List Hp.Tl} {ch : Nat → List Nat} {M : List (Nat × Int)} (h : RW w r S) (hw : Hp.Wf S B L ch) (hco : S.collect = some (k0, S1)) (hmv : S1.moved = some (M, S2)) :
    Calls Tryz.prog 97 #[.pointer (some ⟨r.rb, 0, none⟩)] w (RCPost w r S1 S2 M) := by
  obtain ⟨T, hT⟩ := Hp.live_total hw; obtain ⟨S1', L1, hco2, -, hw1⟩ := Hp.collect_wf hw hT; rw [hco] at hco2; simp only [Option.some.injEq, Prod.mk.injEq] at hco2; obtain ⟨-, rfl⟩ := hco2; obtain ⟨M', mv, S2', L2, ch2, e1, hMv, hw2, -, hmp, hch2, hu1, hL2⟩ := Hp.moved_all hw1; rw [hmv] at e1; simp only [Option.some.injEq, Prod.mk.injEq] at e1; obtain ⟨rfl, rfl⟩ := e1; have hgo := Hp.goes_place hw1; rw [← hmp] at hgo; have COL := Lib.hid (rCollect h hw hco); have H := Lib.hid (RNow.refl h); have HW := Lib.hid hw1; have HW2 := Lib.hid hw2; have HM := Lib.hid hMv; have HG := Lib.hid hgo; have HCH := Lib.hid hch2; have HU := Lib.hid hu1; have HL2 := Lib.hid hL2; have PLC := Lib.hid (show ∀ i a, S1.taken[i]? = some a → mv a = 17 + Hp.wsum S1 i from fun i a ha => by rw [hmp]; exact Hp.place_at (Hp.up_nodup hw1.up) ha); have few := hw1.few; have hhi := hw1.hi; have lo := hw1.lo; have own := Lib.hid h.own_lt; have MB := Lib.hid (show ∀ b ∈ S1.taken, mv b ≤ 100000 from fun b hb => by have := hgo.rng b hb; have := hgo.top; omega); have WS := Lib.hid (fun j => Hp.wsum_le hw1 j); obtain ⟨n, hn⟩ : ∃ n, S1.words.length = n := ⟨_, rfl⟩
  have EN := Lib.hid hn; rw [hn] at few hhi lo; obtain ⟨m, hm⟩ : ∃ m, S1.taken.length = m := ⟨_, rfl⟩
  have EM := Lib.hid hm; rw [hm] at few; clear h hw hT hco hmv hw1 hw2 hMv hgo hch2 hu1 hL2 hmp hn hm; obtain ⟨i0, hi0, hz0, hz1, hz2⟩ := info_parts (show (Tryz.prog.info? 3).map (fun i => (i.zero, i.size, i.bytes)) = some (some (.int .i64 0), 1, 8) from by kernel_rfl); have hmk := run_make_row' (P := Tryz.prog) 22 3 (.int .i64 0) 8 Tryz.underlying22 (show (Tryz.prog.info? 3).map (fun i => (i.zero, i.size, i.bytes)) = some (some (.int .i64 0), 1, 8) from by kernel_rfl) rfl .i64 .i64 m (by omega) (by omega); go_enter Tryz.func97, Tryz.ntmps97; go_upto_region 2 with (go_at_call 96; refine COL.out.mono ?_; rintro e w1 ⟨rfl, hN⟩)
  have N1 := Lib.hid (H.out.trans hN); have c2 := N1.out.c2; rw [EN.out] at c2; have hle := N1.out.le; have hcap := N1.out.cap; rw [EN.out] at hle; have z1 := N1.out.toRW.lt; have z2 := N1.out.words.lt; have HCW := Lib.hid (show ∀ (j : Nat) (u : Value), (ints S1.words)[j]? = some u → w1.cell? ((⟨r.gb, 0, none⟩ : Addr).add j) = some u from fun j u hj => by
   rw [Addr.add_lit, Nat.zero_add]; simp only [ints, List.getElem?_map, Option.map_eq_some_iff] at hj; obtain ⟨x, hx, rfl⟩ := hj; exact N1.out.words.get hx)
  clear hN COL
  go_wp2_with (at_builtin; refine Go.wpList_append_own _ rfl _ _ 22 rfl w1.heap.size 3 i0 (.int .i64 0) 1 8 Tryz.underlying22 hi0 hz0 hz1 hz2 rfl (by decide) _ 0 [] rfl (World.ownsRow_nil w1 _ _ _) ⟨r.gb, 0, none⟩ n r.wc (ints S1.words) rfl ?qc1 ?qc2 ?qc3 ?qc4 ?qc5 ?qc6 ?_)
  case qc1 => simp [ints]; exact EN.out
  case qc2 => exact HCW.out
  case qc3 => intro u hu; obtain ⟨x, _, rfl⟩ := List.mem_map.1 hu; rfl
  case qc4 => unfold maxLen; omega
  case qc5 => omega
  case qc6 => omega
  intro v' w2 hown hgrow hnil; have hE2 : Ext w1 w2 := ((Below.refl _ w1)).grown hgrow (by simp) (by intro k hk; simp [Value.ownBlock] at hk); obtain ⟨g0, cap0, rfl, hOR⟩ : ∃ g0 cap0, v' = .slice (some ⟨g0, 0, none⟩) n cap0 ∧ Row w2 w1.heap.size (some ⟨g0, 0, none⟩) cap0 S1.words := by
   rcases hown.2 with ⟨rfl, hz⟩ | ⟨g, cap, cur, rfl, h1, h2⟩
   · omega
   · exact ⟨g, cap, rfl, by rw [show S1.words.length = n from EN.out]; exact hown, N1.out.words.wf⟩
  have OLD := Lib.hid hOR.at_; have G0 := Lib.hid (⟨hOR.lt rfl, hOR.far rfl⟩ : g0 < w2.heap.size ∧ w1.heap.size ≤ g0); have own1 := Lib.hid (show ∀ b ∈ r.own, b < w1.heap.size from N1.out.toRW.own_lt); have N2 := Lib.hid (N1.out.ext hE2); have CELLS := Lib.hid (rCells_ N2.out.toRW.at_ HW.out); have ole := OLD.out.le; have ocap := OLD.out.cap; rw [EN.out] at ole; clear hown hgrow hnil hOR hE2 HCW c2 z1 z2 N1 hi0 hz0 hz1 hz2; go_upto_region 4 with (go_at_call 82; refine CELLS.out.mono ?_; rintro e w3 ⟨p2, c2, rfl, hR2, hE2⟩; rw [cellsI_len, EM.out])
  have SL := Lib.hid hR2.at_; have F2 := Lib.hid (show ∀ b o, p2 = some ⟨b, o, none⟩ → b < w3.heap.size ∧ w2.heap.size ≤ b from fun b o e => ⟨hR2.lt e, hR2.far e⟩); have G3 := Lib.hid (show g0 < w3.heap.size from Nat.lt_of_lt_of_le G0.out.1 hE2.le); have own2 := Lib.hid (show ∀ b ∈ r.own, b < w2.heap.size from N2.out.toRW.own_lt); have OL3 := Lib.hid (OLD.out.ext hE2); have N3 := Lib.hid (N2.out.ext hE2); have lle := SL.out.le; have lcap := SL.out.cap; rw [cellsI_len, EM.out] at lle; have own3 := Lib.hid (show ∀ b ∈ r.own, b < w3.heap.size from N3.out.toRW.own_lt); have w3le : w.heap.size ≤ w3.heap.size := N3.out.but.size; clear hR2 hE2 CELLS OLD N2; go_upto_region 6 with fail
  have E4 := Lib.hid (show Ext w3 (w3.alloc (.cells (madeCells #[.int .i64 0] m) 3)) from Ext.alloc (Ext.refl _) _); have TO := Lib.hid (made_at w3 m _ rfl); have F2' := Lib.hid (show ∀ b o, p2 = some ⟨b, o, none⟩ → b < w3.heap.size ∧ b ∉ r.own from fun b o e => ⟨(F2.out b o e).1, fun hm => by have := own2.out b hm; have := (F2.out b o e).2; omega⟩); have G0' := Lib.hid (show g0 < w3.heap.size ∧ g0 ∉ r.own from ⟨G3.out, fun hm => by have := own1.out g0 hm; have := G0.out.2; omega⟩); generalize w3.alloc (.cells (madeCells #[.int .i64 0] m) 3) = w4 at E4 TO ⊢; obtain ⟨gt, hgt⟩ : ∃ gt, w3.heap.size = gt := ⟨_, rfl⟩
  have EGT := Lib.hid hgt; rw [hgt] at TO ⊢; have zt := TO.out.lt; clear hgt F2 G0 G3 own1 own2 hmk
  go_wp2_with fail
  go_loopg [5, 7, 8] m (fun g o nn i wr => ∃ (j : Nat) (p3 : Option Addr) (c3 : Nat), j ≤ m ∧ m - j ≤ g ∧ o = .slice p3 (Hp.pairsOf mv (S1.taken.take j)).length c3 ∧ nn = .int .i64 ((17 + Hp.wsum S1 j : Nat) : Int) ∧ i = .int .i64 j ∧ w4.heap.size ≤ wr.heap.size ∧ Hid (Row wr w4.heap.size p3 c3 (Hp.pairsOf mv (S1.taken.take j))) ∧ Hid (WordsAt wr gt (Hp.toL mv S1.taken j)) ∧ Hid (Ext w3 wr))
  case atStart => exact ⟨0, none, 0, Nat.zero_le _, by omega, by simp [Hp.pairsOf], by simp [Hp.wsum, Hp.widths], rfl, Nat.le_refl _, Lib.hid (Row.nil _ _), Lib.hid (by rw [Hp.toL_zero, EM.out]; exact TO.out), E4⟩
  case round =>
   obtain ⟨j, p3, c3, hj, hg, rfl, rfl, rfl, hsz, R, WT, BT⟩ := hrel; have pl := Hp.pairs_len (m := mv) (T := S1.taken.take j); rw [List.length_take] at pl; have ws := WS.out j; obtain ⟨PJ, hPJ⟩ : ∃ PJ, Hp.pairsOf mv (S1.taken.take j) = PJ := ⟨_, rfl⟩
   have EPJ := Lib.hid hPJ; rw [hPJ] at R pl ⊢; clear hPJ
   by_cases hlt : j < m
   · obtain ⟨a, ha, haj, hrd⟩ := cellsI_rd (S := S1) (j := j) (by rw [EM.out]; exact hlt); have pa := HW.out.part ha; have eva := PLC.out j a haj; rw [← eva]; have ews := Hp.wsum_succ haj; have hmb := MB.out a ha; have hgr := HG.out.rng a ha; obtain ⟨lb, lo2, hlp, hl3, hlc⟩ := SL.out.cells (by rw [cellsI_len, EM.out]; omega); have gl3 := hlc j _ hrd; obtain ⟨va, hva⟩ : ∃ va, mv a = va := ⟨_, rfl⟩
     have tls := Hp.toL_set (m := mv) haj; have tll := Hp.toL_len (m := mv) (T := S1.taken) (j := j) (by rw [EM.out]; omega); have tlg := Hp.toL_get (m := mv) haj (Nat.lt_succ_self j); rw [hva] at eva hmb hgr tls tlg ⊢; have pj := Hp.pairs_succ (m := mv) haj; rw [hva, EPJ.out] at pj; have EPS := Lib.hid pj; rw [EM.out] at tll; have TLG := Lib.hid tlg; have tk : decide ((j : Int) < (m : Int)) = true := decide_eq_true (by omega); obtain ⟨x0, hx0⟩ := rd_get (l := Hp.toL mv S1.taken j) (j := j) (by rw [tll]; exact hlt); have gx := WT.out.get hx0; have fr := WT.out.froz j; have zt1 := WT.out.lt; have WT2 := Lib.hid (WT.out.set (j := j) (v := (va : Int)) (W' := Hp.toL mv S1.taken (j + 1)) (by rw [← tls]; simp [Hp.wr, tll, hlt]) (by omega) (by omega)); have KB : But [gt] wr (wr.setCell ⟨gt, j, none⟩ (.int .i64 va)) := (But.refl _ _).setCell (by simp) _
     have RB := Lib.hid (R.out.but KB (fun b hb => by have : b = gt := by simpa using hb
                                                      omega))
     have BT2 := Lib.hid (KB.toExt BT.out (fun b hb => by have : b = gt := by simpa using hb
                                                          have := EGT.out; omega))
     have SZ2 := Nat.le_trans hsz KB.size; obtain ⟨wk, hwk⟩ : ∃ wk, Hp.wz S1.sizes (Hp.ow S1.words a) = wk := ⟨_, rfl⟩
     have LONG : Hid (∀ W, Ext w3 W → Calls Tryz.prog 67 #[.pointer (some ⟨r.rb, 0, none⟩), .int .i64 a] W fun e w' => e = .returned (.int .i64 (wk : Int)) ∧ Ext W w') := Lib.hid (fun W hW => by
      have := rLong_cell (N3.out.toRW.at_.ext hW) HW.out.fr.toFr (a := a) (by omega) (HW.out.cells.tags a ha); rw [hwk] at this; exact this)
     rw [hwk] at ews hgr pa; have EWZ := Lib.hid (show 17 + Hp.wsum S1 (j + 1) = va + wk by omega); have wz16 := pa.2.2.2.2; have pa2 : a ≤ 100000 := by have := pa.2.2.1; have := EN.out; omega
     clear hrd haj pa eva ews hva tls tll tlg hx0 KB ha pj hlc hwk; subst hlp; go_upto_region 11 with fail
     refine cutW (F := fun W => Hid (WordsAt W gt (Hp.toL mv S1.taken (j + 1))) ∧ Hid (Ext w3 W) ∧ Hid (Row W w4.heap.size p3 c3 PJ) ∧ w4.heap.size ≤ W.heap.size) ⟨WT2, BT2, RB, SZ2⟩ ?_; rintro w5 ⟨WT5, BT5, R5, hsz5⟩; clear gx fr zt1 WT2 BT2 RB WT BT R hsz SZ2; have gl := (BT5.out.cell hl3 (lo2 + j)).trans gl3; have zl := Nat.lt_of_lt_of_le hl3 BT5.out.le; have gtj := WT5.out.get TLG.out; have zt5 := WT5.out.lt
     by_cases hne : va = a
     · have t0 : ((va : Int) != (a : Int)) = false := by simp; omega
       have EPS2 := Lib.hid (show Hp.pairsOf mv (S1.taken.take (j + 1)) = PJ by rw [EPS.out]; simp [hne]); clear hne
       go_wp2_with fail
       have PR46 := Lib.hid (fun (ww : World) (hSw : Ext w5 ww) => And.intro ((hSw.cell zl (lo2 + j)).trans gl) ((hSw.cell zt5 j).trans gtj)); refine wp_region_seq (S := fun W => Ext w5 W) (R := Ext) (by kernel_rfl) Ext.refl ?_ ?_
       · exact exx
       refine' tkL 0 rfl ?h0_1 ?_
       case h0_1 => (intro w q; obtain ⟨gl', gt'⟩ := PR46.out w q; go_simp; try with_reducible rfl)
       refine layy ?_; refine' tkL 1 rfl ?h1_2 ?_
       case h1_2 => (intro w q; obtain ⟨gl', gt'⟩ := PR46.out w q; go_simp; try with_reducible rfl)
       refine layy ?_; refine' tkL 2 rfl ?h2_3 ?_
       case h2_3 => (intro w q; obtain ⟨gl', gt'⟩ := PR46.out w q; go_simp; try with_reducible rfl)
       refine layy ?_; refine' tkL 3 rfl ?h3_4 ?_
       case h3_4 => (intro w q; obtain ⟨gl', gt'⟩ := PR46.out w q; go_simp; try with_reducible rfl)
       refine layy ?_; refine' tkL 4 rfl ?h4_5 ?_
       case h4_5 => (intro w q; obtain ⟨gl', gt'⟩ := PR46.out w q; go_simp; try with_reducible rfl)
       refine layy ?_; refine' tkL 5 rfl ?h5_6 ?_
       case h5_6 => (intro w q; obtain ⟨gl', gt'⟩ := PR46.out w q; go_simp; try with_reducible rfl)
       refine layy ?_; refine' tkL 6 rfl ?h6_7 ?_
       case h6_7 => (intro w q; obtain ⟨gl', gt'⟩ := PR46.out w q; go_simp; try with_reducible rfl)
       refine layy ?_; refine' tkL 7 rfl ?h7_8 ?_
       case h7_8 => (intro w q; obtain ⟨gl', gt'⟩ := PR46.out w q; go_simp; try with_reducible rfl)
       refine layy ?_; refine' tkL 8 rfl ?h8_9 ?_
       case h8_9 => (intro w q; obtain ⟨gl', gt'⟩ := PR46.out w q; go_simp; try with_reducible rfl)
       refine layy ?_; refine wpAnyR_done (by kernel_rfl) ?_ _; intro x1 _ Ex1; have gl2 := (Ex1.cell zl (lo2 + j)).trans gl; have E6 := Lib.hid (BT5.out.trans Ex1)
       go_wp2_with (go_at_call 67; refine (LONG.out _ E6.out).mono ?_; rintro e w6 ⟨rfl, hb6⟩; obtain ⟨hc6, hf6, hs6⟩ := hb6.cells)
       go_roundg (m - (j + 1))
       case measure => omega
       case rel => exact ⟨j + 1, p3, c3, by omega, Nat.le_refl _, by rw [EPS2.out], by rw [EWZ.out]; go_num, by go_num, Nat.le_trans hsz5 (Ex1.trans hb6).le, Lib.hid (by rw [EPS2.out]; exact R5.out.ext (Ex1.trans hb6)), Lib.hid (WT5.out.ext (Ex1.trans hb6)), Lib.hid (E6.out.trans hb6)⟩
     · have t0 : ((va : Int) != (a : Int)) = true := by simp; omega
       have EPS2 := Lib.hid (show Hp.pairsOf mv (S1.taken.take (j + 1)) = PJ ++ [(a : Int), (va : Int)] by rw [EPS.out]; simp [hne]); clear hne
       go_wp2_with fail
       have PR47 := Lib.hid (fun (ww : World) (hSw : Ext w5 ww) => And.intro ((hSw.cell zl (lo2 + j)).trans gl) ((hSw.cell zt5 j).trans gtj)); refine wp_region_seq (S := fun W => Ext w5 W) (R := Ext) (by kernel_rfl) Ext.refl ?_ ?_
       · exact exx
       refine' tkL 0 rfl ?h0_10 ?_
       case h0_10 => (intro w q; obtain ⟨gl', gt'⟩ := PR47.out w q; go_simp; try with_reducible rfl)
       refine layy ?_; refine' tkL 1 rfl ?h1_11 ?_
       case h1_11 => (intro w q; obtain ⟨gl', gt'⟩ := PR47.out w q; go_simp; try with_reducible rfl)
       refine layy ?_; refine' tkL 2 rfl ?h2_12 ?_
       case h2_12 => (intro w q; obtain ⟨gl', gt'⟩ := PR47.out w q; go_simp; try with_reducible rfl)
       refine layy ?_; refine' tkL 3 rfl ?h3_13 ?_
       case h3_13 => (intro w q; obtain ⟨gl', gt'⟩ := PR47.out w q; go_simp; try with_reducible rfl)
       refine layy ?_; refine' tkL 4 rfl ?h4_14 ?_
       case h4_14 => (intro w q; obtain ⟨gl', gt'⟩ := PR47.out w q; go_simp; try with_reducible rfl)
       refine layy ?_; refine' tkL 5 rfl ?h5_15 ?_
       case h5_15 => (intro w q; obtain ⟨gl', gt'⟩ := PR47.out w q; go_simp; try with_reducible rfl)
       refine layy ?_; refine' tkL 6 rfl ?h6_16 ?_
       case h6_16 => (intro w q; obtain ⟨gl', gt'⟩ := PR47.out w q; go_simp; try with_reducible rfl)
       refine layy ?_; refine' tkL 7 rfl ?h7_17 ?_
       case h7_17 => (intro w q; obtain ⟨gl', gt'⟩ := PR47.out w q; go_simp; try with_reducible rfl)
       refine layy ?_; refine' tkL 8 rfl ?h8_18 ?_
       case h8_18 => (intro w q; obtain ⟨gl', gt'⟩ := PR47.out w q; go_simp; try with_reducible rfl)
       refine layy ?_; refine wpAnyR_done (by kernel_rfl) ?_ _; intro x1 _ Ex1; have gl2 := (Ex1.cell zl (lo2 + j)).trans gl; have gt2 := (Ex1.cell zt5 j).trans gtj; have zl2 := Nat.lt_of_lt_of_le zl Ex1.le; have zt2 := Nat.lt_of_lt_of_le zt5 Ex1.le
       go_wp2_with fail
       refine wp_region_any (by kernel_rfl) ?_; refine' tkA 0 rfl ?hy0_19 ?_
       case hy0_19 => (intro w; go_simp; try with_reducible rfl)
       refine layy ?_; have PR48 := Lib.hid (fun (ww : World) (hSw : Ext x1 ww) => And.intro ((hSw.cell zl2 (lo2 + j)).trans gl2) ((hSw.cell zt2 j).trans gt2)); refine wpAny_to_X (S := fun W => Ext x1 W) (R := Ext) 9 8 Ext.refl ?_ ?_ (by rfl)
       · exact Ext.drew exx
       refine' tkY 1 rfl ?h1_20 ?_
       case h1_20 => (intro w q; obtain ⟨gl', gt'⟩ := PR48.out w q; go_simp; try with_reducible rfl)
       refine layy ?_; refine' tkY 2 rfl ?h2_21 ?_
       case h2_21 => (intro w q; obtain ⟨gl', gt'⟩ := PR48.out w q; go_simp; try with_reducible rfl)
       refine layy ?_; refine' tkY 3 rfl ?h3_22 ?_
       case h3_22 => (intro w q; obtain ⟨gl', gt'⟩ := PR48.out w q; go_simp; try with_reducible rfl)
       refine layy ?_; refine' tkY 4 rfl ?h4_23 ?_
       case h4_23 => (intro w q; obtain ⟨gl', gt'⟩ := PR48.out w q; go_simp; try with_reducible rfl)
       refine layy ?_; refine' tkY 5 rfl ?h5_24 ?_
       case h5_24 => (intro w q; obtain ⟨gl', gt'⟩ := PR48.out w q; go_simp; try with_reducible rfl)
       refine layy ?_; refine' tkY 6 rfl ?h6_25 ?_
       case h6_25 => (intro w q; obtain ⟨gl', gt'⟩ := PR48.out w q; go_simp; try with_reducible rfl)
       refine layy ?_; refine' tkY 7 rfl ?h7_26 ?_
       case h7_26 => (intro w q; obtain ⟨gl', gt'⟩ := PR48.out w q; go_simp; try with_reducible rfl)
       refine layy ?_; refine' tkY 8 rfl ?h8_27 ?_
       case h8_27 => (intro w q; obtain ⟨gl', gt'⟩ := PR48.out w q; go_simp; try with_reducible rfl)
       refine layy ?_; refine wpAnyX_done (by kernel_rfl) ?_; intro xd _ Exd; simp only [List.drop_succ_cons, List.drop_zero]; have E6 := Lib.hid ((BT5.out.trans Ex1).trans Exd); have EA : Ext xd (xd.alloc (.cells #[.int .i64 (a : Int), .int .i64 (va : Int)] 3)) := Ext.alloc (Ext.refl _) _; have RA := Lib.hid ((R5.out.ext (Ex1.trans Exd)).ext EA); have WTA := Lib.hid ((WT5.out.ext (Ex1.trans Exd)).ext EA); have hszA : w4.heap.size ≤ (xd.alloc (.cells #[.int .i64 (a : Int), .int .i64 (va : Int)] 3)).heap.size := Nat.le_trans hsz5 ((Ex1.trans Exd).trans EA).le; have hyc : ∀ j y, Hp.rd [(a : Int), (va : Int)] j = some y → (xd.alloc (.cells #[.int .i64 (a : Int), .int .i64 (va : Int)] 3)).cell? ⟨xd.heap.size, j, none⟩ = some (.int .i64 y) := by
        intro j y hj
        match j, hj with
        | 0, hj => simp [Hp.rd] at hj; subst hj; simp [go_sem]
        | 1, hj => simp [Hp.rd] at hj; subst hj; simp [go_sem]
        | j + 2, hj => simp [Hp.rd] at hj
       have hyb : ∀ y ∈ [(a : Int), (va : Int)], -9223372036854775808 ≤ y ∧ y ≤ 9223372036854775807 := by
        intro y hy
        rcases List.mem_cons.1 hy with rfl | hy
        · omega
        · have : y = (va : Int) := by simpa using hy
          subst this; omega
       have hln : PJ.length + [(a : Int), (va : Int)].length < 10000000 := by simp; omega
       have HYC := Lib.hid hyc; have HYB := Lib.hid hyb; have EAH := Lib.hid (E6.out.trans EA); have zt4 := Lib.hid (show gt < w4.heap.size from zt); clear hyc hyb gl2 gt2 zl2 zt2 gl zl gtj zt5 EA; go_upto_region 13 with (at_builtin; refine wpList_append_ints rfl _ _ rfl (ys := [(a : Int), (va : Int)]) rfl rfl (by simp) RA.out HYC.out HYB.out hln hszA ?_; intro g8 c8 x8 hR8 hG8)
       obtain ⟨row, hgr, hrow⟩ := id hG8; have E8 := Lib.hid (ext_grow EAH.out hgr (fun q e => by have := hrow q e; have := zt4.out; have := EGT.out; omega)); have gl8 := (E8.out.cell hl3 (lo2 + j)).trans gl3; have WT8 := Lib.hid (WTA.out.ofBlock (hgr.block gt WTA.out.lt (fun e => by have := hrow gt e.symm; have := zt4.out; omega))); have hsz8 := Nat.le_trans hszA hgr.size; have R8H := Lib.hid hR8; clear hG8 hgr hrow hR8
       go_wp2_with (go_at_call 67; refine (LONG.out _ E8.out).mono ?_; rintro e w6 ⟨rfl, hb6⟩; obtain ⟨hc6, hf6, hs6⟩ := hb6.cells)
       go_roundg (m - (j + 1))
       case measure => omega
       case rel => exact ⟨j + 1, some ⟨g8, 0, none⟩, c8, by omega, Nat.le_refl _, by rw [EPS2.out]; simp, by rw [EWZ.out]; go_num, by go_num, Nat.le_trans hsz8 hb6.le, Lib.hid (by rw [EPS2.out]; exact R8H.out.ext hb6), Lib.hid (WT8.out.ext hb6), Lib.hid (E8.out.trans hb6)⟩
   · have : j = m := by omega
     subst this; have tk : decide ((j : Int) < (j : Int)) = false := decide_eq_false (by omega); have eT : S1.taken.take j = S1.taken := List.take_of_length_le (by rw [EM.out]; exact Nat.le_refl _); have EPJ2 := Lib.hid (show PJ = Hp.pairsOf mv S1.taken by rw [← EPJ.out, eT]); have WT2 := Lib.hid (show WordsAt wr gt (S1.taken.map fun a => ((mv a : Nat) : Int)) by have := WT.out; rw [show j = S1.taken.length from EM.out.symm, Hp.toL_all] at this; exact this); have ewd := show Hp.wsum S1 j = Hp.widths (Hp.ow S1.words) S1.sizes S1.taken by unfold Hp.wsum; rw [eT]
     rw [ewd]; obtain ⟨nx, hnx⟩ : ∃ nx, 17 + Hp.widths (Hp.ow S1.words) S1.sizes S1.taken = nx := ⟨_, rfl⟩
     have ENX := Lib.hid hnx; rw [hnx]; have nxn : nx ≤ n := by rw [← hnx, ← EN.out]; exact HG.out.top
     clear hnx ewd eT EPJ WT ws
     go_wp2_with fail
     obtain ⟨w5, rfl⟩ : ∃ w5, w5 = wr := ⟨_, rfl⟩
     have z3 := N3.out.toRW.lt; have c0 := (BT.out.cell z3 0).trans N3.out.c0; have c1 := (BT.out.cell z3 1).trans N3.out.c1; have hmk := run_make_row' (P := Tryz.prog) 22 3 (.int .i64 0) 8 Tryz.underlying22 (show (Tryz.prog.info? 3).map (fun i => (i.zero, i.size, i.bytes)) = some (some (.int .i64 0), 1, 8) from by kernel_rfl) rfl .i64 .i64 n (by omega) (by omega); have zz0 := cell_lt c0; have PR49 := Lib.hid (fun (ww : World) (hSw : Ext w5 ww) => And.intro ((hSw.cell zz0 0).trans c0) ((hSw.cell zz0 1).trans c1)); refine wp_region_plan (S := fun W => Ext w5 W) (R := Ext) [false, false, false, false, false, false, false, false, false, false, true, false, true, false] (by kernel_rfl) Ext.refl (fun _ _ _ => Ext.trans) (by kernel_rfl) (fun _ _ d _ _ h => by cases d <;> exact h) (by kernel_rfl) exx ?_; intro ops hops'; have hops := Lib.hid hops'; clear hops'; have ES := Lib.hid (Ext.drew (Ext.refl w5)); generalize World.drew w5 = wd at ES ⊢; refine' tkP hops ?hy0_28 ?_
     case hy0_28 => (intro w _; go_simp; try with_reducible rfl)
     refine layy ?_; refine' tkP hops ?hy1_29 ?_
     case hy1_29 => (intro w _; go_simp; try with_reducible rfl)
     refine layy ?_; refine' tkP hops ?hy2_30 ?_
     case hy2_30 => (intro w _; go_simp; try with_reducible rfl)
     refine layy ?_; refine' tkP hops ?hy3_31 ?_
     case hy3_31 => (intro w q; obtain ⟨s0, s1⟩ := PR49.out w q; go_simp; try with_reducible rfl)
     refine layy ?_; refine' tkP hops ?hy4_32 ?_
     case hy4_32 => (intro w _; go_simp; try with_reducible rfl)
     refine layy ?_; refine' tkP hops ?hy5_33 ?_
     case hy5_33 => (intro w _; go_simp; try with_reducible rfl)
     refine layy ?_; refine' tkP hops ?hy6_34 ?_
     case hy6_34 => (intro w _; go_simp; try with_reducible rfl)
     refine layy ?_; refine' tkP hops ?hy7_35 ?_
     case hy7_35 => (intro w q; obtain ⟨s0, s1⟩ := PR49.out w q; go_simp; try with_reducible rfl)
     refine layy ?_; refine' tkP hops ?hy8_36 ?_
     case hy8_36 => (intro w _; go_simp; try with_reducible rfl)
     refine layy ?_; refine' tkP hops ?hy9_37 ?_
     case hy9_37 => (intro w _; go_simp; try with_reducible rfl)
     refine layy ?_; refine Plan.run (fun v W => ∃ g, v = .slice (some ⟨g, 0, none⟩) n n ∧ wd.heap.size ≤ g ∧ WordsAt W g (List.replicate n 0) ∧ Ext wd W) (by first | rfl | (rw [hops.out]; rfl)) ?run10 ?vs10 ?next10
     case run10 =>
      intro w' e1 _; refine .inr ⟨.slice (some ⟨w'.heap.size, 0, none⟩) n n, w'.alloc (.cells (madeCells #[.int .i64 0] n) 3), ?_, w'.heap.size, rfl, e1.le, made_at w' n _ rfl, e1.trans (Ext.alloc (Ext.refl _) _)⟩; go_simp
     case vs10 =>
      rintro v W ⟨g, rfl, -, -, hE⟩ W' e1; exact ES.out.trans (hE.trans e1)
     rintro v w6 ⟨gx, rfl, hgx, hWX, hE6⟩; have E6 := Lib.hid hE6; have WX := Lib.hid hWX; have EGX := Lib.hid hgx; clear hgx hWX hE6; refine layy ?_; refine' tkP hops ?hy11_38 ?_
     case hy11_38 => (intro w _; go_simp; try with_reducible rfl)
     refine layy ?_; refine Plan.run (fun v W => ∃ b, v = .pointer (some ⟨b, 0, none⟩) ∧ w6.heap.size ≤ b ∧ (W.cell? ⟨b, 0, none⟩ = some (.slice r.sp S1.sizes.length r.sc) ∧ W.cell? ⟨b, 1, none⟩ = some (.slice r.op S1.order.length r.oc) ∧ W.cell? ⟨b, 2, none⟩ = some (.slice (some ⟨gx, 0, none⟩) n n) ∧ W.frozen? ⟨b, 2, none⟩ = false) ∧ Ext w6 W) (by first | rfl | (rw [hops.out]; rfl)) ?run12 ?vs12 ?next12
     case run12 =>
      intro w' e1 _; refine .inr ⟨.pointer (some ⟨w'.heap.size, 0, none⟩), w'.alloc (.cells #[.slice r.sp S1.sizes.length r.sc, .slice r.op S1.order.length r.oc, .slice (some ⟨gx, 0, none⟩) n n] 54), ?_, w'.heap.size, rfl, e1.le, ⟨?_, ?_, ?_, ?_⟩, e1.trans (Ext.alloc (Ext.refl _) _)⟩ <;> go_simp
     case vs12 =>
      rintro v W ⟨b, rfl, -, -, hE⟩ W' e1; exact hE.trans e1
     rintro v w7 ⟨xb, rfl, hxb, hX0, hE7⟩; have E7 := Lib.hid hE7; have X0 := Lib.hid hX0; have EXB := Lib.hid hxb; clear hxb hX0 hE7; refine layy ?_; refine' tkP hops ?hy13_39 ?_
     case hy13_39 => (intro w _; go_simp; try with_reducible rfl)
     refine layy ?_; refine Plan.done ?_; intro w8 e8 _; have E8 := Lib.hid e8; clear e8; have GX5 : w5.heap.size ≤ gx := Nat.le_trans ES.out.le EGX.out; have XB5 : gx < xb := Nat.lt_of_lt_of_le WX.out.lt EXB.out; have zxb := cell_lt X0.out.1; have E58 := Lib.hid (ES.out.trans (E6.out.trans (E7.out.trans E8.out)))
     have NX : Hid (∃ rx : Rd, rx.rb = xb ∧ rx.gb = gx ∧ rx.wc = n ∧ RNow w8 w8 rx { S1 with words := List.replicate n 0 }) := Lib.hid ⟨⟨xb, r.sp, r.sc, r.op, r.oc, gx, 0, n⟩, rfl, rfl, rfl, RNow.refl
      { c0 := (E8.out.cell zxb 0).trans X0.out.1
        c1 := (E8.out.cell zxb 1).trans X0.out.2.1
        c2 := by
         refine (E8.out.cell zxb 2).trans (X0.out.2.2.1.trans ?_); simp
        f2 := (E8.out.frozen zxb 2).trans X0.out.2.2.2
        sizes := N3.out.toRW.sizes.ext (BT.out.trans E58.out)
        order := N3.out.toRW.order.ext (BT.out.trans E58.out)
        words := WX.out.ext (E7.out.trans E8.out)
        le := by simp
        cap := by show n ≤ _; omega
        go := rfl
        apart := by show xb ≠ gx; omega
        far1 := fun h0 b o e hm => by
         obtain ⟨b', o', e', hb, _⟩ := (N3.out.toRW.sizes.ext BT.out).cells h0; have e : r.sp = some ⟨b, o, none⟩ := e; rw [e'] at e
         cases e
         simp [Rd.own] at hm; omega
        far2 := fun h0 b o e hm => by
         obtain ⟨b', o', e', hb, _⟩ := (N3.out.toRW.order.ext BT.out).cells h0; have e : r.op = some ⟨b, o, none⟩ := e; rw [e'] at e
         cases e
         simp [Rd.own] at hm; omega }⟩
     obtain ⟨rx, rfl, rfl, hrw, hNX⟩ := NX.out; have RWC := Lib.hid hrw; have NX0 := Lib.hid hNX; have XT := Lib.hid (show ∀ W, But rx.own w8 W → Ext w5 W from fun W k => k.toExt E58.out (fun b hb => by
      simp only [Rd.own, List.mem_cons, List.mem_singleton, List.not_mem_nil, or_false] at hb; omega))
     have GO := Lib.hid (show ∀ k, k < n → w5.cell? ⟨g0, k, none⟩ = some (.int .i64 (Hp.ow S1.words k)) from fun k hk => by
      obtain ⟨b', o', e', hb, hc⟩ := (OL3.out.ext BT.out).cells (by rw [EN.out]; omega)
      cases e'
      have := hc k _ (Hp.rd_ow (by rw [EN.out]; exact hk))
      rwa [Nat.zero_add] at this)
     have zg0 : g0 < w5.heap.size := Nat.lt_of_lt_of_le G0'.out.1 BT.out.le; have ztg := WT2.out.lt; clear hrw hNX NX hmk zxb
     go_wp2_with fail
     go_loopg [10] j (fun g i wr => ∃ (q : Nat) (V : List Int), q ≤ j ∧ j - q ≤ g ∧ i = .int .i64 q ∧ Hid (Hp.Packing S1 mv q V) ∧ Hid (RNow w8 wr rx { S1 with words := V }))
     case atStart => exact ⟨0, _, Nat.zero_le _, by omega, rfl, Lib.hid (Hp.Packing.start n EN.out), NX0⟩
     case round =>
      obtain ⟨q, V, hq, hgq, rfl, PK, NV⟩ := hrel; clear NX0; have EV := Lib.hid (PK.out.len.trans EN.out); have c2x := NV.out.len EV.out; rw [RWC.out] at c2x; have z1 := NV.out.toRW.lt; have z2 := NV.out.words.lt; have EW := Lib.hid (XT.out _ NV.out.but)
      by_cases hlt2 : q < j
      · obtain ⟨a, ha, haj, hrd⟩ := cellsI_rd (S := S1) (j := q) (by rw [EM.out]; exact hlt2); have pa := HW.out.part ha; rw [EN.out] at pa; have hgr := HG.out.rng a ha; have hot := HW.out.cells.tags a ha; have gt5 := WT2.out.get (Hp.map_rd haj); obtain ⟨lb, lo2, hlp, hlb, hlc⟩ := (SL.out.ext BT.out).cells (by rw [cellsI_len, EM.out]; omega); have gl5 := hlc q _ hrd; have FI := Lib.hid (PK.out.into HW.out HG.out haj); have ISN := Lib.hid (fun W (hW : Ext w5 W) => rIsNode (N3.out.toRW.at_.ext (BT.out.trans hW)) (a := a) (by rw [EN.out]; omega)); obtain ⟨fl, hfl⟩ : ∃ fl, Hp.wz S1.sizes (Hp.ow S1.words a) - 4 = fl := ⟨_, rfl⟩
        have L20 := Hp.lt20 HW.out ha; have FLD : Hid (∀ W, Ext w5 W → Calls Tryz.prog 88 #[.pointer (some ⟨r.rb, 0, none⟩), .int .i64 a] W fun e w' => e = .returned (.slice (some ⟨r.gb, r.go + (a + 4), none⟩) fl (r.wc - (a + 4))) ∧ Ext W w') := Lib.hid (fun W hW => by
         have := rField (N3.out.toRW.at_.ext (BT.out.trans hW)) HW.out ha; rw [Hp.fz_length, hfl] at this; exact this)
        have GF := Lib.hid (show ∀ k, k < fl → w5.cell? ⟨r.gb, r.go + (a + 4) + k, none⟩ = some (.int .i64 (Hp.ow S1.words (a + 4 + k))) from fun k hk => (BT.out.cell N3.out.words.lt _).trans (RNow.go0 (V := S1.words) (S := S1) (a := a) (k := k) (j := a + 4 + k) N3.out (by rw [EN.out]; omega) rfl rfl)); have zgb : r.gb < w5.heap.size := Nat.lt_of_lt_of_le N3.out.words.lt BT.out.le; obtain ⟨va, hva⟩ : ∃ va, mv a = va := ⟨_, rfl⟩
        rw [hva] at hgr gt5 FI; have EVA := Lib.hid hva; have hw4 : Hp.wz S1.sizes (Hp.ow S1.words a) = fl + 4 := by
         have := pa.2.2.2; omega
        rw [hw4, ENX.out] at hgr; rw [hw4] at pa; have van : va + 4 + fl ≤ n := by
         have := hgr.2; omega
        have va17 := hgr.1; have an : a + 4 + fl ≤ n := by
         have := pa.2.2.1; omega
        have fl1 : 1 ≤ fl := by
         have := pa.2.2.2; omega
        have fl12 : fl ≤ 12 := by
         have := pa.2.2.2; omega
        have HA := Lib.hid ha; have HAJ := Lib.hid haj; have EFL := Lib.hid hfl; have B := Lib.hid (fun k => N3.out.toRW.bound (j := k)); have tk : decide ((q : Int) < (j : Int)) = true := decide_eq_true (by omega); obtain ⟨be, hbe⟩ : ∃ be, Hp.isEnd (Hp.ow S1.words a) = be := ⟨_, rfl⟩
        have BE := Lib.hid hbe; rw [L20, hbe] at ISN; clear hva pa hgr hlc hrd ha haj hfl hot hw4 L20 hbe; subst hlp; have vn0 : va < n := by omega
        have vn1 : va + 1 < n := by omega
        have vn2 : va + 2 < n := by omega
        have an0 : a < n := by omega
        have an1 : a + 1 < n := by omega
        have an2 : a + 2 < n := by omega
        have glw := (EW.out.cell hlb (lo2 + q)).trans gl5; go_upto_region 19 with (go_at_call 88; refine (FLD.out _ EW.out).mono ?_; rintro e w9 ⟨rfl, hb9⟩; obtain ⟨hc9, hf9, hs9⟩ := hb9.cells)
        have N9 := Lib.hid (NV.out.ext hb9); have E9 := Lib.hid (EW.out.trans hb9); have c2y := N9.out.len EV.out; rw [RWC.out] at c2y; clear c2x z1 z2 EW hb9 hc9 hf9 hs9 glw; obtain ⟨y1, y2, y3, y4⟩ : IntKind.i64.wrap (((va : Nat) : Int) + 1) = ((va : Nat) : Int) + 1 ∧ (0 : Int) ≤ ((va : Nat) : Int) + 1 ∧ ((va : Nat) : Int) + 1 < ((n : Nat) : Int) ∧ (((va : Nat) : Int) + 1).toNat = va + 1 := ⟨IntWalk.i64_in _ (by omega), by omega, by omega, by omega⟩
        obtain ⟨s1, s2, s3, s4⟩ : IntKind.i64.wrap (((va : Nat) : Int) + 2) = ((va : Nat) : Int) + 2 ∧ (0 : Int) ≤ ((va : Nat) : Int) + 2 ∧ ((va : Nat) : Int) + 2 < ((n : Nat) : Int) ∧ (((va : Nat) : Int) + 2).toNat = va + 2 := ⟨IntWalk.i64_in _ (by omega), by omega, by omega, by omega⟩
        obtain ⟨t1, t2, t3, t4⟩ : IntKind.i64.wrap (((a : Nat) : Int) + 1) = ((a : Nat) : Int) + 1 ∧ (0 : Int) ≤ ((a : Nat) : Int) + 1 ∧ ((a : Nat) : Int) + 1 < ((n : Nat) : Int) ∧ (((a : Nat) : Int) + 1).toNat = a + 1 := ⟨IntWalk.i64_in _ (by omega), by omega, by omega, by omega⟩
        obtain ⟨u1, u2, u3, u4⟩ : IntKind.i64.wrap (((a : Nat) : Int) + 2) = ((a : Nat) : Int) + 2 ∧ (0 : Int) ≤ ((a : Nat) : Int) + 2 ∧ ((a : Nat) : Int) + 2 < ((n : Nat) : Int) ∧ (((a : Nat) : Int) + 2).toNat = a + 2 := ⟨IntWalk.i64_in _ (by omega), by omega, by omega, by omega⟩
        refine wp_region_stores (S := (fun W : World => W.cell? ⟨rx.rb, 2, none⟩ = some (.slice (some ⟨rx.gb, 0, none⟩) n n) ∧ Ext w5 W)) [false, false, false, false, false, false, false, false, false, false, false, false, false, false, false, false, false, false, false, false, false, false, false, false, false, false, false, false, false, false, false, false, false, false, false, false, false, false, false, false, false, false, false, false, false, false, false, false, false, false, true, false, true, false, true] (by kernel_rfl) (by kernel_rfl) (fun _ _ d _ _ h => by cases d <;> exact h) (by kernel_rfl) (by exact ⟨c2y, Ext.drew E9.out⟩) ?_; intro ops hops'; have hops := Lib.hid hops'; clear hops'; have ND := Lib.hid (N9.out.ext (Ext.drew (Ext.refl w9))); generalize World.drew w9 = wd2 at ND ⊢; clear c2y N9 E9; refine' tkS hops ?hy0_40 ?_
        case hy0_40 => (intro w _; go_simp; try with_reducible rfl)
        refine layy ?_; refine' tkS hops ?hy1_41 ?_
        case hy1_41 => (intro w _; go_simp; try with_reducible rfl)
        refine layy ?_; refine' tkS hops ?hy2_42 ?_
        case hy2_42 => (intro w _; go_simp; try with_reducible rfl)
        refine layy ?_; refine' tkS hops ?hy3_43 ?_
        case hy3_43 => (intro w hSw; (obtain ⟨s1, s2⟩ := hSw; have f1 := (s2.cell ztg q).trans gt5; have f2 := (s2.cell hlb (lo2 + q)).trans gl5; have f3 := (s2.cell zg0 a).trans (GO.out a (by omega)); have f4 := (s2.cell zg0 (a + 1)).trans (GO.out (a + 1) (by omega)); have f5 := (s2.cell zg0 (a + 2)).trans (GO.out (a + 2) (by omega))); go_simp; try with_reducible rfl)
        refine layy ?_; refine' tkS hops ?hy4_44 ?_
        case hy4_44 => (intro w _; go_simp; try with_reducible rfl)
        refine layy ?_; refine' tkS hops ?hy5_45 ?_
        case hy5_45 => (intro w _; go_simp; try with_reducible rfl)
        refine layy ?_; refine' tkS hops ?hy6_46 ?_
        case hy6_46 => (intro w _; go_simp; try with_reducible rfl)
        refine layy ?_; refine' tkS hops ?hy7_47 ?_
        case hy7_47 => (intro w hSw; (obtain ⟨s1, s2⟩ := hSw; have f1 := (s2.cell ztg q).trans gt5; have f2 := (s2.cell hlb (lo2 + q)).trans gl5; have f3 := (s2.cell zg0 a).trans (GO.out a (by omega)); have f4 := (s2.cell zg0 (a + 1)).trans (GO.out (a + 1) (by omega)); have f5 := (s2.cell zg0 (a + 2)).trans (GO.out (a + 2) (by omega))); go_simp; try with_reducible rfl)
        refine layy ?_; refine' tkS hops ?hy8_48 ?_
        case hy8_48 => (intro w _; go_simp; try with_reducible rfl)
        refine layy ?_; refine' tkS hops ?hy9_49 ?_
        case hy9_49 => (intro w _; go_simp; try with_reducible rfl)
        refine layy ?_; refine' tkS hops ?hy10_50 ?_
        case hy10_50 => (intro w _; go_simp; try with_reducible rfl)
        refine layy ?_; refine' tkS hops ?hy11_51 ?_
        case hy11_51 => (intro w hSw; (obtain ⟨s1, s2⟩ := hSw; have f1 := (s2.cell ztg q).trans gt5; have f2 := (s2.cell hlb (lo2 + q)).trans gl5; have f3 := (s2.cell zg0 a).trans (GO.out a (by omega)); have f4 := (s2.cell zg0 (a + 1)).trans (GO.out (a + 1) (by omega)); have f5 := (s2.cell zg0 (a + 2)).trans (GO.out (a + 2) (by omega))); go_simp; try with_reducible rfl)
        refine layy ?_; refine' tkS hops ?hy12_52 ?_
        case hy12_52 => (intro w _; go_simp; try with_reducible rfl)
        refine layy ?_; refine' tkS hops ?hy13_53 ?_
        case hy13_53 => (intro w _; go_simp; try with_reducible rfl)
        refine layy ?_; refine' tkS hops ?hy14_54 ?_
        case hy14_54 => (intro w _; go_simp; try with_reducible rfl)
        refine layy ?_; refine' tkS hops ?hy15_55 ?_
        case hy15_55 => (intro w hSw; (obtain ⟨s1, s2⟩ := hSw; have f1 := (s2.cell ztg q).trans gt5; have f2 := (s2.cell hlb (lo2 + q)).trans gl5; have f3 := (s2.cell zg0 a).trans (GO.out a (by omega)); have f4 := (s2.cell zg0 (a + 1)).trans (GO.out (a + 1) (by omega)); have f5 := (s2.cell zg0 (a + 2)).trans (GO.out (a + 2) (by omega))); go_simp; try with_reducible rfl)
        refine layy ?_; refine' tkS hops ?hy16_56 ?_
        case hy16_56 => (intro w _; go_simp; try with_reducible rfl)
        refine layy ?_; refine' tkS hops ?hy17_57 ?_
        case hy17_57 => (intro w _; go_simp; try with_reducible rfl)
        refine layy ?_; refine' tkS hops ?hy18_58 ?_
        case hy18_58 => (intro w _; go_simp; try with_reducible rfl)
        refine layy ?_; refine' tkS hops ?hy19_59 ?_
        case hy19_59 => (intro w _; go_simp; try with_reducible rfl)
        refine layy ?_; refine' tkS hops ?hy20_60 ?_
        case hy20_60 => (intro w hSw; (obtain ⟨s1, s2⟩ := hSw; have f1 := (s2.cell ztg q).trans gt5; have f2 := (s2.cell hlb (lo2 + q)).trans gl5; have f3 := (s2.cell zg0 a).trans (GO.out a (by omega)); have f4 := (s2.cell zg0 (a + 1)).trans (GO.out (a + 1) (by omega)); have f5 := (s2.cell zg0 (a + 2)).trans (GO.out (a + 2) (by omega))); go_simp; try with_reducible rfl)
        refine layy ?_; refine' tkS hops ?hy21_61 ?_
        case hy21_61 => (intro w _; go_simp; try with_reducible rfl)
        refine layy ?_; refine' tkS hops ?hy22_62 ?_
        case hy22_62 => (intro w _; go_simp; try with_reducible rfl)
        refine layy ?_; refine' tkS hops ?hy23_63 ?_
        case hy23_63 => (intro w _; go_simp; try with_reducible rfl)
        refine layy ?_; refine' tkS hops ?hy24_64 ?_
        case hy24_64 => (intro w hSw; (obtain ⟨s1, s2⟩ := hSw; have f1 := (s2.cell ztg q).trans gt5; have f2 := (s2.cell hlb (lo2 + q)).trans gl5; have f3 := (s2.cell zg0 a).trans (GO.out a (by omega)); have f4 := (s2.cell zg0 (a + 1)).trans (GO.out (a + 1) (by omega)); have f5 := (s2.cell zg0 (a + 2)).trans (GO.out (a + 2) (by omega))); go_simp; try with_reducible rfl)
        refine layy ?_; refine' tkS hops ?hy25_65 ?_
        case hy25_65 => (intro w _; go_simp; try with_reducible rfl)
        refine layy ?_; refine' tkS hops ?hy26_66 ?_
        case hy26_66 => (intro w _; go_simp; try with_reducible rfl)
        refine layy ?_; refine' tkS hops ?hy27_67 ?_
        case hy27_67 => (intro w _; go_simp; try with_reducible rfl)
        refine layy ?_; refine' tkS hops ?hy28_68 ?_
        case hy28_68 => (intro w _; go_simp; try with_reducible rfl)
        refine layy ?_; refine' tkS hops ?hy29_69 ?_
        case hy29_69 => (intro w _; go_simp; try with_reducible rfl)
        refine layy ?_; refine' tkS hops ?hy30_70 ?_
        case hy30_70 => (intro w hSw; (obtain ⟨s1, s2⟩ := hSw; have f1 := (s2.cell ztg q).trans gt5; have f2 := (s2.cell hlb (lo2 + q)).trans gl5; have f3 := (s2.cell zg0 a).trans (GO.out a (by omega)); have f4 := (s2.cell zg0 (a + 1)).trans (GO.out (a + 1) (by omega)); have f5 := (s2.cell zg0 (a + 2)).trans (GO.out (a + 2) (by omega))); go_simp; try with_reducible rfl)
        refine layy ?_; refine' tkS hops ?hy31_71 ?_
        case hy31_71 => (intro w _; go_simp; try with_reducible rfl)
        refine layy ?_; refine' tkS hops ?hy32_72 ?_
        case hy32_72 => (intro w hSw; (obtain ⟨s1, s2⟩ := hSw; have f1 := (s2.cell ztg q).trans gt5; have f2 := (s2.cell hlb (lo2 + q)).trans gl5; have f3 := (s2.cell zg0 a).trans (GO.out a (by omega)); have f4 := (s2.cell zg0 (a + 1)).trans (GO.out (a + 1) (by omega)); have f5 := (s2.cell zg0 (a + 2)).trans (GO.out (a + 2) (by omega))); go_simp; try with_reducible rfl)
        refine layy ?_; refine' tkS hops ?hy33_73 ?_
        case hy33_73 => (intro w _; go_simp; try with_reducible rfl)
        refine layy ?_; refine' tkS hops ?hy34_74 ?_
        case hy34_74 => (intro w _; go_simp; try with_reducible rfl)
        refine layy ?_; refine' tkS hops ?hy35_75 ?_
        case hy35_75 => (intro w _; go_simp; try with_reducible rfl)
        refine layy ?_; refine' tkS hops ?hy36_76 ?_
        case hy36_76 => (intro w _; go_simp; try with_reducible rfl)
        refine layy ?_; refine' tkS hops ?hy37_77 ?_
        case hy37_77 => (intro w hSw; (obtain ⟨s1, s2⟩ := hSw; have f1 := (s2.cell ztg q).trans gt5; have f2 := (s2.cell hlb (lo2 + q)).trans gl5; have f3 := (s2.cell zg0 a).trans (GO.out a (by omega)); have f4 := (s2.cell zg0 (a + 1)).trans (GO.out (a + 1) (by omega)); have f5 := (s2.cell zg0 (a + 2)).trans (GO.out (a + 2) (by omega))); go_simp; try with_reducible rfl)
        refine layy ?_; refine' tkS hops ?hy38_78 ?_
        case hy38_78 => (intro w _; go_simp; try with_reducible rfl)
        refine layy ?_; refine' tkS hops ?hy39_79 ?_
        case hy39_79 => (intro w _; go_simp; try with_reducible rfl)
        refine layy ?_; refine' tkS hops ?hy40_80 ?_
        case hy40_80 => (intro w hSw; (obtain ⟨s1, s2⟩ := hSw; have f1 := (s2.cell ztg q).trans gt5; have f2 := (s2.cell hlb (lo2 + q)).trans gl5; have f3 := (s2.cell zg0 a).trans (GO.out a (by omega)); have f4 := (s2.cell zg0 (a + 1)).trans (GO.out (a + 1) (by omega)); have f5 := (s2.cell zg0 (a + 2)).trans (GO.out (a + 2) (by omega))); go_simp; try with_reducible rfl)
        refine layy ?_; refine' tkS hops ?hy41_81 ?_
        case hy41_81 => (intro w _; go_simp; try with_reducible rfl)
        refine layy ?_; refine' tkS hops ?hy42_82 ?_
        case hy42_82 => (intro w _; go_simp; try with_reducible rfl)
        refine layy ?_; refine' tkS hops ?hy43_83 ?_
        case hy43_83 => (intro w _; go_simp; try with_reducible rfl)
        refine layy ?_; refine' tkS hops ?hy44_84 ?_
        case hy44_84 => (intro w _; go_simp; try with_reducible rfl)
        refine layy ?_; refine' tkS hops ?hy45_85 ?_
        case hy45_85 => (intro w hSw; (obtain ⟨s1, s2⟩ := hSw; have f1 := (s2.cell ztg q).trans gt5; have f2 := (s2.cell hlb (lo2 + q)).trans gl5; have f3 := (s2.cell zg0 a).trans (GO.out a (by omega)); have f4 := (s2.cell zg0 (a + 1)).trans (GO.out (a + 1) (by omega)); have f5 := (s2.cell zg0 (a + 2)).trans (GO.out (a + 2) (by omega))); go_simp; try with_reducible rfl)
        refine layy ?_; refine' tkS hops ?hy46_86 ?_
        case hy46_86 => (intro w _; go_simp; try with_reducible rfl)
        refine layy ?_; refine' tkS hops ?hy47_87 ?_
        case hy47_87 => (intro w _; go_simp; try with_reducible rfl)
        refine layy ?_; refine' tkS hops ?hy48_88 ?_
        case hy48_88 => (intro w hSw; (obtain ⟨s1, s2⟩ := hSw; have f1 := (s2.cell ztg q).trans gt5; have f2 := (s2.cell hlb (lo2 + q)).trans gl5; have f3 := (s2.cell zg0 a).trans (GO.out a (by omega)); have f4 := (s2.cell zg0 (a + 1)).trans (GO.out (a + 1) (by omega)); have f5 := (s2.cell zg0 (a + 2)).trans (GO.out (a + 2) (by omega))); go_simp; try with_reducible rfl)
        refine layy ?_; refine' tkS hops ?hy49_89 ?_
        case hy49_89 => (intro w _; go_simp; try with_reducible rfl)
        refine layy ?_; have g0' := ND.out.word (j := va) (x := _) (by rw [EV.out]; exact vn0) rfl; have fr0 := ND.out.words.froz va; have zg := ND.out.words.lt; have NA := Lib.hid (ND.out.set (j := va) (v := Hp.ow S1.words a) (by show va < V.length; rw [EV.out]; exact vn0) (B.out a (by rw [EN.out]; omega)).1 (B.out a (by rw [EN.out]; omega)).2); refine PlanS.put (wd2.setCell ⟨rx.gb, va, none⟩ (.int .i64 (Hp.ow S1.words a))) (by first | rfl | (rw [hops.out]; rfl)) ?run50 ?hS50 ?next50
        case run50 => go_simp
        case hS50 =>
         have := NA.out.len (n := n) (by simp; exact EV.out); rw [RWC.out] at this; exact ⟨this, XT.out _ NA.out.but⟩
        refine layy ?_; generalize wd2.setCell ⟨rx.gb, va, none⟩ (.int .i64 (Hp.ow S1.words a)) = we at NA ⊢; clear g0' fr0 zg ND; refine' tkS hops ?hy51_90 ?_
        case hy51_90 => (intro w _; go_simp; try with_reducible rfl)
        refine layy ?_; have g0' := NA.out.word (j := va + 1) (x := _) (by simp; rw [EV.out]; exact vn1) rfl; have fr0 := NA.out.words.froz (va + 1); have zg := NA.out.words.lt; have NB := Lib.hid (NA.out.set (j := va + 1) (v := Hp.ow S1.words (a + 1)) (by simp; rw [EV.out]; exact vn1) (B.out (a + 1) (by rw [EN.out]; omega)).1 (B.out (a + 1) (by rw [EN.out]; omega)).2); refine PlanS.put (we.setCell ⟨rx.gb, va + 1, none⟩ (.int .i64 (Hp.ow S1.words (a + 1)))) (by first | rfl | (rw [hops.out]; rfl)) ?run52 ?hS52 ?next52
        case run52 => go_simp
        case hS52 =>
         have := NB.out.len (n := n) (by simp; exact EV.out); rw [RWC.out] at this; exact ⟨this, XT.out _ NB.out.but⟩
        refine layy ?_; generalize we.setCell ⟨rx.gb, va + 1, none⟩ (.int .i64 (Hp.ow S1.words (a + 1))) = wf at NB ⊢; clear g0' fr0 zg NA; refine' tkS hops ?hy53_91 ?_
        case hy53_91 => (intro w _; go_simp; try with_reducible rfl)
        refine layy ?_; have g0' := NB.out.word (j := va + 2) (x := _) (by simp; rw [EV.out]; exact vn2) rfl; have fr0 := NB.out.words.froz (va + 2); have zg := NB.out.words.lt; have NC := Lib.hid (NB.out.set (j := va + 2) (v := Hp.ow S1.words (a + 2)) (by simp; rw [EV.out]; exact vn2) (B.out (a + 2) (by rw [EN.out]; omega)).1 (B.out (a + 2) (by rw [EN.out]; omega)).2); refine PlanS.put (wf.setCell ⟨rx.gb, va + 2, none⟩ (.int .i64 (Hp.ow S1.words (a + 2)))) (by first | rfl | (rw [hops.out]; rfl)) ?run54 ?hS54 ?next54
        case run54 => go_simp
        case hS54 =>
         have := NC.out.len (n := n) (by simp; exact EV.out); rw [RWC.out] at this; exact ⟨this, XT.out _ NC.out.but⟩
        refine layy ?_; generalize wf.setCell ⟨rx.gb, va + 2, none⟩ (.int .i64 (Hp.ow S1.words (a + 2))) = wg at NC ⊢; clear g0' fr0 zg NB; refine PlanS.done ?_; clear y1 y2 y3 y4 s1 s2 s3 s4 t1 t2 t3 t4 u1 u2 u3 u4
        go_wp2_with fail
        go_loopg [12] fl (fun g s wr => ∃ (k : Nat) (V2 : List Int), k ≤ fl ∧ fl - k ≤ g ∧ s = .int .i64 k ∧ Hid (Hp.Filling S1 mv a V k V2) ∧ Hid (RNow w8 wr rx { S1 with words := V2 }))
        case atStart => exact ⟨0, _, Nat.zero_le _, by omega, rfl, FI, NC⟩
        case round =>
         obtain ⟨k, V2, hk, hgk, rfl, FL, NK⟩ := hrel; clear FI NC EV NV; have EV := Lib.hid (FL.out.len.trans EN.out); have EK := Lib.hid (XT.out _ NK.out.but)
         by_cases hlt3 : k < fl
         · have tk2 : decide ((k : Int) < (fl : Int)) = true := decide_eq_true (by omega); have gf5 := GF.out k hlt3; have v4n : va + 4 < n := by omega
           have vkn : va + 4 + k < n := by omega
           obtain ⟨y1, y2, y3, y4⟩ : IntKind.i64.wrap (((va : Nat) : Int) + 4) = ((va : Nat) : Int) + 4 ∧ (0 : Int) ≤ ((va : Nat) : Int) + 4 ∧ ((va : Nat) : Int) + 4 < ((n : Nat) : Int) ∧ (((va : Nat) : Int) + 4).toNat = va + 4 := ⟨IntWalk.i64_in _ (by omega), by omega, by omega, by omega⟩
           obtain ⟨s1, s2, s3, s4⟩ : IntKind.i64.wrap (((va : Nat) : Int) + 4 + ((k : Nat) : Int)) = ((va : Nat) : Int) + 4 + ((k : Nat) : Int) ∧ (0 : Int) ≤ ((va : Nat) : Int) + 4 + ((k : Nat) : Int) ∧ ((va : Nat) : Int) + 4 + ((k : Nat) : Int) < ((n : Nat) : Int) ∧ (((va : Nat) : Int) + 4 + ((k : Nat) : Int)).toNat = va + 4 + k := ⟨IntWalk.i64_in _ (by omega), by omega, by omega, by omega⟩
           have w4k : IntKind.i64.wrap ((va : Int) + 4 + (k : Int)) = (va : Int) + 4 + (k : Int) := IntWalk.i64_in _ (by omega)
           go_wp2_with fail
           refine wp_region_still_tail 16 (by kernel_rfl) (by kernel_rfl) ?_; change wpStill _ _ (World.drew wr) (fun a' => wpList _ _ _ _ a' (World.drew wr)) _ _; have EDW : Ext wr (World.drew wr) := Ext.drew (Ext.refl _); have NY := Lib.hid (NK.out.ext EDW); generalize World.drew wr = wy at NY EDW ⊢; have f2 := NY.out.f2; have z1 := NY.out.toRW.lt; have z2 := NY.out.words.lt; have c2' := NY.out.len EV.out; rw [RWC.out] at c2'; have gt' := ((EK.out.trans EDW).cell ztg q).trans gt5; have gf' := ((EK.out.trans EDW).cell zgb (r.go + (a + 4) + k)).trans gf5; have g1 := NY.out.word (j := va + 4 + k) (x := _) (by rw [EV.out]; exact vkn) rfl; have fr := NY.out.words.froz (va + 4 + k); simp only [List.take_succ_cons, List.take_zero, List.drop_succ_cons, List.drop_zero]
           repeat still_step
           refine wpStill_nil ?_; have BF := B.out (a + 4 + k) (by rw [EN.out]; omega); have NS := Lib.hid (NY.out.set (j := va + 4 + k) (v := Hp.ow S1.words (a + 4 + k)) (by show va + 4 + k < V2.length; rw [EV.out]; exact vkn) BF.1 BF.2); have hkw : k < Hp.wz S1.sizes (Hp.ow S1.words a) - 4 := by rw [EFL.out]; exact hlt3
           go_upto_region 24 with fail
           refine cutW (F := fun W => Hid (RNow w8 W rx { S1 with words := V2.set (va + 4 + k) (Hp.ow S1.words (a + 4 + k)) })) NS ?_; rintro wz NZ; have EZ := Lib.hid (XT.out _ NZ.out.but); have glz := (EZ.out.cell hlb (lo2 + q)).trans gl5; clear NS NY NK EK EDW
           cases be with
           | true =>
            have ST := Lib.hid (FL.out.step HW.out HG.out HA.out hkw); rw [EVA.out, Hp.nz_end BE.out hkw] at ST; clear y1 y2 y3 y4 s1 s2 s3 s4 w4k
            go_wp2_with (go_at_call 87; refine (ISN.out _ EZ.out).mono ?_; rintro e w10 ⟨rfl, hb10⟩; obtain ⟨hc10, hf10, hs10⟩ := hb10.cells)
            go_roundg (fl - (k + 1))
            case measure => omega
            case rel => exact ⟨k + 1, _, by omega, Nat.le_refl _, by go_num, Lib.hid ST.out.2, Lib.hid (NZ.out.ext hb10)⟩
           | false =>
            obtain ⟨b, hb, eb, enz⟩ := Hp.nz_node (m := mv) HW.out HA.out BE.out hkw; have F2 := Lib.hid ((FL.out.fill HW.out HG.out HA.out hkw (Hp.ow S1.words (a + 4 + k))).2); have ST := Lib.hid (F2.out.step HW.out HG.out HA.out hkw); rw [EVA.out] at F2; rw [EVA.out, enz] at ST; have MBB := MB.out b hb; have MOV : Hid (∀ W, Ext w5 W → Calls Tryz.prog 151 #[.slice (some ⟨lb, lo2, none⟩) j c2, .slice (some ⟨gt, 0, none⟩) j j, .int .i64 (Hp.ow S1.words (a + 4 + k))] W fun e w' => e = .returned (.int .i64 (mv b : Int)) ∧ Ext W w') := Lib.hid (fun W hW => by
             obtain ⟨ix, hix, eix⟩ := List.getElem_of_mem hb; have hix' : S1.taken[ix]? = some b := by rw [List.getElem?_eq_getElem hix, eix]
             have hnd := Hp.up_nodup HW.out.up; have hcr := cellsI_at hix'; have := rMoving (SL.out.ext (BT.out.trans hW)) ((WT2.out.ext hW).slice (c := j) (by rw [List.length_map]; exact Nat.le_of_eq EM.out) (by omega)) (by rw [List.length_map, cellsI_len]) (k := ix) hcr (fun i hi e => cellsI_first hnd hix' i hi e) (Hp.map_rd hix'); rw [cellsI_len, List.length_map, EM.out] at this; rw [eb]; exact this)
            obtain ⟨vb, hvb⟩ : ∃ vb, mv b = vb := ⟨_, rfl⟩
            rw [hvb] at MOV ST MBB; clear hvb hb eb enz; go_upto_region 25 with (go_at_call 87; refine (ISN.out _ EZ.out).mono ?_; rintro e w10 ⟨rfl, hb10⟩; obtain ⟨hc10, hf10, hs10⟩ := hb10.cells)
            have NQ := Lib.hid (NZ.out.ext hb10); have EQ := Lib.hid (EZ.out.trans hb10); have EV3 := Lib.hid (show (V2.set (va + 4 + k) (Hp.ow S1.words (a + 4 + k))).length = n by simp; exact EV.out); have c2q := NQ.out.len EV3.out; rw [RWC.out] at c2q; have zq1 := NQ.out.toRW.lt; clear hb10 hc10 hf10 hs10 EZ NZ glz; refine wp_region_any (by kernel_rfl) ?_; have PR50 := Lib.hid (fun (ww : World) (hSw : Ext w10 ww) => And.intro ((hSw.cell zq1 2).trans c2q) (And.intro (((EQ.out.trans hSw).cell ztg q).trans gt5) (((EQ.out.trans hSw).cell zgb (r.go + (a + 4) + k)).trans gf5))); refine wpAny_to_X (S := fun W => Ext w10 W) (R := Ext) 18 18 Ext.refl ?_ ?_ (by rfl)
            · exact Ext.drew exx
            refine' tkY 0 rfl ?h0_92 ?_
            case h0_92 => (intro w q; obtain ⟨c2', gt', gf'⟩ := PR50.out w q; go_simp; try with_reducible rfl)
            refine layy ?_; refine' tkY 1 rfl ?h1_93 ?_
            case h1_93 => (intro w q; obtain ⟨c2', gt', gf'⟩ := PR50.out w q; go_simp; try with_reducible rfl)
            refine layy ?_; refine' tkY 2 rfl ?h2_94 ?_
            case h2_94 => (intro w q; obtain ⟨c2', gt', gf'⟩ := PR50.out w q; go_simp; try with_reducible rfl)
            refine layy ?_; refine' tkY 3 rfl ?h3_95 ?_
            case h3_95 => (intro w q; obtain ⟨c2', gt', gf'⟩ := PR50.out w q; go_simp; try with_reducible rfl)
            refine layy ?_; refine' tkY 4 rfl ?h4_96 ?_
            case h4_96 => (intro w q; obtain ⟨c2', gt', gf'⟩ := PR50.out w q; go_simp; try with_reducible rfl)
            refine layy ?_; refine' tkY 5 rfl ?h5_97 ?_
            case h5_97 => (intro w q; obtain ⟨c2', gt', gf'⟩ := PR50.out w q; go_simp; try with_reducible rfl)
            refine layy ?_; refine' tkY 6 rfl ?h6_98 ?_
            case h6_98 => (intro w q; obtain ⟨c2', gt', gf'⟩ := PR50.out w q; go_simp; try with_reducible rfl)
            refine layy ?_; refine' tkY 7 rfl ?h7_99 ?_
            case h7_99 => (intro w q; obtain ⟨c2', gt', gf'⟩ := PR50.out w q; go_simp; try with_reducible rfl)
            refine layy ?_; refine' tkY 8 rfl ?h8_100 ?_
            case h8_100 => (intro w q; obtain ⟨c2', gt', gf'⟩ := PR50.out w q; go_simp; try with_reducible rfl)
            refine layy ?_; refine' tkY 9 rfl ?h9_101 ?_
            case h9_101 => (intro w q; obtain ⟨c2', gt', gf'⟩ := PR50.out w q; go_simp; try with_reducible rfl)
            refine layy ?_; refine' tkY 10 rfl ?h10_102 ?_
            case h10_102 => (intro w q; obtain ⟨c2', gt', gf'⟩ := PR50.out w q; go_simp; try with_reducible rfl)
            refine layy ?_; refine' tkY 11 rfl ?h11_103 ?_
            case h11_103 => (intro w q; obtain ⟨c2', gt', gf'⟩ := PR50.out w q; go_simp; try with_reducible rfl)
            refine layy ?_; refine' tkY 12 rfl ?h12_104 ?_
            case h12_104 => (intro w q; obtain ⟨c2', gt', gf'⟩ := PR50.out w q; go_simp; try with_reducible rfl)
            refine layy ?_; refine' tkY 13 rfl ?h13_105 ?_
            case h13_105 => (intro w q; obtain ⟨c2', gt', gf'⟩ := PR50.out w q; go_simp; try with_reducible rfl)
            refine layy ?_; refine' tkY 14 rfl ?h14_106 ?_
            case h14_106 => (intro w q; obtain ⟨c2', gt', gf'⟩ := PR50.out w q; go_simp; try with_reducible rfl)
            refine layy ?_; refine' tkY 15 rfl ?h15_107 ?_
            case h15_107 => (intro w q; obtain ⟨c2', gt', gf'⟩ := PR50.out w q; go_simp; try with_reducible rfl)
            refine layy ?_; refine' tkY 16 rfl ?h16_108 ?_
            case h16_108 => (intro w q; obtain ⟨c2', gt', gf'⟩ := PR50.out w q; go_simp; try with_reducible rfl)
            refine layy ?_; refine' tkX 17 (v := .int .i64 (vb : Int)) rfl (Or.inr ⟨by rfl, 151, _, ?hx17_109, ?hy17_109⟩) ?rest17_109
            case hx17_109 => (intro w hSw; go_simp; try with_reducible rfl)
            case hy17_109 => exact fun w hE => (MOV.out _ (EQ.out.trans hE)).mono (fun _ _ h => ⟨h.1, h.2, Ext.trans hE h.2⟩)
            refine layy ?_; refine wpAnyX_done (by kernel_rfl) ?_; intro wv _ Ewv; simp only [List.drop_succ_cons, List.drop_zero]; have NW := Lib.hid (NQ.out.ext Ewv); have c2w := NW.out.len EV3.out; rw [RWC.out] at c2w; have g1 := NW.out.word (j := va + 4 + k) (x := _) (by rw [EV3.out]; exact vkn) rfl; have fr := NW.out.words.froz (va + 4 + k); have zw := NW.out.words.lt; have N11 := Lib.hid (NW.out.set (j := va + 4 + k) (v := (vb : Int)) (by show va + 4 + k < (V2.set (va + 4 + k) (Hp.ow S1.words (a + 4 + k))).length; rw [EV3.out]; exact vkn) (by omega) (by omega))
            go_wp2_with fail
            go_roundg (fl - (k + 1))
            case measure => omega
            case rel => exact ⟨k + 1, _, by omega, Nat.le_refl _, by go_num, Lib.hid ST.out.2, N11⟩
         · have : k = fl := by omega
           subst this; have tk2 : decide ((k : Int) < (k : Int)) = false := decide_eq_false (by omega); have FF : Hp.Filling S1 mv a V (Hp.wz S1.sizes (Hp.ow S1.words a) - 4) V2 := by rw [EFL.out]; exact FL.out
           have CU := FF.cut; obtain ⟨c, hc⟩ : ∃ c, Hp.cz (Hp.ow S1.words a) (Hp.nz (Hp.ow S1.words) S1.sizes mv a) = c := ⟨_, rfl⟩
           have c16 := Hp.cz_lt (Hp.ow S1.words a) (Hp.nz (Hp.ow S1.words) S1.sizes mv a); rw [hc] at c16; have FD := Lib.hid (Hp.Filling.done HW.out HG.out PK.out HAJ.out FF hc); have CHK : Hp.chain (Hp.ow S1.words a) (Hp.nz (Hp.ow S1.words) S1.sizes mv a) = some c := by
            have := HW2.out.chain_ (a := mv a) (by rw [HM.out.taken]; exact List.mem_map.2 ⟨a, HA.out, rfl⟩); rw [HM.out.tag a HA.out, HM.out.sizes, HM.out.fs a HA.out, hc] at this; exact this
           have V0W := FF.three.1; rw [EFL.out, EVA.out] at CU; rw [EVA.out] at FD V0W; rw [← CU] at CHK; have CHN : Hid (∀ W, Ext wr W → Calls Tryz.prog 137 #[.int .i64 (Hp.ow S1.words a), .slice (some ⟨rx.gb, va + 4, none⟩) k (n - (va + 4))] W fun e w' => e = .returned (.int .i64 (c : Int)) ∧ Ext W w') := Lib.hid (fun W hW => by
            have := rChain ((NK.out.ext hW).words.sub (c := n) (i := va + 4) (n := k) (by show _ ≤ V2.length; rw [EV.out]; omega) (by show V2.length ≤ n; rw [EV.out]; exact Nat.le_refl _) (by omega)) CHK; rw [Hp.cut_length] at this; exact this)
           have z1k := NK.out.toRW.lt; have z2k := NK.out.words.lt; have c2k := NK.out.len EV.out; rw [RWC.out] at c2k; have gvk := NK.out.word (j := va) (by rw [EV.out]; omega) V0W; have w4 : IntKind.i64.wrap ((va : Int) + 4) = (va : Int) + 4 := IntWalk.i64_in _ (by omega); have w4k : IntKind.i64.wrap ((va : Int) + 4 + (k : Int)) = (va : Int) + 4 + (k : Int) := IntWalk.i64_in _ (by omega); have s3 : (0 : Int) ≤ (va : Int) + 4 := by omega
           have s4 : (va : Int) + 4 ≤ (va : Int) + 4 + (k : Int) := by omega
           have s5 : (va : Int) + 4 + (k : Int) ≤ (n : Int) := by omega
           have s6 : ((va : Int) + 4).toNat = va + 4 := by omega
           have s7 : ((va : Int) + 4 + (k : Int)).toNat = va + 4 + k := by omega
           have s8 : va + 4 + k - (va + 4) = k := by omega
           have cne : ¬ n = va + 4 := by omega
           clear CHK CU FF FL hc
           go_wp2_with fail
           have PR51 := Lib.hid (fun (ww : World) (hSw : Ext wr ww) => And.intro ((hSw.cell z1k 2).trans c2k) (And.intro (((EK.out.trans hSw).cell ztg q).trans gt5) ((hSw.cell z2k va).trans gvk))); refine wp_region_seq (S := fun W => Ext wr W) (R := Ext) (by kernel_rfl) Ext.refl ?_ ?_
           · exact exx
           refine' tkL 0 rfl ?h0_110 ?_
           case h0_110 => (intro w q; obtain ⟨c2', gt', gv'⟩ := PR51.out w q; go_simp; try with_reducible rfl)
           refine layy ?_; refine' tkL 1 rfl ?h1_111 ?_
           case h1_111 => (intro w q; obtain ⟨c2', gt', gv'⟩ := PR51.out w q; go_simp; try with_reducible rfl)
           refine layy ?_; refine' tkL 2 rfl ?h2_112 ?_
           case h2_112 => (intro w q; obtain ⟨c2', gt', gv'⟩ := PR51.out w q; go_simp; try with_reducible rfl)
           refine layy ?_; refine' tkL 3 rfl ?h3_113 ?_
           case h3_113 => (intro w q; obtain ⟨c2', gt', gv'⟩ := PR51.out w q; go_simp; try with_reducible rfl)
           refine layy ?_; refine' tkL 4 rfl ?h4_114 ?_
           case h4_114 => (intro w q; obtain ⟨c2', gt', gv'⟩ := PR51.out w q; go_simp; try with_reducible rfl)
           refine layy ?_; refine' tkL 5 rfl ?h5_115 ?_
           case h5_115 => (intro w q; obtain ⟨c2', gt', gv'⟩ := PR51.out w q; go_simp; try with_reducible rfl)
           refine layy ?_; refine' tkL 6 rfl ?h6_116 ?_
           case h6_116 => (intro w q; obtain ⟨c2', gt', gv'⟩ := PR51.out w q; go_simp; try with_reducible rfl)
           refine layy ?_; refine' tkL 7 rfl ?h7_117 ?_
           case h7_117 => (intro w q; obtain ⟨c2', gt', gv'⟩ := PR51.out w q; go_simp; try with_reducible rfl)
           refine layy ?_; refine' tkL 8 rfl ?h8_118 ?_
           case h8_118 => (intro w q; obtain ⟨c2', gt', gv'⟩ := PR51.out w q; go_simp; try with_reducible rfl)
           refine layy ?_; refine' tkL 9 rfl ?h9_119 ?_
           case h9_119 => (intro w q; obtain ⟨c2', gt', gv'⟩ := PR51.out w q; go_simp; try with_reducible rfl)
           refine layy ?_; refine' tkL 10 rfl ?h10_120 ?_
           case h10_120 => (intro w q; obtain ⟨c2', gt', gv'⟩ := PR51.out w q; go_simp; try with_reducible rfl)
           refine layy ?_; refine' tkL 11 rfl ?h11_121 ?_
           case h11_121 => (intro w q; obtain ⟨c2', gt', gv'⟩ := PR51.out w q; go_simp; try with_reducible rfl)
           refine layy ?_; refine' tkL 12 rfl ?h12_122 ?_
           case h12_122 => (intro w q; obtain ⟨c2', gt', gv'⟩ := PR51.out w q; go_simp; try with_reducible rfl)
           refine layy ?_; refine' tkL 13 rfl ?h13_123 ?_
           case h13_123 => (intro w q; obtain ⟨c2', gt', gv'⟩ := PR51.out w q; go_simp; try with_reducible rfl)
           refine layy ?_; refine' tkL 14 rfl ?h14_124 ?_
           case h14_124 => (intro w q; obtain ⟨c2', gt', gv'⟩ := PR51.out w q; go_simp; try with_reducible rfl)
           refine layy ?_; refine' tkL 15 rfl ?h15_125 ?_
           case h15_125 => (intro w q; obtain ⟨c2', gt', gv'⟩ := PR51.out w q; go_simp; try with_reducible rfl)
           refine layy ?_; refine' tkL 16 rfl ?h16_126 ?_
           case h16_126 => (intro w q; obtain ⟨c2', gt', gv'⟩ := PR51.out w q; go_simp; try with_reducible rfl)
           refine layy ?_; refine' tkL 17 rfl ?h17_127 ?_
           case h17_127 => (intro w q; obtain ⟨c2', gt', gv'⟩ := PR51.out w q; go_simp; try with_reducible rfl)
           refine layy ?_; refine' tkL 18 rfl ?h18_128 ?_
           case h18_128 => (intro w q; obtain ⟨c2', gt', gv'⟩ := PR51.out w q; go_simp; try with_reducible rfl)
           refine layy ?_; refine' tkL 19 rfl ?h19_129 ?_
           case h19_129 => (intro w q; obtain ⟨c2', gt', gv'⟩ := PR51.out w q; go_simp; try with_reducible rfl)
           refine layy ?_; refine' tkL 20 rfl ?h20_130 ?_
           case h20_130 => (intro w q; obtain ⟨c2', gt', gv'⟩ := PR51.out w q; go_simp; try with_reducible rfl)
           refine layy ?_; refine' tkL 21 rfl ?h21_131 ?_
           case h21_131 => (intro w q; obtain ⟨c2', gt', gv'⟩ := PR51.out w q; go_simp; try with_reducible rfl)
           refine layy ?_; refine' tkL 22 rfl ?h22_132 ?_
           case h22_132 => (intro w q; obtain ⟨c2', gt', gv'⟩ := PR51.out w q; go_simp; try with_reducible rfl)
           refine layy ?_; refine' tkL 23 rfl ?h23_133 ?_
           case h23_133 => (intro w q; obtain ⟨c2', gt', gv'⟩ := PR51.out w q; go_simp; try with_reducible rfl)
           refine layy ?_; refine' tkL 24 rfl ?h24_134 ?_
           case h24_134 => (intro w q; obtain ⟨c2', gt', gv'⟩ := PR51.out w q; go_simp; try with_reducible rfl)
           refine layy ?_; refine' tkL 25 rfl ?h25_135 ?_
           case h25_135 => (intro w q; obtain ⟨c2', gt', gv'⟩ := PR51.out w q; go_simp; try with_reducible rfl)
           refine layy ?_; refine' tkL 26 rfl ?h26_136 ?_
           case h26_136 => (intro w q; obtain ⟨c2', gt', gv'⟩ := PR51.out w q; go_simp; try with_reducible rfl)
           refine layy ?_; refine' tkL 27 rfl ?h27_137 ?_
           case h27_137 => (intro w q; obtain ⟨c2', gt', gv'⟩ := PR51.out w q; go_simp; try with_reducible rfl)
           refine layy ?_; refine' tkR 28 (v := .int .i64 c) rfl (Or.inr ⟨by rfl, 137, _, ?hx28_138, ?hy28_138⟩) ?rest28_138
           case hx28_138 => (intro w hSw; go_simp; try with_reducible rfl)
           case hy28_138 => exact fun w hE => (CHN.out _ hE).mono (fun _ _ h => ⟨h.1, h.2, Ext.trans hE h.2⟩)
           refine layy ?_; refine' tkL 29 rfl ?h29_139 ?_
           case h29_139 => (intro w q; obtain ⟨c2', gt', gv'⟩ := PR51.out w q; go_simp; try with_reducible rfl)
           refine layy ?_; refine wpAnyR_done (by kernel_rfl) ?_ _; intro x1 _ Ex1; have N1 := Lib.hid (NK.out.ext Ex1); have E1 := Lib.hid (EK.out.trans Ex1); clear w4 w4k s3 s4 s5 s6 s7 s8 cne c2k gvk z1k z2k NK EK CHN; have v3n : va + 3 < n := by omega
           have cn : c < n := by omega
           obtain ⟨y1, y2, y3, y4⟩ : IntKind.i64.wrap (((va : Nat) : Int) + 3) = ((va : Nat) : Int) + 3 ∧ (0 : Int) ≤ ((va : Nat) : Int) + 3 ∧ ((va : Nat) : Int) + 3 < ((n : Nat) : Int) ∧ (((va : Nat) : Int) + 3).toNat = va + 3 := ⟨IntWalk.i64_in _ (by omega), by omega, by omega, by omega⟩
           go_wp2_with fail
           refine wp_region_still_tail 17 (by kernel_rfl) (by kernel_rfl) ?_; change wpStill _ _ (World.drew x1) (fun a' => wpList _ _ _ _ a' (World.drew x1)) _ _; have EDW : Ext x1 (World.drew x1) := Ext.drew (Ext.refl _); have NY := Lib.hid (N1.out.ext EDW); generalize World.drew x1 = wy at NY EDW ⊢; have f2 := NY.out.f2; have z1 := NY.out.toRW.lt; have z2 := NY.out.words.lt; have c2' := NY.out.len EV.out; rw [RWC.out] at c2'; have gt' := ((E1.out.trans EDW).cell ztg q).trans gt5; have gc := NY.out.word (j := c) (x := _) (by rw [EV.out]; exact cn) rfl; have g1 := NY.out.word (j := va + 3) (x := _) (by rw [EV.out]; exact v3n) rfl; have fr := NY.out.words.froz (va + 3); simp only [List.take_succ_cons, List.take_zero, List.drop_succ_cons, List.drop_zero]
           repeat still_step
           refine wpStill_nil ?_; have BC := NY.out.toRW.bound (j := c) (by show c < V2.length; rw [EV.out]; exact cn); have NS := Lib.hid (NY.out.set (j := va + 3) (v := Hp.ow V2 c) (by show va + 3 < V2.length; rw [EV.out]; exact v3n) BC.1 BC.2); go_upto_region 28 with fail
           refine cutW (F := fun W => Hid (RNow w8 W rx { S1 with words := V2.set (va + 3) (Hp.ow V2 c) })) NS ?_; rintro wz NZ; have EZ := Lib.hid (XT.out _ NZ.out.but); have EV3 := Lib.hid (show (V2.set (va + 3) (Hp.ow V2 c)).length = n by simp; exact EV.out); clear NS NY N1 E1 EDW y1 y2 y3 y4 BC gc g1 fr; refine wp_region_still_tail 10 (by kernel_rfl) (by kernel_rfl) ?_; change wpStill _ _ (World.drew wz) (fun a' => wpList _ _ _ _ a' (World.drew wz)) _ _; have EDW : Ext wz (World.drew wz) := Ext.drew (Ext.refl _); have NY := Lib.hid (NZ.out.ext EDW); generalize World.drew wz = wy at NY EDW ⊢; have f2 := NY.out.f2; have z1 := NY.out.toRW.lt; have z2 := NY.out.words.lt; have c2' := NY.out.len EV3.out; rw [RWC.out] at c2'; have gt' := ((EZ.out.trans EDW).cell ztg q).trans gt5; have g1 := NY.out.word (j := c) (x := _) (by rw [EV3.out]; exact cn) rfl; have fr := NY.out.words.froz c; simp only [List.take_succ_cons, List.take_zero, List.drop_succ_cons, List.drop_zero]
           repeat still_step
           refine wpStill_nil ?_; have N12 := Lib.hid (NY.out.set (j := c) (v := (va : Int)) (by show c < (V2.set (va + 3) (Hp.ow V2 c)).length; rw [EV3.out]; exact cn) (by omega) (by omega))
           go_wp2_with fail
           go_roundg (j - (q + 1))
           case measure => omega
           case rel => exact ⟨q + 1, _, by omega, Nat.le_refl _, by go_num, Lib.hid FD.out.2.2.2, N12⟩
      · have : q = j := by omega
        subst this; have tk2 : decide ((q : Int) < (q : Int)) = false := decide_eq_false (by omega); have NEAR := Lib.hid (Hp.Packing.near HW.out HG.out HM.out HW2.out HCH.out HU.out HL2.out (V := V) (by rw [EM.out]; exact PK.out)); rw [ENX.out, EN.out] at NEAR
        have REST := Lib.hid (show ∀ (wz : World) (V' : List Int), RNow w8 wz rx { S1 with words := V' } → V'.length = n → Hp.Near L2 V' S2.words →
            (World.cell? wz ⟨r.rb, 2, none⟩ = some (.slice (some ⟨r.gb, 0, none⟩) n r.wc) ∧ World.frozen? wz ⟨r.rb, 2, none⟩ = false ∧ r.rb < wz.heap.size) ∧
            Calls Tryz.prog 152 #[.pointer (some ⟨r.rb, 0, none⟩)] (wz.setCell ⟨r.rb, 2, none⟩ (.slice (some ⟨rx.gb, 0, none⟩) n n)) (fun e w' => e = .returned (.tuple #[]) ∧ RCPost w r S1 S2 M (.returned (.slice p3 PJ.length c3)) w') from fun wz V' NZ hV near => by
          have EZ := XT.out _ NZ.but; have N3Z := N3.out.ext (BT.out.trans EZ); have hs3 : w3.heap.size ≤ rx.gb := Nat.le_trans BT.out.le GX5; have HH := RW.hand (S2 := S2) N3.out.toRW (BT.out.trans EZ) NZ.toRW hs3 hV hhi HM.out.sizes HM.out.order; refine ⟨⟨by have := N3Z.len (V := S1.words) (n := n) EN.out; exact this, N3Z.f2, N3Z.lt⟩, ?_⟩; refine (rLink HH HW2.out near).mono ?_; rintro e w' ⟨rfl, hN⟩; have hl2 : S2.words.length = n := by rw [HM.out.len]; exact EN.out
          have RZ := R.out.ext EZ; have KB : But [r.rb] wz (wz.setCell ⟨r.rb, 2, none⟩ (.slice (some ⟨rx.gb, 0, none⟩) n n)) := (But.refl _ _).setCell (by simp) _; have rbs : r.rb < w.heap.size := own.out r.rb r.rb_own; have hb4 : w3.heap.size ≤ w4.heap.size := E4.out.le; have RK := RZ.but_ KB (fun b o e => by
           have := RZ.far e; simp; omega)
          refine ⟨rfl, mv, p3, c3, w4.heap.size, rx.gb, by rw [EPJ2.out], by omega, ?_, by omega, ?_, ?_, HM.out⟩
          · rw [← EPJ2.out]; refine RK.but_ hN.but (fun b o e hm => ?_); have h1 := R.out.lt e; have h2 := RZ.far e; simp only [Rd.own, List.mem_cons, List.not_mem_nil, or_false] at hm
            rcases hm with hm | hm <;> omega
          · rw [hl2]; exact hN.toRW
          · refine (N3Z.but.widen KB (fun x hx => ?_)).widen hN.but (fun x hx => ?_)
            · have : x = r.rb := by simpa using hx
              subst this; exact .inl r.rb_own
            · simp only [Rd.own, List.mem_cons, List.not_mem_nil, or_false] at hx
              rcases hx with rfl | rfl
              · exact .inl r.rb_own
              · exact .inr (by omega))
        clear R HM HG HCH HU HL2 PLC MB WS SL OL3 GO
        by_cases hfree : nx < n
        · have t3 : decide ((nx : Int) < (n : Int)) = true := decide_eq_true (by omega); obtain ⟨hx1, hnear⟩ := NEAR.out.1 hfree; have x1n : nx + 1 < n := by
           rw [EV.out] at hx1; exact hx1
          have HN := Lib.hid hnear; have wsub : IntKind.i64.wrap ((n : Int) - (nx : Int)) = (n : Int) - (nx : Int) := IntWalk.i64_in _ (by omega); obtain ⟨y1, y2, y3, y4⟩ : IntKind.i64.wrap (((nx : Nat) : Int) + 1) = ((nx : Nat) : Int) + 1 ∧ (0 : Int) ≤ ((nx : Nat) : Int) + 1 ∧ ((nx : Nat) : Int) + 1 < ((n : Nat) : Int) ∧ (((nx : Nat) : Int) + 1).toNat = nx + 1 := ⟨IntWalk.i64_in _ (by omega), by omega, by omega, by omega⟩
          clear hx1 hnear NEAR
          go_wp2_with fail
          trace_state
          refine wp_region_still_tail 14 (by kernel_rfl) (by kernel_rfl) ?_; change wpStill _ _ (World.drew wr) (fun a' => wpList _ _ _ _ a' (World.drew wr)) _ _; have EDW : Ext wr (World.drew wr) := Ext.drew (Ext.refl _); have NY := Lib.hid (NV.out.ext EDW); generalize World.drew wr = wy at NY EDW ⊢; have f2 := NY.out.f2; have z1 := NY.out.toRW.lt; have z2 := NY.out.words.lt; have c2' := NY.out.len EV.out; rw [RWC.out] at c2'; have g1 := NY.out.word (j := nx + 1) (x := _) (by rw [EV.out]; exact x1n) rfl; have fr := NY.out.words.froz (nx + 1); simp only [List.take_succ_cons, List.take_zero, List.drop_succ_cons, List.drop_zero]
          repeat still_step
          refine wpStill_nil ?_; have NS := Lib.hid (NY.out.set (j := nx + 1) (v := (n : Int) - (nx : Int)) (by show nx + 1 < V.length; rw [EV.out]; exact x1n) (by omega) (by omega)); go_upto_region 31 with fail
          refine cutW (F := fun W => Hid (RNow w8 W rx { S1 with words := V.set (nx + 1) ((n : Int) - (nx : Int)) })) NS ?_; rintro wz NZ; clear NS NY EDW y1 y2 y3 y4 wsub; obtain ⟨⟨cz2, cf2, cz1⟩, LKC⟩ := REST.out wz _ NZ.out (by simp; exact EV.out) HN.out; have LK := Lib.hid LKC; have c2z := NZ.out.len (n := n) (by simp; exact EV.out); rw [RWC.out] at c2z; clear LKC
          go_wp2_with (go_at_call 152; refine LK.out.mono ?_; rintro e w9 ⟨rfl, hpost⟩)
          go_returns; exact hpost
        · have t3 : decide ((nx : Int) < (n : Int)) = false := decide_eq_false (by omega); have HN := Lib.hid (NEAR.out.2 hfree); obtain ⟨⟨cz2, cf2, cz1⟩, LKC⟩ := REST.out wr _ NV.out EV.out HN.out; have LK := Lib.hid LKC; clear LKC NEAR
          go_wp2_with (go_at_call 152; refine LK.out.mono ?_; rintro e w9 ⟨rfl, hpost⟩)
          go_returns; exact hpost
end Go.Proofs.YtdokmmhjmclmnaaGreat
