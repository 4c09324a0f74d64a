/-
  Part 24 of a proof: RH5 LH2 LH3 LH4 LH5 LH6.
-/
import Derived.Test.YtdokmmhjmclmnaaGreatMP16
import Derived.Test.YtdokmmhjmclmnaaGreatMP19
import Derived.Test.YtdokmmhjmclmnaaGreatMP21
import Derived.Test.YtdokmmhjmclmnaaGreatMP23
set_option linter.unusedSimpArgs false
set_option linter.unusedVariables false
set_option linter.unusedSectionVars false
set_option linter.unnecessarySimpa false
namespace Go.Proofs.YtdokmmhjmclmnaaGreat
open Go.RowKit Go.Maps
theorem cellsI_rd {S : Hp.Hs} {j : Nat} (hj : j < S.taken.length) : ∃ a ∈ S.taken, S.taken[j]? = some a ∧ Hp.rd (cellsI S) j = some (a : Int) := by
 refine ⟨S.taken[j], List.getElem_mem hj, List.getElem?_eq_getElem hj, ?_⟩
 simp [Hp.rd, cellsI, hj]
theorem cellsI_len (S : Hp.Hs) : (cellsI S).length = S.taken.length := by simp [cellsI]
set_option maxRecDepth 100000 in
set_option maxHeartbeats 4000000 in
theorem rSame {w : World} {r : Rd} {S : Hp.Hs} {B : Nat} {L : List Hp.Tl} {ch : Nat → List Nat} (h : RAt w r S) (hw : Hp.Wf S B L ch) {a : Nat} (ha : a ∈ S.taken) {q : Option Addr} {qc : Nat} (hq : SliceAt w q qc (Hp.fz (Hp.ow S.words) S.sizes a)) :
    Calls Tryz.prog 133 #[.pointer (some ⟨r.rb, 0, none⟩), .int .i64 (Hp.ow S.words a), .slice q (Hp.fz (Hp.ow S.words) S.sizes a).length qc] w fun e w' => e = .returned (.int .i64 (a : Int)) ∧ Ext w w' := by
  have CELLS := Lib.hid (rCells_ h hw); have FLD := Lib.hid (fun b (hb : b ∈ S.taken) W (hW : Ext w W) => rField (h.ext hW) hw hb); have FAT := Lib.hid (fun b (hb : b ∈ S.taken) W (hW : Ext w W) => fieldAt (h.ext hW) hw hb); have HQ := Lib.hid hq; have H := Lib.hid h; have HW := Lib.hid hw; have few := hw.few; have hhi := hw.hi; have hle := h.words.le; have hcap := h.words.cap; have hlt := h.lt; have qcap := hq.cap; obtain ⟨gbb, o', hp', hbb, _⟩ := h.words.cells (by have := hw.lo; omega)
  cases hp'
  obtain ⟨fs, hfs⟩ : ∃ fs, Hp.fz (Hp.ow S.words) S.sizes a = fs := ⟨_, rfl⟩
  have HFS := Lib.hid hfs; obtain ⟨t, ht⟩ : ∃ t, Hp.ow S.words a = t := ⟨_, rfl⟩
  have HT := Lib.hid ht; have c2 := h.c2; obtain ⟨n, hn⟩ : ∃ n, S.words.length = n := ⟨_, rfl⟩
  have EN := Lib.hid hn; rw [hfs, ht]; rw [hn] at c2 hle few hhi; have HA := Lib.hid ha; have qle := hq.le; rw [hfs] at qle; clear h hw hq hfs ht hn ha; obtain ⟨m, hm⟩ : ∃ m, S.taken.length = m := ⟨_, rfl⟩
  have EM := Lib.hid hm; rw [hm] at few; clear hm; go_enter Tryz.func133, Tryz.ntmps133
  go_wp2_with (go_at_call 82; refine CELLS.out.mono ?_; rintro e w1 ⟨p, c, rfl, hR, hE⟩; rw [cellsI_len, EM.out]; have RR := Lib.hid hR.at_; have E1 := Lib.hid hE)
  clear hR hE CELLS; have lle := RR.out.le; have lcap := RR.out.cap; rw [cellsI_len, EM.out] at lle
  go_loopg [8] m (fun g i wr => ∃ j : Nat, j ≤ m ∧ m - j ≤ g ∧ i = .int .i64 j ∧ Hid (Ext w1 wr) ∧ Hid (∀ i, i < j → S.taken[i]? ≠ some a))
  case atStart => exact ⟨0, Nat.zero_le _, by omega, rfl, Lib.hid (Ext.refl _), Lib.hid (fun i hi => absurd hi (Nat.not_lt_zero _))⟩
  case round =>
   obtain ⟨j, hj, hg, rfl, E, A⟩ := hrel
   by_cases hlt2 : j < m
   · obtain ⟨b, hb, hbj, hrd⟩ := cellsI_rd (S := S) (j := j) (by rw [EM.out]; exact hlt2); obtain ⟨lb, lo, hlp, hlbb, hlc⟩ := (RR.out.ext E.out).cells (by rw [cellsI_len, EM.out]; omega); have gl := hlc j _ hrd; have Ew := E1.out.trans E.out; have c2w := (Ew.cell hlt 2).trans c2; have gw := (H.out.ext Ew).get (j := b) (by have := HW.out.part hb; omega); have pb := HW.out.part hb; rw [EN.out] at pb; have zb : r.rb < wr.heap.size := Nat.lt_of_lt_of_le hlt Ew.le; have zg : r.gb < wr.heap.size := Nat.lt_of_lt_of_le hbb Ew.le; have b1 : b < n := by omega
     have EW := Lib.hid Ew; have HB := Lib.hid hb; have HBJ := Lib.hid hbj; have FLB := Lib.hid (fun W (hW : Ext w W) => FLD.out b hb W hW); have FAB := Lib.hid (fun W (hW : Ext w W) => FAT.out b hb W hW); obtain ⟨fl, hfl⟩ : ∃ fl, (Hp.fz (Hp.ow S.words) S.sizes b).length = fl := ⟨_, rfl⟩
     have EFL := Lib.hid hfl; have tk : decide ((j : Int) < (m : Int)) = true := decide_eq_true (by omega); clear hrd hlc hbj hb pb hfl; subst hlp
     by_cases hba : b = a
     · subst hba; rw [HT.out] at gw; have t0 : (t == t) = true := by simp
       have FLB2 : Hid (∀ W, Ext w W → Calls Tryz.prog 88 #[.pointer (some ⟨r.rb, 0, none⟩), .int .i64 b] W fun e w' => e = .returned (.slice (some ⟨r.gb, r.go + (b + 4), none⟩) fs.length (r.wc - (b + 4))) ∧ Ext W w') := Lib.hid (fun W hW => by rw [← HFS.out]; exact FLB.out W hW); have SM : Hid (∀ W, Ext w W → Calls Tryz.prog 24 #[.slice (some ⟨r.gb, r.go + (b + 4), none⟩) fs.length (r.wc - (b + 4)), .slice q fs.length qc] W fun e w' => e = .returned (.bool true) ∧ Ext W w') := Lib.hid (fun W hW => by
        have := dSame_is (b := true) (decide_eq_true rfl) (FAB.out W hW) (HQ.out.ext hW); rw [HFS.out] at this; exact this)
       go_wp2_with fail
       have PR24 := Lib.hid (fun (ww : World) (hSw : Ext wr ww) => And.intro ((hSw.cell zb 2).trans c2w) (And.intro ((hSw.cell hlbb (lo + j)).trans gl) ((hSw.cell zg (r.go + b)).trans gw))); refine wp_region_seq (S := fun W => Ext wr W) (R := Ext) (by kernel_rfl) Ext.refl ?_ ?_
       · exact exx
       refine' tkL 0 rfl ?h0_1 ?_
       case h0_1 => (intro w q; obtain ⟨c2', gl', gw'⟩ := PR24.out w q; go_simp; try with_reducible rfl)
       refine layy ?_; refine' tkL 1 rfl ?h1_2 ?_
       case h1_2 => (intro w q; obtain ⟨c2', gl', gw'⟩ := PR24.out w q; go_simp; try with_reducible rfl)
       refine layy ?_; refine' tkL 2 rfl ?h2_3 ?_
       case h2_3 => (intro w q; obtain ⟨c2', gl', gw'⟩ := PR24.out w q; go_simp; try with_reducible rfl)
       refine layy ?_; refine' tkL 3 rfl ?h3_4 ?_
       case h3_4 => (intro w q; obtain ⟨c2', gl', gw'⟩ := PR24.out w q; go_simp; try with_reducible rfl)
       refine layy ?_; refine' tkL 4 rfl ?h4_5 ?_
       case h4_5 => (intro w q; obtain ⟨c2', gl', gw'⟩ := PR24.out w q; go_simp; try with_reducible rfl)
       refine layy ?_; refine' tkL 5 rfl ?h5_6 ?_
       case h5_6 => (intro w q; obtain ⟨c2', gl', gw'⟩ := PR24.out w q; go_simp; try with_reducible rfl)
       refine layy ?_; refine' tkL 6 rfl ?h6_7 ?_
       case h6_7 => (intro w q; obtain ⟨c2', gl', gw'⟩ := PR24.out w q; go_simp; try with_reducible rfl)
       refine layy ?_; refine' tkL 7 rfl ?h7_8 ?_
       case h7_8 => (intro w q; obtain ⟨c2', gl', gw'⟩ := PR24.out w q; go_simp; try with_reducible rfl)
       refine layy ?_; refine' tkL 8 rfl ?h8_9 ?_
       case h8_9 => (intro w q; obtain ⟨c2', gl', gw'⟩ := PR24.out w q; go_simp; try with_reducible rfl)
       refine layy ?_; refine' tkL 9 rfl ?h9_10 ?_
       case h9_10 => (intro w q; obtain ⟨c2', gl', gw'⟩ := PR24.out w q; go_simp; try with_reducible rfl)
       refine layy ?_; refine' tkL 10 rfl ?h10_11 ?_
       case h10_11 => (intro w q; obtain ⟨c2', gl', gw'⟩ := PR24.out w q; go_simp; try with_reducible rfl)
       refine layy ?_; refine' tkL 11 rfl ?h11_12 ?_
       case h11_12 => (intro w q; obtain ⟨c2', gl', gw'⟩ := PR24.out w q; go_simp; try with_reducible rfl)
       refine layy ?_; refine' tkL 12 rfl ?h12_13 ?_
       case h12_13 => (intro w q; obtain ⟨c2', gl', gw'⟩ := PR24.out w q; go_simp; try with_reducible rfl)
       refine layy ?_; refine' tkL 13 rfl ?h13_14 ?_
       case h13_14 => (intro w q; obtain ⟨c2', gl', gw'⟩ := PR24.out w q; go_simp; try with_reducible rfl)
       refine layy ?_; refine' tkL 14 rfl ?h14_15 ?_
       case h14_15 => (intro w q; obtain ⟨c2', gl', gw'⟩ := PR24.out w q; go_simp; try with_reducible rfl)
       refine layy ?_; refine' tkL 15 rfl ?h15_16 ?_
       case h15_16 => (intro w q; obtain ⟨c2', gl', gw'⟩ := PR24.out w q; go_simp; try with_reducible rfl)
       refine layy ?_; refine' tkL 16 rfl ?h16_17 ?_
       case h16_17 => (intro w q; obtain ⟨c2', gl', gw'⟩ := PR24.out w q; go_simp; try with_reducible rfl)
       refine layy ?_; refine' tkL 17 rfl ?h17_18 ?_
       case h17_18 => (intro w q; obtain ⟨c2', gl', gw'⟩ := PR24.out w q; go_simp; try with_reducible rfl)
       refine layy ?_; refine' tkR 18 (v := .slice (some ⟨r.gb, r.go + (b + 4), none⟩) fs.length (r.wc - (b + 4))) rfl (Or.inr ⟨by rfl, 88, _, ?hx18_19, ?hy18_19⟩) ?rest18_19
       case hx18_19 => (intro w hSw; go_simp; try with_reducible rfl)
       case hy18_19 => exact fun w hE => (FLB2.out _ (EW.out.trans hE)).mono (fun _ _ h => ⟨h.1, h.2, Ext.trans hE h.2⟩)
       refine layy ?_; refine' tkL 19 rfl ?h19_20 ?_
       case h19_20 => (intro w q; obtain ⟨c2', gl', gw'⟩ := PR24.out w q; go_simp; try with_reducible rfl)
       refine layy ?_; refine' tkR 20 (v := .bool true) rfl (Or.inr ⟨by rfl, 24, _, ?hx20_21, ?hy20_21⟩) ?rest20_21
       case hx20_21 => (intro w hSw; go_simp; try with_reducible rfl)
       case hy20_21 => exact fun w hE => (SM.out _ (EW.out.trans hE)).mono (fun _ _ h => ⟨h.1, h.2, Ext.trans hE h.2⟩)
       refine layy ?_; refine' tkL 21 rfl ?h21_22 ?_
       case h21_22 => (intro w q; obtain ⟨c2', gl', gw'⟩ := PR24.out w q; go_simp; try with_reducible rfl)
       refine layy ?_; refine wpAnyR_done (by kernel_rfl) ?_ _; intro x1 _ Ex1; have gl2 := (Ex1.cell hlbb (lo + j)).trans gl
       go_wp2_with fail
       go_returns; exact ⟨rfl, EW.out.trans Ex1⟩
     · have A2 : Hid (∀ i, i < j + 1 → S.taken[i]? ≠ some a) := Lib.hid (fun i hi => by
         by_cases e : i = j
         · subst e; rw [HBJ.out]
           simpa using hba
         · exact A.out i (by omega))
       by_cases hbt : Hp.ow S.words b = t
       · rw [hbt] at gw; have t0 : (t == t) = true := by simp
         have FLB2 : Hid (∀ W, Ext w W → Calls Tryz.prog 88 #[.pointer (some ⟨r.rb, 0, none⟩), .int .i64 b] W fun e w' => e = .returned (.slice (some ⟨r.gb, r.go + (b + 4), none⟩) fl (r.wc - (b + 4))) ∧ Ext W w') := Lib.hid (fun W hW => by rw [← EFL.out]; exact FLB.out W hW); have SM : Hid (∀ W, Ext w W → Calls Tryz.prog 24 #[.slice (some ⟨r.gb, r.go + (b + 4), none⟩) fl (r.wc - (b + 4)), .slice q fs.length qc] W fun e w' => e = .returned (.bool false) ∧ Ext W w') := Lib.hid (fun W hW => by
          have := dSame_is (b := false) (decide_eq_false (fun e => hba (HW.out.cells.one b HB.out a HA.out (hbt.trans HT.out.symm) e))) (FAB.out W hW) (HQ.out.ext hW); rw [HFS.out, EFL.out] at this; exact this)
         clear hbt hba
         go_wp2_with fail
         have PR25 := Lib.hid (fun (ww : World) (hSw : Ext wr ww) => And.intro ((hSw.cell zb 2).trans c2w) (And.intro ((hSw.cell hlbb (lo + j)).trans gl) ((hSw.cell zg (r.go + b)).trans gw))); refine wp_region_seq (S := fun W => Ext wr W) (R := Ext) (by kernel_rfl) Ext.refl ?_ ?_
         · exact exx
         refine' tkL 0 rfl ?h0_23 ?_
         case h0_23 => (intro w q; obtain ⟨c2', gl', gw'⟩ := PR25.out w q; go_simp; try with_reducible rfl)
         refine layy ?_; refine' tkL 1 rfl ?h1_24 ?_
         case h1_24 => (intro w q; obtain ⟨c2', gl', gw'⟩ := PR25.out w q; go_simp; try with_reducible rfl)
         refine layy ?_; refine' tkL 2 rfl ?h2_25 ?_
         case h2_25 => (intro w q; obtain ⟨c2', gl', gw'⟩ := PR25.out w q; go_simp; try with_reducible rfl)
         refine layy ?_; refine' tkL 3 rfl ?h3_26 ?_
         case h3_26 => (intro w q; obtain ⟨c2', gl', gw'⟩ := PR25.out w q; go_simp; try with_reducible rfl)
         refine layy ?_; refine' tkL 4 rfl ?h4_27 ?_
         case h4_27 => (intro w q; obtain ⟨c2', gl', gw'⟩ := PR25.out w q; go_simp; try with_reducible rfl)
         refine layy ?_; refine' tkL 5 rfl ?h5_28 ?_
         case h5_28 => (intro w q; obtain ⟨c2', gl', gw'⟩ := PR25.out w q; go_simp; try with_reducible rfl)
         refine layy ?_; refine' tkL 6 rfl ?h6_29 ?_
         case h6_29 => (intro w q; obtain ⟨c2', gl', gw'⟩ := PR25.out w q; go_simp; try with_reducible rfl)
         refine layy ?_; refine' tkL 7 rfl ?h7_30 ?_
         case h7_30 => (intro w q; obtain ⟨c2', gl', gw'⟩ := PR25.out w q; go_simp; try with_reducible rfl)
         refine layy ?_; refine' tkL 8 rfl ?h8_31 ?_
         case h8_31 => (intro w q; obtain ⟨c2', gl', gw'⟩ := PR25.out w q; go_simp; try with_reducible rfl)
         refine layy ?_; refine' tkL 9 rfl ?h9_32 ?_
         case h9_32 => (intro w q; obtain ⟨c2', gl', gw'⟩ := PR25.out w q; go_simp; try with_reducible rfl)
         refine layy ?_; refine' tkL 10 rfl ?h10_33 ?_
         case h10_33 => (intro w q; obtain ⟨c2', gl', gw'⟩ := PR25.out w q; go_simp; try with_reducible rfl)
         refine layy ?_; refine' tkL 11 rfl ?h11_34 ?_
         case h11_34 => (intro w q; obtain ⟨c2', gl', gw'⟩ := PR25.out w q; go_simp; try with_reducible rfl)
         refine layy ?_; refine' tkL 12 rfl ?h12_35 ?_
         case h12_35 => (intro w q; obtain ⟨c2', gl', gw'⟩ := PR25.out w q; go_simp; try with_reducible rfl)
         refine layy ?_; refine' tkL 13 rfl ?h13_36 ?_
         case h13_36 => (intro w q; obtain ⟨c2', gl', gw'⟩ := PR25.out w q; go_simp; try with_reducible rfl)
         refine layy ?_; refine' tkL 14 rfl ?h14_37 ?_
         case h14_37 => (intro w q; obtain ⟨c2', gl', gw'⟩ := PR25.out w q; go_simp; try with_reducible rfl)
         refine layy ?_; refine' tkL 15 rfl ?h15_38 ?_
         case h15_38 => (intro w q; obtain ⟨c2', gl', gw'⟩ := PR25.out w q; go_simp; try with_reducible rfl)
         refine layy ?_; refine' tkL 16 rfl ?h16_39 ?_
         case h16_39 => (intro w q; obtain ⟨c2', gl', gw'⟩ := PR25.out w q; go_simp; try with_reducible rfl)
         refine layy ?_; refine' tkL 17 rfl ?h17_40 ?_
         case h17_40 => (intro w q; obtain ⟨c2', gl', gw'⟩ := PR25.out w q; go_simp; try with_reducible rfl)
         refine layy ?_; refine' tkR 18 (v := .slice (some ⟨r.gb, r.go + (b + 4), none⟩) fl (r.wc - (b + 4))) rfl (Or.inr ⟨by rfl, 88, _, ?hx18_41, ?hy18_41⟩) ?rest18_41
         case hx18_41 => (intro w hSw; go_simp; try with_reducible rfl)
         case hy18_41 => exact fun w hE => (FLB2.out _ (EW.out.trans hE)).mono (fun _ _ h => ⟨h.1, h.2, Ext.trans hE h.2⟩)
         refine layy ?_; refine' tkL 19 rfl ?h19_42 ?_
         case h19_42 => (intro w q; obtain ⟨c2', gl', gw'⟩ := PR25.out w q; go_simp; try with_reducible rfl)
         refine layy ?_; refine' tkR 20 (v := .bool false) rfl (Or.inr ⟨by rfl, 24, _, ?hx20_43, ?hy20_43⟩) ?rest20_43
         case hx20_43 => (intro w hSw; go_simp; try with_reducible rfl)
         case hy20_43 => exact fun w hE => (SM.out _ (EW.out.trans hE)).mono (fun _ _ h => ⟨h.1, h.2, Ext.trans hE h.2⟩)
         refine layy ?_; refine' tkL 21 rfl ?h21_44 ?_
         case h21_44 => (intro w q; obtain ⟨c2', gl', gw'⟩ := PR25.out w q; go_simp; try with_reducible rfl)
         refine layy ?_; refine wpAnyR_done (by kernel_rfl) ?_ _; intro x1 _ Ex1; have E2 := Lib.hid (E.out.trans Ex1)
         go_wp2_with fail
         go_roundg (m - (j + 1))
         case measure => omega
         case rel => exact ⟨j + 1, by omega, Nat.le_refl _, by go_num, E2, A2⟩
       · have t0 : (Hp.ow S.words b == t) = false := by simpa using hbt
         clear hbt hba; generalize Hp.ow S.words b = y at *
         go_wp2_with fail
         have PR26 := Lib.hid (fun (ww : World) (hSw : Ext wr ww) => And.intro ((hSw.cell zb 2).trans c2w) (And.intro ((hSw.cell hlbb (lo + j)).trans gl) ((hSw.cell zg (r.go + b)).trans gw))); refine wp_region_seq (S := fun W => Ext wr W) (R := Ext) (by kernel_rfl) Ext.refl ?_ ?_
         · exact exx
         refine' tkL 0 rfl ?h0_45 ?_
         case h0_45 => (intro w q; obtain ⟨c2', gl', gw'⟩ := PR26.out w q; go_simp; try with_reducible rfl)
         refine layy ?_; refine' tkL 1 rfl ?h1_46 ?_
         case h1_46 => (intro w q; obtain ⟨c2', gl', gw'⟩ := PR26.out w q; go_simp; try with_reducible rfl)
         refine layy ?_; refine' tkL 2 rfl ?h2_47 ?_
         case h2_47 => (intro w q; obtain ⟨c2', gl', gw'⟩ := PR26.out w q; go_simp; try with_reducible rfl)
         refine layy ?_; refine' tkL 3 rfl ?h3_48 ?_
         case h3_48 => (intro w q; obtain ⟨c2', gl', gw'⟩ := PR26.out w q; go_simp; try with_reducible rfl)
         refine layy ?_; refine' tkL 4 rfl ?h4_49 ?_
         case h4_49 => (intro w q; obtain ⟨c2', gl', gw'⟩ := PR26.out w q; go_simp; try with_reducible rfl)
         refine layy ?_; refine' tkL 5 rfl ?h5_50 ?_
         case h5_50 => (intro w q; obtain ⟨c2', gl', gw'⟩ := PR26.out w q; go_simp; try with_reducible rfl)
         refine layy ?_; refine' tkL 6 rfl ?h6_51 ?_
         case h6_51 => (intro w q; obtain ⟨c2', gl', gw'⟩ := PR26.out w q; go_simp; try with_reducible rfl)
         refine layy ?_; refine' tkL 7 rfl ?h7_52 ?_
         case h7_52 => (intro w q; obtain ⟨c2', gl', gw'⟩ := PR26.out w q; go_simp; try with_reducible rfl)
         refine layy ?_; refine' tkL 8 rfl ?h8_53 ?_
         case h8_53 => (intro w q; obtain ⟨c2', gl', gw'⟩ := PR26.out w q; go_simp; try with_reducible rfl)
         refine layy ?_; refine' tkL 9 rfl ?h9_54 ?_
         case h9_54 => (intro w q; obtain ⟨c2', gl', gw'⟩ := PR26.out w q; go_simp; try with_reducible rfl)
         refine layy ?_; refine' tkL 10 rfl ?h10_55 ?_
         case h10_55 => (intro w q; obtain ⟨c2', gl', gw'⟩ := PR26.out w q; go_simp; try with_reducible rfl)
         refine layy ?_; refine' tkL 11 rfl ?h11_56 ?_
         case h11_56 => (intro w q; obtain ⟨c2', gl', gw'⟩ := PR26.out w q; go_simp; try with_reducible rfl)
         refine layy ?_; refine' tkL 12 rfl ?h12_57 ?_
         case h12_57 => (intro w q; obtain ⟨c2', gl', gw'⟩ := PR26.out w q; go_simp; try with_reducible rfl)
         refine layy ?_; refine' tkR 13 (v := undef) rfl (Or.inl (Or.inr ⟨by rfl, rfl⟩)) ?rest13_58; refine layy ?_; refine' tkR 14 (v := undef) rfl (Or.inl (Or.inr ⟨by rfl, rfl⟩)) ?rest14_59; refine layy ?_; refine' tkR 15 (v := undef) rfl (Or.inl (Or.inr ⟨by rfl, rfl⟩)) ?rest15_60; refine layy ?_; refine' tkR 16 (v := undef) rfl (Or.inl (Or.inr ⟨by rfl, rfl⟩)) ?rest16_61; refine layy ?_; refine' tkR 17 (v := undef) rfl (Or.inl (Or.inr ⟨by rfl, rfl⟩)) ?rest17_62; refine layy ?_; refine' tkR 18 (v := undef) rfl (Or.inl (Or.inr ⟨by rfl, rfl⟩)) ?rest18_63; refine layy ?_; refine' tkR 19 (v := undef) rfl (Or.inl (Or.inr ⟨by rfl, rfl⟩)) ?rest19_64; refine layy ?_; refine' tkR 20 (v := undef) rfl (Or.inl (Or.inr ⟨by rfl, rfl⟩)) ?rest20_65; refine layy ?_; refine' tkL 21 rfl ?h21_66 ?_
         case h21_66 => (intro w q; obtain ⟨c2', gl', gw'⟩ := PR26.out w q; go_simp; try with_reducible rfl)
         refine layy ?_; refine wpAnyR_done (by kernel_rfl) ?_ _; intro x1 _ Ex1; have E2 := Lib.hid (E.out.trans Ex1)
         go_wp2_with fail
         go_roundg (m - (j + 1))
         case measure => omega
         case rel => exact ⟨j + 1, by omega, Nat.le_refl _, by go_num, E2, A2⟩
   · exfalso; have : j = m := by omega
     subst this; obtain ⟨i, hi, e⟩ := List.getElem_of_mem HA.out; exact A.out i (by rw [← EM.out]; exact hi) (by rw [List.getElem?_eq_getElem hi, e])
set_option maxHeartbeats 4000000 in
theorem dProduct {w : World} {p : Option Addr} {c : Nat} {l : List Int} (h : SliceAt w p c l) (hb : ∀ s ∈ l, 1 ≤ s ∧ s ≤ 12) :
    Calls Tryz.prog 119 #[.slice p l.length c, .int .i64 0] w fun e w' => e = .returned (.int .i64 (Hp.prodM l)) ∧ Ext w w' := by
  have hle := h.le; have hcap := h.cap; have H := Lib.hid h; have HB := Lib.hid hb; clear h hb; obtain ⟨n, hL⟩ : ∃ n, l.length = n := ⟨_, rfl⟩
  have HL := Lib.hid hL; rw [hL] at hle ⊢; clear hL; go_enter Tryz.func119, Tryz.ntmps119
  go_wp2_with fail
  go_loopg [5, 6] n (fun g s i wr => ∃ (j : Nat) (m : Int), j ≤ n ∧ n - j ≤ g ∧ i = .int .i64 j ∧ s = .int .i64 m ∧ 0 ≤ m ∧ m ≤ 3000 ∧ Hid (m = Hp.prodM (l.take j)) ∧ Hid (Ext w wr))
  case atStart => exact ⟨0, 1, Nat.zero_le _, by omega, rfl, rfl, by omega, by omega, Lib.hid rfl, Lib.hid exx⟩
  case round =>
   obtain ⟨j, m, hj, hg, rfl, rfl, hm0, hm1, HP, E⟩ := hrel
   by_cases hlt : j < n
   · obtain ⟨x, hx⟩ := rd_get (l := l) (j := j) (by rw [HL.out]; exact hlt); have hxb := HB.out x (List.mem_of_getElem? hx); obtain ⟨b, o, rfl, hb, hcell⟩ := (H.out.ext E.out).cells (by rw [HL.out]; omega); have gx := hcell j x hx; have hp1 : m * x ≤ 36000 := by
      have := Int.mul_le_mul hm1 hxb.2 (by omega) (by omega); omega
     have hp0 : 0 ≤ m * x := Int.mul_nonneg hm0 (by omega); have HP2 := Lib.hid (show min 3000 (m * x) = Hp.prodM (l.take (j + 1)) by rw [take_snocI hx, Hp.prodM_snoc, HP.out]); clear hcell hx hxb HP; generalize he : m * x = qv at hp0 hp1 HP2; have e2 : wrap64 (m * x) = qv := by rw [he]; exact IntWalk.wrap64_in _ ⟨by omega, by omega⟩
     clear he
     go_wp2_with fail
     go_roundg (n - (j + 1))
     case measure => omega
     case rel => exact ⟨j + 1, min 3000 qv, by omega, Nat.le_refl _, by go_num, rfl, by omega, by omega, HP2, E⟩
   · have : j = n := by omega
     subst this; have hp := HP.out; rw [← HL.out, List.take_length] at hp; subst hp
     go_wp2_with fail
     go_returns; exact ⟨rfl, E.out⟩
set_option maxHeartbeats 4000000 in
theorem dIsOrder {w : World} {p q : Option Addr} {c d n : Nat} {o : List Int} {b : Bool} (h : SliceAt w q d o) (hn : n ≤ 1000) (hb : b = true ↔ Hp.OrdOk n o) :
    Calls Tryz.prog 120 #[.slice p n c, .slice q o.length d] w fun e w' => e = .returned (.bool b) ∧ Ext w w' := by
  have hle := h.le; have hcap := h.cap; have H := Lib.hid h; have HB := Lib.hid hb; clear h hb
  by_cases hq : o.length = n
  · rw [hq] at hle ⊢; have HL := Lib.hid hq; clear hq; have tq : ((n : Int) != (n : Int)) = false := by simp
    go_enter Tryz.func120, Tryz.ntmps120
    go_wp2_with fail
    go_loopg [5] n (fun g i wr => ∃ j : Nat, j ≤ n ∧ n - j ≤ g ∧ i = .int .i64 j ∧ Hid (Hp.OrdTo n o j) ∧ Hid (Ext w wr))
    case atStart => exact ⟨0, Nat.zero_le _, by omega, rfl, Lib.hid (fun k x hk => by omega), Lib.hid exx⟩
    case round =>
     obtain ⟨j, hj, hg, rfl, A, E⟩ := hrel
     by_cases hlt : j < n
     · obtain ⟨x, hx⟩ := rd_get (l := o) (j := j) (by rw [HL.out]; exact hlt); have HX := Lib.hid hx; obtain ⟨bb, oo, rfl, hbb, hcell⟩ := (H.out.ext E.out).cells (by rw [HL.out]; omega); have gx := hcell j x hx; have HC := Lib.hid hcell; have tk : decide ((j : Int) < (n : Int)) = true := decide_eq_true (by omega); have sb : IntKind.i64.wrap ((n : Int) - 1) = (n : Int) - 1 := IntWalk.i64_in _ (by omega); clear hcell hx
       cases hw : Hp.within 0 ((n : Int) - 1) x with
       | false =>
        have hbf : b = false := by
         cases b with
         | false => rfl
         | true =>
          have h1 := (HB.out.1 rfl).2 j x hlt HX.out; simp [Hp.within, h1.1] at hw
        subst hbf; have HI := Lib.hid (fun W => hw ▸ dIn x 0 ((n : Int) - 1) W); clear hw
        go_wp2_with (go_at_call 66; refine (HI.out _).mono ?_; rintro e w1 ⟨rfl, hb1⟩; obtain ⟨hc1, hf1, hs1⟩ := hb1.cells)
        go_returns; exact ⟨rfl, E.out.trans hb1⟩
       | true =>
        have hwi : 0 ≤ x ∧ x ≤ (n : Int) - 1 := by simpa [Hp.within] using hw
        have HI := Lib.hid (fun W => hw ▸ dIn x 0 ((n : Int) - 1) W); clear hw
        go_wp2_with (go_at_call 66; refine (HI.out _).mono ?_; rintro e w1 ⟨rfl, hb1⟩; obtain ⟨hc1, hf1, hs1⟩ := hb1.cells)
        have E1 := Lib.hid (E.out.trans hb1); have E1l := Lib.hid hb1; have zb := Nat.lt_of_lt_of_le hbb hb1.le
        go_loopg [6] (j + 1) (fun g i wr => ∃ k : Nat, k ≤ j ∧ j + 1 - k ≤ g ∧ i = .int .i64 k ∧ Hid (∀ m y, m < k → Hp.rd o m = some y → y ≠ x) ∧ Hid (Ext w1 wr))
        case atStart => exact ⟨0, Nat.zero_le _, by omega, rfl, Lib.hid (fun m y hm => by omega), Lib.hid (Ext.refl _)⟩
        case round =>
         obtain ⟨k, hk, hg2, rfl, A2, E2⟩ := hrel
         by_cases hkj : k < j
         · obtain ⟨y, hy⟩ := rd_get (l := o) (j := k) (by rw [HL.out]; omega); have HY := Lib.hid hy; have gx' := (E2.out.cell zb (oo + j)).trans ((E1l.out.cell hbb _).trans gx); have gy' := (E2.out.cell zb (oo + k)).trans ((E1l.out.cell hbb _).trans (HC.out k y hy)); have zr := Nat.lt_of_lt_of_le zb E2.out.le; have tk2 : decide ((k : Int) < (j : Int)) = true := decide_eq_true (by omega); have kn : k < n := by omega
           clear hy
           by_cases hxy : y = x
           · have t0 : (y == x) = true := by simpa using hxy
             have hbf : b = false := by
              cases b with
              | false => rfl
              | true => exact absurd hxy (((HB.out.1 rfl).2 j x hlt HX.out).2 k y hkj HY.out)
             subst hbf; clear hxy
             go_wp2_with fail
             have PR27 := Lib.hid (fun (ww : World) (hSw : Ext wr ww) => And.intro ((hSw.cell zr (oo + j)).trans gx') ((hSw.cell zr (oo + k)).trans gy')); refine wp_region_seq (S := fun W => Ext wr W) (R := Ext) (by kernel_rfl) Ext.refl ?_ ?_
             · exact exx
             refine' tkL 0 rfl ?h0_1 ?_
             case h0_1 => (intro w q; obtain ⟨gx'', gy''⟩ := PR27.out w q; go_simp; try with_reducible rfl)
             refine layy ?_; refine' tkL 1 rfl ?h1_2 ?_
             case h1_2 => (intro w q; obtain ⟨gx'', gy''⟩ := PR27.out w q; go_simp; try with_reducible rfl)
             refine layy ?_; refine' tkL 2 rfl ?h2_3 ?_
             case h2_3 => (intro w q; obtain ⟨gx'', gy''⟩ := PR27.out w q; go_simp; try with_reducible rfl)
             refine layy ?_; refine' tkL 3 rfl ?h3_4 ?_
             case h3_4 => (intro w q; obtain ⟨gx'', gy''⟩ := PR27.out w q; go_simp; try with_reducible rfl)
             refine layy ?_; refine' tkL 4 rfl ?h4_5 ?_
             case h4_5 => (intro w q; obtain ⟨gx'', gy''⟩ := PR27.out w q; go_simp; try with_reducible rfl)
             refine layy ?_; refine' tkL 5 rfl ?h5_6 ?_
             case h5_6 => (intro w q; obtain ⟨gx'', gy''⟩ := PR27.out w q; go_simp; try with_reducible rfl)
             refine layy ?_; refine' tkL 6 rfl ?h6_7 ?_
             case h6_7 => (intro w q; obtain ⟨gx'', gy''⟩ := PR27.out w q; go_simp; try with_reducible rfl)
             refine layy ?_; refine' tkL 7 rfl ?h7_8 ?_
             case h7_8 => (intro w q; obtain ⟨gx'', gy''⟩ := PR27.out w q; go_simp; try with_reducible rfl)
             refine layy ?_; refine' tkL 8 rfl ?h8_9 ?_
             case h8_9 => (intro w q; obtain ⟨gx'', gy''⟩ := PR27.out w q; go_simp; try with_reducible rfl)
             refine layy ?_; refine wpAnyR_done (by kernel_rfl) ?_ _; intro x1 _ Ex1
             go_wp2_with fail
             go_returns; exact ⟨rfl, (E1.out.trans E2.out).trans Ex1⟩
           · have t0 : (y == x) = false := by simpa using hxy
             have A3 := Lib.hid (show ∀ m z, m < k + 1 → Hp.rd o m = some z → z ≠ x from fun m z hm hz => by
              by_cases e : m = k
              · subst e; rw [HY.out] at hz
                cases hz
                exact hxy
              · exact A2.out m z (by omega) hz)
             clear hxy
             go_wp2_with fail
             have PR28 := Lib.hid (fun (ww : World) (hSw : Ext wr ww) => And.intro ((hSw.cell zr (oo + j)).trans gx') ((hSw.cell zr (oo + k)).trans gy')); refine wp_region_seq (S := fun W => Ext wr W) (R := Ext) (by kernel_rfl) Ext.refl ?_ ?_
             · exact exx
             refine' tkL 0 rfl ?h0_10 ?_
             case h0_10 => (intro w q; obtain ⟨gx'', gy''⟩ := PR28.out w q; go_simp; try with_reducible rfl)
             refine layy ?_; refine' tkL 1 rfl ?h1_11 ?_
             case h1_11 => (intro w q; obtain ⟨gx'', gy''⟩ := PR28.out w q; go_simp; try with_reducible rfl)
             refine layy ?_; refine' tkL 2 rfl ?h2_12 ?_
             case h2_12 => (intro w q; obtain ⟨gx'', gy''⟩ := PR28.out w q; go_simp; try with_reducible rfl)
             refine layy ?_; refine' tkL 3 rfl ?h3_13 ?_
             case h3_13 => (intro w q; obtain ⟨gx'', gy''⟩ := PR28.out w q; go_simp; try with_reducible rfl)
             refine layy ?_; refine' tkL 4 rfl ?h4_14 ?_
             case h4_14 => (intro w q; obtain ⟨gx'', gy''⟩ := PR28.out w q; go_simp; try with_reducible rfl)
             refine layy ?_; refine' tkL 5 rfl ?h5_15 ?_
             case h5_15 => (intro w q; obtain ⟨gx'', gy''⟩ := PR28.out w q; go_simp; try with_reducible rfl)
             refine layy ?_; refine' tkL 6 rfl ?h6_16 ?_
             case h6_16 => (intro w q; obtain ⟨gx'', gy''⟩ := PR28.out w q; go_simp; try with_reducible rfl)
             refine layy ?_; refine' tkL 7 rfl ?h7_17 ?_
             case h7_17 => (intro w q; obtain ⟨gx'', gy''⟩ := PR28.out w q; go_simp; try with_reducible rfl)
             refine layy ?_; refine' tkL 8 rfl ?h8_18 ?_
             case h8_18 => (intro w q; obtain ⟨gx'', gy''⟩ := PR28.out w q; go_simp; try with_reducible rfl)
             refine layy ?_; refine wpAnyR_done (by kernel_rfl) ?_ _; intro x1 _ Ex1; have E3 := Lib.hid (E2.out.trans Ex1)
             go_wp2_with fail
             go_roundg (j + 1 - (k + 1))
             case measure => omega
             case rel => exact ⟨k + 1, by omega, Nat.le_refl _, by go_num, A3, E3⟩
         · have tk2 : decide ((k : Int) < (j : Int)) = false := decide_eq_false (by omega); have : k = j := by omega
           subst this; have E3 := Lib.hid (E1.out.trans E2.out); have A3 := Lib.hid (show Hp.OrdTo n o (k + 1) from fun m z hm hz => by
            by_cases e : m = k
            · subst e; rw [HX.out] at hz
              cases hz
              exact ⟨hwi, A2.out⟩
            · exact A.out m z (by omega) hz)
           go_wp2_with fail
           go_roundg (n - (k + 1))
           case measure => omega
           case rel => exact ⟨k + 1, by omega, Nat.le_refl _, by go_num, A3, E3⟩
     · have : j = n := by omega
       subst this; have tk : decide ((j : Int) < (j : Int)) = false := decide_eq_false (by omega); have hbt : b = true := HB.out.2 ⟨HL.out, A.out⟩; subst hbt
       go_wp2_with fail
       go_returns; exact ⟨rfl, E.out⟩
  · have tq : ((o.length : Int) != (n : Int)) = true := by
      have : (o.length : Int) ≠ (n : Int) := by omega
      simpa using this
    have hbf : b = false := by
     cases b with
     | false => rfl
     | true => exact absurd (HB.out.1 rfl).1 hq
    subst hbf; clear hq; go_enter Tryz.func120, Tryz.ntmps120
    go_wp2_with fail
    go_returns; exact ⟨rfl, exx⟩
set_option maxRecDepth 100000 in
set_option maxHeartbeats 4000000 in
theorem dCheckFrame {w : World} {p q : Option Addr} {c d : Nat} {z o : List Int} (hs : SliceAt w p c z) (ho : SliceAt w q d o) :
    Calls Tryz.prog 57 #[.slice p z.length c, .slice q o.length d] w fun e w' => e = .returned (.int .i64 (Hp.frameErr z o)) ∧ Ext w w' := by
  have hle := hs.le; have hcap := hs.cap; have H := Lib.hid hs; have HO := Lib.hid ho; clear hs ho
  by_cases h6 : z.length > 6
  · have e : Hp.frameErr z o = 5 := by unfold Hp.frameErr; rw [if_pos h6]
    have t6 : decide ((z.length : Int) > 6) = true := decide_eq_true (by omega); rw [e]; clear e; go_enter Tryz.func57, Tryz.ntmps57
    go_wp2_with fail
    go_returns; exact ⟨rfl, exx⟩
  · obtain ⟨ee, hee⟩ : ∃ ee, Hp.frameErr z o = ee := ⟨_, rfl⟩
    rw [hee]; have HE := Lib.hid hee; clear hee; obtain ⟨n, hL⟩ : ∃ n, z.length = n := ⟨_, rfl⟩
    have HL := Lib.hid hL; rw [hL] at hle h6 ⊢; clear hL; have t6 : decide ((n : Int) > 6) = false := decide_eq_false (by omega); go_enter Tryz.func57, Tryz.ntmps57
    go_wp2_with fail
    go_loopg [5] n (fun g i wr => ∃ j : Nat, j ≤ n ∧ n - j ≤ g ∧ i = .int .i64 j ∧ Hid (∀ k x, k < j → Hp.rd z k = some x → 1 ≤ x ∧ x ≤ 12) ∧ Hid (Ext w wr))
    case atStart => exact ⟨0, Nat.zero_le _, by omega, rfl, Lib.hid (fun k x hk => by omega), Lib.hid exx⟩
    case round =>
     obtain ⟨j, hj, hg, rfl, A, E⟩ := hrel
     by_cases hlt : j < n
     · obtain ⟨x, hx⟩ := rd_get (l := z) (j := j) (by rw [HL.out]; exact hlt); have HX := Lib.hid hx; obtain ⟨bb, oo, rfl, hbb, hcell⟩ := (H.out.ext E.out).cells (by rw [HL.out]; omega); have gx := hcell j x hx; have tk : decide ((j : Int) < (n : Int)) = true := decide_eq_true (by omega); clear hcell hx
       cases hw : Hp.within 1 12 x with
       | false =>
        have he : ee = 3 := by
         have h1 := HE.out; unfold Hp.frameErr at h1; rw [if_neg (by have := HL.out; omega), if_pos] at h1
         · exact h1.symm
         · apply Classical.byContradiction; intro hc; have h2 := List.all_eq_true.1 (by simpa using hc : z.all (fun n => decide (1 ≤ n) && decide (n ≤ 12)) = true) x (List.mem_of_getElem? HX.out); have h3 : Hp.within 1 12 x = true := h2; rw [hw] at h3
           cases h3
        subst he; have HI := Lib.hid (fun W => hw ▸ dIn x 1 12 W); clear hw
        go_wp2_with (go_at_call 66; refine (HI.out _).mono ?_; rintro e w1 ⟨rfl, hb1⟩; obtain ⟨hc1, hf1, hs1⟩ := hb1.cells)
        go_returns; exact ⟨rfl, E.out.trans hb1⟩
       | true =>
        have hwi : 1 ≤ x ∧ x ≤ 12 := by simpa [Hp.within] using hw
        have HI := Lib.hid (fun W => hw ▸ dIn x 1 12 W); clear hw; have A3 := Lib.hid (show ∀ k y, k < j + 1 → Hp.rd z k = some y → 1 ≤ y ∧ y ≤ 12 from fun m y hm hy => by
         by_cases e : m = j
         · subst e; rw [HX.out] at hy
           cases hy
           exact hwi
         · exact A.out m y (by omega) hy)
        go_wp2_with (go_at_call 66; refine (HI.out _).mono ?_; rintro e w1 ⟨rfl, hb1⟩; obtain ⟨hc1, hf1, hs1⟩ := hb1.cells)
        have E3 := Lib.hid (E.out.trans hb1)
        go_roundg (n - (j + 1))
        case measure => omega
        case rel => exact ⟨j + 1, by omega, Nat.le_refl _, by go_num, A3, E3⟩
     · have : j = n := by omega
       subst this; have tk : decide ((j : Int) < (j : Int)) = false := decide_eq_false (by omega); have hb : ∀ s ∈ z, 1 ≤ s ∧ s ≤ 12 := fun s hs => by
        obtain ⟨k, hk, rfl⟩ := List.getElem_of_mem hs; exact A.out k _ (by have := HL.out; omega) (List.getElem?_eq_getElem hk)
       have hall : z.all (fun n => decide (1 ≤ n) && decide (n ≤ 12)) = true := List.all_eq_true.2 fun x hx => by
        have := hb x hx; simp only [Bool.and_eq_true, decide_eq_true_eq]; exact this
       have he0 : Hp.frameErr z o = (if z.foldl (· * ·) 1 > 2000 then 5 else if Hp.sortI o = Hp.upto z.length then 0 else 4 : Int) := by
        unfold Hp.frameErr; rw [if_neg (show ¬ z.length > 6 by have := HL.out; omega), if_neg (by rw [hall]; simp)]
       rw [HE.out] at he0; have he := he0.symm; clear he0; have PR := Lib.hid (fun E1 => HL.out ▸ dProduct (H.out.ext (w' := wr) E1) hb); have big := Hp.prodM_big hb; generalize Hp.prodM z = pm at PR big; clear A hall
       by_cases h2 : pm > 2000
       · rw [if_pos (big.1 h2)] at he; subst he; have t2 : decide (pm > 2000) = true := decide_eq_true h2; clear big
         go_wp2_with (go_at_call 119; refine (PR.out E.out).mono ?_; rintro e w1 ⟨rfl, hb1⟩; obtain ⟨hc1, hf1, hs1⟩ := hb1.cells)
         go_returns; exact ⟨rfl, E.out.trans hb1⟩
       · rw [if_neg (fun h => h2 (big.2 h))] at he; have t2 : decide (pm > 2000) = false := decide_eq_false h2; clear big; have OI := Hp.ordOk_iff (o := o) (n := z.length); rw [HL.out] at OI he
         by_cases h3 : Hp.sortI o = Hp.upto j
         · rw [if_pos h3] at he; subst he; have IO := Lib.hid (fun (W : World) (E1 : Ext w W) => dIsOrder (p := p) (c := c) (n := j) (b := true) (HO.out.ext E1) (by omega) ⟨fun _ => OI.2 h3, fun _ => rfl⟩); clear OI h3
           go_wp2_with (first
            | (go_at_call 119; refine (PR.out E.out).mono ?_; rintro e w1 ⟨rfl, hb1⟩; obtain ⟨hc1, hf1, hs1⟩ := hb1.cells)
            | (go_at_call 120; refine (IO.out _ (E.out.trans hb1)).mono ?_; rintro e w2 ⟨rfl, hb2⟩; obtain ⟨hc2, hf2, hs2⟩ := hb2.cells))
           go_returns; exact ⟨rfl, (E.out.trans hb1).trans hb2⟩
         · rw [if_neg h3] at he; subst he; have IO := Lib.hid (fun (W : World) (E1 : Ext w W) => dIsOrder (p := p) (c := c) (n := j) (b := false) (HO.out.ext E1) (by omega) ⟨fun h => absurd h (by decide), fun h => absurd (OI.1 h) h3⟩); clear OI h3
           go_wp2_with (first
            | (go_at_call 119; refine (PR.out E.out).mono ?_; rintro e w1 ⟨rfl, hb1⟩; obtain ⟨hc1, hf1, hs1⟩ := hb1.cells)
            | (go_at_call 120; refine (IO.out _ (E.out.trans hb1)).mono ?_; rintro e w2 ⟨rfl, hb2⟩; obtain ⟨hc2, hf2, hs2⟩ := hb2.cells))
           go_returns; exact ⟨rfl, (E.out.trans hb1).trans hb2⟩
theorem dMany {w : World} {p : Option Addr} {c : Nat} {l : List Int} (h : SliceAt w p c l) (hb : ∀ s ∈ l, 1 ≤ s ∧ s ≤ 12) :
    Calls Tryz.prog 89 #[.slice p l.length c] w fun e w' => e = .returned (.int .i64 (Hp.prodM l)) ∧ Ext w w' := by
  have P := Lib.hid (dProduct h hb); clear h hb; go_enter Tryz.func89, Tryz.ntmps89
  go_wp2_with (go_at_call 119; refine (P.out).mono ?_; rintro e w1 ⟨rfl, hb1⟩; obtain ⟨hc1, hf1, hs1⟩ := hb1.cells)
  go_returns; exact ⟨rfl, exx⟩
def Hp.slimB (z o : List Int) : Bool := decide (z.length ≤ 8) && (decide (o.length ≤ 8) && (decide (Hp.frameErr z o ≠ 0) || decide (Hp.prodM z ≤ 200)))
theorem dSlim {w : World} {p q : Option Addr} {c d : Nat} {z o : List Int} (hs : SliceAt w p c z) (ho : SliceAt w q d o) :
    Calls Tryz.prog 56 #[.slice p z.length c, .slice q o.length d] w fun e w' => e = .returned (.bool (Hp.slimB z o)) ∧ Ext w w' := by
  have CF := Lib.hid (dCheckFrame hs ho); have HM := Lib.hid (fun (W : World) (E : Ext w W) => dMany (hs.ext E)); clear hs ho
  by_cases h1 : z.length ≤ 8
  · have t1 : decide ((z.length : Int) > 8) = false := decide_eq_false (by omega)
    by_cases h2 : o.length ≤ 8
    · have t2 : decide ((o.length : Int) > 8) = false := decide_eq_false (by omega); have e : Hp.slimB z o = (decide (Hp.frameErr z o ≠ 0) || decide (Hp.prodM z ≤ 200)) := by simp [Hp.slimB, h1, h2]
      rw [e]; clear e
      by_cases h3 : Hp.frameErr z o = 0
      · have e : (decide (Hp.frameErr z o ≠ 0) || decide (Hp.prodM z ≤ 200)) = decide (Hp.prodM z ≤ 200) := by simp [h3]
        have hb := (Hp.frameErr_ok h3).1.pos; have M := Lib.hid (fun (W : World) (E : Ext w W) => HM.out W E hb); rw [e]; have C := Lib.hid (h3 ▸ CF.out); clear e h3 hb CF HM; go_enter Tryz.func56, Tryz.ntmps56
        go_wp2_with (first
         | (go_at_call 57; refine (C.out).mono ?_; rintro e w1 ⟨rfl, hb1⟩; obtain ⟨hc1, hf1, hs1⟩ := hb1.cells)
         | (go_at_call 89; refine (M.out _ hb1).mono ?_; rintro e w2 ⟨rfl, hb2⟩; obtain ⟨hc2, hf2, hs2⟩ := hb2.cells))
        go_returns; exact ⟨rfl, hb1.trans hb2⟩
      · have e : (decide (Hp.frameErr z o ≠ 0) || decide (Hp.prodM z ≤ 200)) = true := by simp [h3]
        have t3 : (Hp.frameErr z o != 0) = true := by simpa using h3
        rw [e]; clear e h3 HM; generalize Hp.frameErr z o = fe at CF t3; go_enter Tryz.func56, Tryz.ntmps56
        go_wp2_with (go_at_call 57; refine (CF.out).mono ?_; rintro e w1 ⟨rfl, hb1⟩; obtain ⟨hc1, hf1, hs1⟩ := hb1.cells)
        go_returns; exact ⟨rfl, exx⟩
    · have t2 : decide ((o.length : Int) > 8) = true := decide_eq_true (by omega); have e : Hp.slimB z o = false := by simp [Hp.slimB, h2]
      rw [e]; clear e CF HM; go_enter Tryz.func56, Tryz.ntmps56
      go_wp2_with fail
      go_returns; exact ⟨rfl, exx⟩
  · have t1 : decide ((z.length : Int) > 8) = true := decide_eq_true (by omega); have e : Hp.slimB z o = false := by simp [Hp.slimB, h1]
    rw [e]; clear e CF HM; go_enter Tryz.func56, Tryz.ntmps56
    go_wp2_with fail
    go_returns; exact ⟨rfl, exx⟩
theorem lFault {w : World} {p q : Option Addr} {c d : Nat} {z o : List Int} {n : Int} (hs : SliceAt w p c z) (ho : SliceAt w q d o) :
    Calls Tryz.prog 18 #[.slice p z.length c, .slice q o.length d, .int .i64 n] w fun e w' => e = .returned (.int .i64 (Hp.newErr z o n)) ∧ Ext w w' := by
  have CF := Lib.hid (dCheckFrame hs ho); clear hs ho
  by_cases h3 : Hp.frameErr z o = 0
  · have I := Lib.hid (fun W => dIn n 32 40000 W); have C := Lib.hid (h3 ▸ CF.out); clear CF
    cases hw : Hp.within 32 40000 n with
    | true =>
     have e : Hp.newErr z o n = 0 := by unfold Hp.newErr; rw [if_neg (by simp [h3]), hw]; rfl
     rw [e]; rw [hw] at I; clear e hw h3; go_enter Tryz.func18, Tryz.ntmps18
     go_wp2_with (first
      | (go_at_call 57; refine (C.out).mono ?_; rintro e w1 ⟨rfl, hb1⟩; obtain ⟨hc1, hf1, hs1⟩ := hb1.cells)
      | (go_at_call 66; refine (I.out _).mono ?_; rintro e w2 ⟨rfl, hb2⟩; obtain ⟨hc2, hf2, hs2⟩ := hb2.cells))
     go_returns; exact ⟨rfl, hb1.trans hb2⟩
    | false =>
     have e : Hp.newErr z o n = 3 := by unfold Hp.newErr; rw [if_neg (by simp [h3]), hw]; rfl
     rw [e]; rw [hw] at I; clear e hw h3; go_enter Tryz.func18, Tryz.ntmps18
     go_wp2_with (first
      | (go_at_call 57; refine (C.out).mono ?_; rintro e w1 ⟨rfl, hb1⟩; obtain ⟨hc1, hf1, hs1⟩ := hb1.cells)
      | (go_at_call 66; refine (I.out _).mono ?_; rintro e w2 ⟨rfl, hb2⟩; obtain ⟨hc2, hf2, hs2⟩ := hb2.cells))
     go_returns; exact ⟨rfl, hb1.trans hb2⟩
  · have e : Hp.newErr z o n = Hp.frameErr z o := by unfold Hp.newErr; rw [if_pos h3]
    have t3 : (Hp.frameErr z o != 0) = true := by simpa using h3
    rw [e]; clear e h3; generalize Hp.frameErr z o = fe at CF t3 ⊢; go_enter Tryz.func18, Tryz.ntmps18
    go_wp2_with (go_at_call 57; refine (CF.out).mono ?_; rintro e w1 ⟨rfl, hb1⟩; obtain ⟨hc1, hf1, hs1⟩ := hb1.cells)
    go_returns; exact ⟨rfl, exx⟩
structure ActsW (w : World) (p : Option Addr) (c : Nat) (l : List Hp.Act') : Prop where
 le : l.length ≤ c
 cap : c ≤ 9223372036854775807
 cells : 0 < l.length → ∃ b o, p = some ⟨b, o, none⟩ ∧ b < w.heap.size ∧ ∀ (j : Nat) (x : Hp.Act'), l[j]? = some x → ∃ q c f, ActOk { x with list := [] } f ∧ w.cell? ⟨b, o + j * 5, none⟩ = some (.int .u8 x.kind) ∧ w.cell? ⟨b, o + j * 5 + 1, none⟩ = some (.int .i64 x.a) ∧ w.cell? ⟨b, o + j * 5 + 2, none⟩ = some (.slice q x.list.length c) ∧ w.cell? ⟨b, o + j * 5 + 3, none⟩ = some (.int .u8 f) ∧ w.cell? ⟨b, o + j * 5 + 4, none⟩ = some (.int .i64 x.n) ∧ SliceAt w q c x.list
theorem ActsW.ext {w w' : World} {p : Option Addr} {c : Nat} {l : List Hp.Act'} (h : ActsW w p c l) (k : Ext w w') : ActsW w' p c l := by
 refine ⟨h.le, h.cap, fun h0 => ?_⟩
 obtain ⟨b, o, rfl, hb, hc⟩ := h.cells h0
 refine ⟨b, o, rfl, Nat.lt_of_lt_of_le hb k.le, fun j x hx => ?_⟩
 obtain ⟨q, c', f, ok, a0, a1, a2, a3, a4, hs⟩ := hc j x hx
 exact ⟨q, c', f, ok, (k.cell hb _).trans a0, (k.cell hb _).trans a1, (k.cell hb _).trans a2, (k.cell hb _).trans a3, (k.cell hb _).trans a4, hs.ext k⟩
theorem ActsW.at_ {w : World} {p : Option Addr} {c : Nat} {l : List Hp.Act'} (h : ActsW w p c l) (hl : ∀ x ∈ l, x.list.length ≤ 14) : ActsAt w p c l := by
 refine ⟨h.le, h.cap, fun h0 => ?_⟩
 obtain ⟨b, o, rfl, hb, hc⟩ := h.cells h0
 refine ⟨b, o, rfl, hb, fun j x hx => ?_⟩
 obtain ⟨q, c', f, ok, hr⟩ := hc j x hx
 exact ⟨q, c', f, ⟨ok.k0, ok.fault, ok.f2, ok.n1, ok.n2, ok.a1, ok.a2, by have := hl x (List.mem_of_getElem? hx); omega⟩, hr⟩
def NilActs (w : World) (pa : Option Addr) (acts : List Hp.Act') : Prop := ∀ (b o j : Nat) (x : Hp.Act') (q : Option Addr) (c : Nat), pa = some ⟨b, o, none⟩ → acts[j]? = some x → w.cell? ⟨b, o + j * 5 + 2, none⟩ = some (.slice q x.list.length c) → q = none → c = 0
theorem NilActs.ext {w w' : World} {pa : Option Addr} {ca : Nat} {acts : List Hp.Act'} (h : NilActs w pa acts) (ha : ActsW w pa ca acts) (e : Ext w w') : NilActs w' pa acts := fun b o j x q c hp hx hc hq => by
 obtain ⟨b', o', e', hb, _⟩ := ha.cells (by have := (List.getElem?_eq_some_iff.1 hx).1; omega)
 rw [hp] at e'
 cases e'
 exact h b o j x q c hp hx ((e.cell hb _).symm.trans hc) hq
structure SAt (w : World) (sp : Option Addr) (sc : Nat) (op : Option Addr) (oc : Nat) (pa : Option Addr) (ca : Nat) (z o : List Int) (acts : List Hp.Act') : Prop where
 n3 : NilActs w pa acts
 sizes : SliceAt w sp sc z
 order : SliceAt w op oc o
 acts : ActsW w pa ca acts
 n1 : sp = none → sc = 0
 n2 : op = none → oc = 0
theorem SAt.ext {w w' : World} {sp op pa : Option Addr} {sc oc ca : Nat} {z o : List Int} {acts : List Hp.Act'} (h : SAt w sp sc op oc pa ca z o acts) (e : Ext w w') : SAt w' sp sc op oc pa ca z o acts :=
 { h with sizes := h.sizes.ext e, order := h.order.ext e, acts := h.acts.ext e, n3 := h.n3.ext h.acts e }
def Hp.thinB (z o : List Int) (n : Int) (acts : List Hp.Act') : Bool :=
 Hp.slimB z o && (decide (acts.length ≤ 60) && (acts.all (fun x => decide (x.list.length ≤ 14)) && (decide (Hp.frameErr z o ≠ 0) || (decide (n ≤ 400) || decide (40000 < n)))))
set_option maxRecDepth 100000 in
set_option maxHeartbeats 4000000 in
theorem lThin {w : World} {sp op pa : Option Addr} {sc oc ca : Nat} {z o : List Int} {n : Int} {acts : List Hp.Act'} (h : SAt w sp sc op oc pa ca z o acts) :
    Calls Tryz.prog 14 #[.agg #[.slice sp z.length sc, .slice op o.length oc, .int .i64 n, .slice pa acts.length ca]] w fun e w' => e = .returned (.bool (Hp.thinB z o n acts)) ∧ Ext w w' := by
  have E0 : Ext w (w.alloc (.cells #[.slice sp z.length sc, .slice op o.length oc, .int .i64 n, .slice pa acts.length ca] 25)) := Ext.alloc (Ext.refl _) _; have SL := Lib.hid (dSlim (h.sizes.ext E0) (h.order.ext E0)); have CF := Lib.hid (fun (W : World) (E : Ext w W) => dCheckFrame (h.sizes.ext E) (h.order.ext E)); have HA := Lib.hid h.acts; have le := h.acts.le; have cap := h.acts.cap; clear h; obtain ⟨b, hb⟩ : ∃ b, Hp.thinB z o n acts = b := ⟨_, rfl⟩
  rw [hb]; have HB := Lib.hid hb; clear hb
  cases hs : Hp.slimB z o with
  | false =>
   have : b = false := by rw [← HB.out]; simp [Hp.thinB, hs]
   subst this; rw [hs] at SL; clear hs CF E0; go_enter Tryz.func14, Tryz.ntmps14
   go_wp2_with (go_at_call 56; refine (SL.out).mono ?_; rintro e w1 ⟨rfl, hb1⟩; obtain ⟨hc1, hf1, hs1⟩ := hb1.cells)
   go_returns; exact ⟨rfl, exx⟩
  | true =>
   rw [hs] at SL; have HS := Lib.hid hs; clear hs
   by_cases h60 : acts.length ≤ 60
   · have t60 : decide ((acts.length : Int) > 60) = false := decide_eq_false (by omega); have H60 := Lib.hid h60; obtain ⟨m, hm⟩ : ∃ m, acts.length = m := ⟨_, rfl⟩
     have HM := Lib.hid hm; rw [hm] at SL E0 le t60 h60 ⊢; clear hm; go_enter Tryz.func14, Tryz.ntmps14
     go_wp2_with (go_at_call 56; refine (SL.out).mono ?_; rintro e w1 ⟨rfl, hb1⟩; obtain ⟨hc1, hf1, hs1⟩ := hb1.cells)
     have c0 : w1.cell? ⟨w.heap.size, 0, none⟩ = some (.slice sp z.length sc) := by go_simp
     have c1 : w1.cell? ⟨w.heap.size, 1, none⟩ = some (.slice op o.length oc) := by go_simp
     have c2 : w1.cell? ⟨w.heap.size, 2, none⟩ = some (.int .i64 n) := by go_simp
     have c3 : w1.cell? ⟨w.heap.size, 3, none⟩ = some (.slice pa m ca) := by go_simp
     have z1 : w.heap.size < w1.heap.size := cell_lt c0; have E1 := Lib.hid (E0.trans hb1); generalize hG : w.heap.size = gb at c0 c1 c2 c3 z1 ⊢; clear hc1 hf1 hs1 hb1 SL E0
     go_loopg [3] m (fun g i wr => ∃ j : Nat, j ≤ m ∧ m - j ≤ g ∧ i = .int .i64 j ∧ Hid (∀ k x, k < j → acts[k]? = some x → x.list.length ≤ 14) ∧ Hid (Ext w1 wr))
     case atStart => exact ⟨0, Nat.zero_le _, by omega, rfl, Lib.hid (fun k x hk => by omega), Lib.hid (Ext.refl _)⟩
     case round =>
      obtain ⟨j, hj, hg, rfl, A, E⟩ := hrel; have c3' := (E.out.cell z1 3).trans c3; have zr := Nat.lt_of_lt_of_le z1 E.out.le
      by_cases hlt : j < m
      · obtain ⟨x, hx⟩ : ∃ x, acts[j]? = some x := ⟨acts[j]'(by rw [HM.out]; exact hlt), List.getElem?_eq_getElem _⟩
        obtain ⟨bb, oo, rfl, hbb, hc⟩ := (HA.out.ext (E1.out.trans E.out)).cells (by rw [HM.out]; omega); obtain ⟨q', c', f, ok, a0, a1, a2, a3, a4, hs⟩ := hc j x hx; have tk : decide ((j : Int) < (m : Int)) = true := decide_eq_true (by omega); have HX := Lib.hid hx; have xc := hs.le; clear hc hx ok hs a0 a1 a3 a4
        by_cases h14 : x.list.length ≤ 14
        · have t14 : decide ((x.list.length : Int) > 14) = false := decide_eq_false (by omega); have A3 := Lib.hid (show ∀ k y, k < j + 1 → acts[k]? = some y → y.list.length ≤ 14 from fun k y hk hy => by
           by_cases e : k = j
           · subst e; rw [HX.out] at hy
             cases hy
             exact h14
           · exact A.out k y (by omega) hy)
          go_wp2_with fail
          go_roundg (m - (j + 1))
          case measure => omega
          case rel => exact ⟨j + 1, by omega, Nat.le_refl _, by go_num, A3, E⟩
        · have t14 : decide ((x.list.length : Int) > 14) = true := decide_eq_true (by omega); have hbf : b = false := by
           rw [← HB.out]; have : acts.all (fun x => decide (x.list.length ≤ 14)) = false := by
            apply Classical.byContradiction; intro hc; have h2 := List.all_eq_true.1 (by simpa using hc : acts.all (fun x => decide (x.list.length ≤ 14)) = true) x (List.mem_of_getElem? HX.out); exact h14 (by simpa using h2)
           simp [Hp.thinB, this]
          subst hbf
          go_wp2_with fail
          go_returns; exact ⟨rfl, E1.out.trans E.out⟩
      · have : j = m := by omega
        subst this; have tk : decide ((j : Int) < (j : Int)) = false := decide_eq_false (by omega); have hall : acts.all (fun x => decide (x.list.length ≤ 14)) = true := List.all_eq_true.2 fun x hx => by
         obtain ⟨k, hk, rfl⟩ := List.getElem_of_mem hx; have := A.out k _ (by have := HM.out; omega) (List.getElem?_eq_getElem hk)
         simpa using this
        have hbe : (decide (Hp.frameErr z o ≠ 0) || (decide (n ≤ 400) || decide (40000 < n))) = b := by
         rw [← HB.out]; unfold Hp.thinB; rw [HS.out, hall]; have : decide (acts.length ≤ 60) = true := decide_eq_true H60.out; rw [this]; simp
        have c0' := (E.out.cell z1 0).trans c0; have c1' := (E.out.cell z1 1).trans c1; have c2' := (E.out.cell z1 2).trans c2; have C := Lib.hid (CF.out wr (E1.out.trans E.out)); clear A hall CF c0 c1 c2
        by_cases h0 : Hp.frameErr z o = 0
        · rw [h0] at C hbe; have hbe : (decide (n ≤ 400) || decide (40000 < n)) = b := by rw [← hbe]; simp
          clear h0
          by_cases h4 : n ≤ 400
          · have : b = true := by rw [← hbe]; simp [h4]
            subst this; have t4 : decide (n ≤ 400) = true := decide_eq_true h4; clear hbe
            go_wp2_with ((go_at_call 57; refine (C.out).mono ?_; rintro e w2 ⟨rfl, hb2⟩; obtain ⟨hc2, hf2, hs2⟩ := hb2.cells); have c2'' := (hb2.cell zr 2).trans c2')
            go_returns; exact ⟨rfl, (E1.out.trans E.out).trans hb2⟩
          · have hbe : decide (40000 < n) = b := by rw [← hbe]; simp [h4]
            have t4 : decide (n ≤ 400) = false := decide_eq_false h4; subst hbe; clear h4
            go_wp2_with ((go_at_call 57; refine (C.out).mono ?_; rintro e w2 ⟨rfl, hb2⟩; obtain ⟨hc2, hf2, hs2⟩ := hb2.cells); have c2'' := (hb2.cell zr 2).trans c2')
            go_returns; exact ⟨rfl, (E1.out.trans E.out).trans hb2⟩
        · have : b = true := by rw [← hbe]; simp [h0]
          subst this; have t0 : (Hp.frameErr z o != 0) = true := by simpa using h0
          clear hbe h0; generalize Hp.frameErr z o = fe at C t0
          go_wp2_with ((go_at_call 57; refine (C.out).mono ?_; rintro e w2 ⟨rfl, hb2⟩; obtain ⟨hc2, hf2, hs2⟩ := hb2.cells); have c2'' := (hb2.cell zr 2).trans c2')
          go_returns; exact ⟨rfl, (E1.out.trans E.out).trans hb2⟩
   · have t60 : decide ((acts.length : Int) > 60) = true := decide_eq_true (by omega); have : b = false := by rw [← HB.out]; simp [Hp.thinB, h60]
     subst this; clear CF E0; go_enter Tryz.func14, Tryz.ntmps14
     go_wp2_with (go_at_call 56; refine (SL.out).mono ?_; rintro e w1 ⟨rfl, hb1⟩; obtain ⟨hc1, hf1, hs1⟩ := hb1.cells)
     go_returns; exact ⟨rfl, exx⟩
def Hp.readyB (z o : List Int) (n : Int) (acts : List Hp.Act') : Bool := Hp.thinB z o n acts && decide (Hp.newErr z o n = 0)
def ActAmong (w : World) (p : Option Addr) (xs : List Value) (k : Nat) (x : Hp.Act') : Prop :=
 ∃ q c f, ActOk x f ∧ xs[k * 5]? = some (.int .u8 x.kind) ∧ xs[k * 5 + 1]? = some (.int .i64 x.a) ∧ xs[k * 5 + 2]? = some (.slice q x.list.length c) ∧ xs[k * 5 + 3]? = some (.int .u8 f) ∧ xs[k * 5 + 4]? = some (.int .i64 x.n) ∧ SliceAt w q c x.list ∧
  ∀ b o, q = some ⟨b, o, none⟩ → b < w.heap.size ∧ ∀ o', p ≠ some ⟨b, o', none⟩
structure ActsRow (w0 w : World) (p : Option Addr) (c j : Nat) (l : List Hp.Act') : Prop where
 ext0 : Ext w0 w
 own : ∃ xs, w.ownsRow w0.heap.size 85 5 (.slice p j c) j xs ∧ ∀ k x, k < j → l[k]? = some x → ActAmong w p xs k x
theorem ActAmong.ext {w w' : World} {p : Option Addr} {xs : List Value} {k : Nat} {x : Hp.Act'} (h : ActAmong w p xs k x) (e : Ext w w') : ActAmong w' p xs k x := by
 obtain ⟨q, c, f, h1, h2, h3, h4, h5, h6, h7, h8⟩ := h
 exact ⟨q, c, f, h1, h2, h3, h4, h5, h6, h7.ext e, fun b o e' => ⟨Nat.lt_of_lt_of_le (h8 b o e').1 e.le, (h8 b o e').2⟩⟩
theorem ActsRow.ext {w0 w w' : World} {p : Option Addr} {c j : Nat} {l : List Hp.Act'} (h : ActsRow w0 w p c j l) (e : Ext w w') : ActsRow w0 w' p c j l := by
 obtain ⟨xs, h1, h2⟩ := h.own
 refine ⟨h.ext0.trans e, xs, ⟨h1.1, ?_⟩, fun k x hk hx => (h2 k x hk hx).ext e⟩
 rcases h1.2 with e' | ⟨g, cap, cur, e', hb, hg, r⟩
 · exact .inl e'
 · refine .inr ⟨g, cap, cur, e', hb, ?_, r⟩; have := (But.ofExt (l := []) e).block g (Array.getElem?_eq_some_iff.1 hg).1 (by simp); rw [this]; exact hg
theorem ActsRow.at_ {w0 w : World} {p : Option Addr} {c : Nat} {l : List Hp.Act'} (h : ActsRow w0 w p c l.length l) : ActsAt w p c l := by
 obtain ⟨xs, h1, h2⟩ := h.own
 rcases h1.2 with ⟨e, hz⟩ | ⟨g, cap, cur, e, hb, hg, r1, r2, r3, r4⟩
 · injection e with e1 e2 e3
   refine ⟨by omega, by omega, fun h0 => by omega⟩
 · injection e with e1 e2 e3
   subst e1 e3; refine ⟨r1, by unfold maxLen at r2; omega, fun _ => ⟨g, 0, rfl, (Array.getElem?_eq_some_iff.1 hg).1, fun j x hx => ?_⟩⟩; have hj : j < l.length := (List.getElem?_eq_some_iff.1 hx).1; obtain ⟨q, c', f, k1, k2, k3, k4, k5, k6, k7, _⟩ := h2 j x hj hx; have cl : ∀ i v, xs[i]? = some v → w.cell? ⟨g, 0 + i, none⟩ = some v := fun i v hv => by
    have := h1.cells (g := g) rfl i _ hv; rw [Addr.add_lit] at this; exact this
   refine ⟨q, c', f, k1, ?_, ?_, ?_, ?_, ?_, k7⟩
   · exact cl _ _ k2
   · exact cl _ _ k3
   · exact cl _ _ k4
   · exact cl _ _ k5
   · exact cl _ _ k6
theorem ActsRow.grow {w0 w w' : World} {p q : Option Addr} {c j cq f : Nat} {l : List Hp.Act'} {x : Hp.Act'} {v' : Value} {xs : List Value} (h0 : Ext w0 w) (h1 : w.ownsRow w0.heap.size 85 5 (.slice p j c) j xs) (h2 : ∀ k x, k < j → l[k]? = some x → ActAmong w p xs k x)
    (hx : l[j]? = some x) (hok : ActOk x f) (hs : SliceAt w q cq x.list) (hq : ∀ b o, q = some ⟨b, o, none⟩ → b < w.heap.size ∧ ∀ o', p ≠ some ⟨b, o', none⟩)
    (hown : w'.ownsRow w0.heap.size 85 5 v' (j + 1) (xs ++ [.int .u8 x.kind, .int .i64 x.a, .slice q x.list.length cq, .int .u8 f, .int .i64 x.n])) (hgr : w.grownBy w' (Value.slice p j c).ownBlock)
    (hor : ∀ g cap, v' = .slice (some ⟨g, 0, none⟩) (j + 1) cap → p = some ⟨g, 0, none⟩ ∨ g = w.heap.size) :
    ∃ p' c', v' = .slice p' (j + 1) c' ∧ ActsRow w0 w' p' c' (j + 1) l := by
  have hlen : xs.length = j * 5 := h1.1
  rcases hown.2 with ⟨_, hz⟩ | ⟨g, cap, cur, rfl, hb, hg, r⟩
  · omega
  · refine ⟨some ⟨g, 0, none⟩, cap, rfl, ?_, _, hown, ?_⟩
    · refine ext_grow h0 hgr fun r hr => ?_
      rcases h1.2 with ⟨e, _⟩ | ⟨g', cap', cur', e, hb', _⟩
      · rw [e] at hr; simp [Value.ownBlock] at hr
      · rw [e] at hr; simp [Value.ownBlock] at hr; omega
    · have keep : ∀ (q : Option Addr) (c2 : Nat) (l : List Int), (∀ b o, q = some ⟨b, o, none⟩ → b < w.heap.size ∧ ∀ o', p ≠ some ⟨b, o', none⟩) → SliceAt w q c2 l → SliceAt w' q c2 l ∧ ∀ b o, q = some ⟨b, o, none⟩ → b < w'.heap.size ∧ ∀ o', (some ⟨g, 0, none⟩ : Option Addr) ≠ some ⟨b, o', none⟩ := fun q c2 l hf hs => by
        have kb : But ((Value.slice p j c).ownBlock).toList w w' := ⟨hgr.os, hgr.tape, hgr.output, hgr.size, fun i hi hn => hgr.block i hi (fun e => hn (by rw [← e]; simp))⟩
        refine ⟨hs.but kb fun b o e hm => ?_, fun b o e => ⟨Nat.lt_of_lt_of_le (hf b o e).1 hgr.size, fun o' e' => ?_⟩⟩
        · rcases h1.2 with ⟨e', _⟩ | ⟨g', cap', cur', e', hb', _⟩
          · injection e' with e1
            subst e1; simp [Value.ownBlock] at hm
          · injection e' with e1
            subst e1; have : g' = b := by simpa [Value.ownBlock, eq_comm] using hm
            subst this; exact (hf g' o e).2 0 rfl
        · cases e'
          rcases hor _ _ rfl with hp | hg'
          · exact (hf g o e).2 0 hp
          · have := (hf g o e).1; omega
      intro k y hk hy
      by_cases e : k = j
      · subst e; rw [hx] at hy
        cases hy
        obtain ⟨n1, n2⟩ := keep q cq x.list hq hs; have ap : ∀ i, (xs ++ [Value.int .u8 x.kind, .int .i64 x.a, .slice q x.list.length cq, .int .u8 f, .int .i64 x.n])[k * 5 + i]? = [Value.int .u8 x.kind, .int .i64 x.a, .slice q x.list.length cq, .int .u8 f, .int .i64 x.n][i]? := fun i => by
         rw [List.getElem?_append_right (by omega)]
         congr 1
         omega
        exact ⟨q, cq, f, hok, ap 0, ap 1, ap 2, ap 3, ap 4, n1, n2⟩
      · obtain ⟨q', c', f', k1, k2, k3, k4, k5, k6, k7, k8⟩ := h2 k y (by omega) hy; obtain ⟨n1, n2⟩ := keep q' c' y.list k8 k7; have ap : ∀ i v, xs[i]? = some v → (xs ++ [Value.int .u8 x.kind, .int .i64 x.a, .slice q x.list.length cq, .int .u8 f, .int .i64 x.n])[i]? = some v := fun i v hv => by
         rw [List.getElem?_append_left (List.getElem?_eq_some_iff.1 hv).1]; exact hv
        exact ⟨q', c', f', k1, ap _ _ k2, ap _ _ k3, ap _ _ k4, ap _ _ k5, ap _ _ k6, n1, n2⟩
theorem act_info : (Tryz.prog.info? 85).map (fun i => (i.zero, i.size, i.bytes)) = some (some (.agg #[.int .u8 0, .int .i64 0, .slice none 0 0, .int .u8 0, .int .i64 0]), 5, 56) := by kernel_rfl
end Go.Proofs.YtdokmmhjmclmnaaGreat
