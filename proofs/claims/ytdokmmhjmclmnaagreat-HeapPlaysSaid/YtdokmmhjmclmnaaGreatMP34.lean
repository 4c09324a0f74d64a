/-
  Part 34 of a proof: RP8.
-/
import Derived.Test.YtdokmmhjmclmnaaGreatMP33
set_option linter.unusedSimpArgs false
set_option linter.unusedVariables false
set_option linter.unusedSectionVars false
set_option linter.unnecessarySimpa false
namespace Go.Proofs.YtdokmmhjmclmnaaGreat
open Go.RowKit Go.Maps
set_option maxRecDepth 100000 in
set_option maxHeartbeats 4000000 in
theorem rKid {w : World} {r : Rd} {S : Hp.Hs} {B : Nat} {L : List Hp.Tl} {ch : Nat → List Nat} (h : RAt w r S) (hw : Hp.Wf S B L ch) {Y : List Nat} (hY : ∀ y ∈ Y, y ∈ S.taken) {p : Option Addr} {c : Nat} (hp : SliceAt w p c (Hp.natsI Y)) {a : Nat} {b : Bool} (hb : b = true ↔ Hp.KidOf S Y a) :
    Calls Tryz.prog 140 #[.pointer (some ⟨r.rb, 0, none⟩), .slice p Y.length c, .int .i64 a] w fun e w' => e = .returned (.bool b) ∧ Ext w w' := by
  have FLD := Lib.hid (fun b (hb : b ∈ S.taken) W (hW : Ext w W) => rField (h.ext hW) hw hb); have FAT := Lib.hid (fun b (hb : b ∈ S.taken) W (hW : Ext w W) => fieldAt (h.ext hW) hw hb); have H := Lib.hid h; have HW := Lib.hid hw; have HY := Lib.hid hY; have HP := Lib.hid hp; have HB := Lib.hid hb; have hle := hp.le; have hcap := hp.cap; rw [Hp.natsI_len] at hle; obtain ⟨m, hm⟩ : ∃ m, Y.length = m := ⟨_, rfl⟩
  have EM := Lib.hid hm; rw [hm] at hle ⊢; clear h hw hY hp hb hm; go_enter Tryz.func140, Tryz.ntmps140
  go_wp2_with fail
  go_loopg [7] m (fun g i wr => ∃ j : Nat, j ≤ m ∧ m - j ≤ g ∧ i = .int .i64 j ∧ Hid (Ext w wr) ∧ Hid (∀ i y, i < j → Y[i]? = some y → (a : Int) ∉ Hp.kz (Hp.ow S.words) S.sizes y))
  case atStart => exact ⟨0, Nat.zero_le _, by omega, rfl, Lib.hid (Ext.refl w), Lib.hid (fun i _ hi => absurd hi (Nat.not_lt_zero _))⟩
  case round =>
   obtain ⟨j, hj, hg, rfl, E, A⟩ := hrel
   by_cases hlt : j < m
   · obtain ⟨y, hy⟩ : ∃ y, Y[j]? = some y := ⟨_, List.getElem?_eq_getElem (by rw [EM.out]; exact hlt)⟩
     have hyt := HY.out y (List.mem_of_getElem? hy); have pb := HW.out.part hyt; obtain ⟨lb, lo, hlp, hlbb, hlc⟩ := (HP.out.ext E.out).cells (by rw [Hp.natsI_len, EM.out]; omega); have gl := hlc j _ (Hp.natsI_rd hy); have tk : decide ((j : Int) < (m : Int)) = true := decide_eq_true (by omega); have HYJ := Lib.hid hy; have RI := Lib.hid (rIsNode (H.out.ext E.out) (a := y) (by omega)); subst hlp
     cases he : Hp.isEnd (Hp.ow S.words y) with
     | true =>
      have hne : ¬ Hp.ow S.words y < 20 := by
       simp only [Hp.isEnd, Hp.within, Bool.and_eq_true, decide_eq_true_eq] at he; omega
      rw [decide_eq_false hne] at RI; have A2 : Hid (∀ i z, i < j + 1 → Y[i]? = some z → (a : Int) ∉ Hp.kz (Hp.ow S.words) S.sizes z) := Lib.hid (fun i z hi hz => by
       by_cases e : i = j
       · subst e; rw [HYJ.out] at hz
         cases hz
         simp [Hp.kz, he]
       · exact A.out i z (by omega) hz)
      clear hlc hy hyt pb he hne
      go_wp2_with (go_at_call 87; refine (RI.out).mono ?_; rintro e w1 ⟨rfl, hb1⟩; obtain ⟨hc1, hf1, hs1⟩ := hb1.cells)
      have E2 := Lib.hid (E.out.trans hb1)
      go_roundg (m - (j + 1))
      case measure => omega
      case rel => exact ⟨j + 1, by omega, Nat.le_refl _, by go_num, E2, A2⟩
     | false =>
      have hnd := Hp.isNode_of (HW.out.cells.tags y hyt) he; have hlt20 : Hp.ow S.words y < 20 := by
       simp only [Hp.isNode, Hp.within, Bool.and_eq_true, decide_eq_true_eq] at hnd; have := HW.out.fr.few; omega
      rw [decide_eq_true hlt20] at RI; have ekz : Hp.kz (Hp.ow S.words) S.sizes y = Hp.fz (Hp.ow S.words) S.sizes y := by simp [Hp.kz, he]
      have FL := Lib.hid (fun W (hW : Ext w W) => FLD.out y hyt W hW); have FA := Lib.hid (fun W (hW : Ext w W) => FAT.out y hyt W hW); obtain ⟨bb, hbb⟩ : ∃ bb, (Hp.fz (Hp.ow S.words) S.sizes y).contains (a : Int) = bb := ⟨_, rfl⟩
      have HC := Lib.hid (fun W (hW : Ext w W) => rHas_is hbb (FA.out W hW)); have EK := Lib.hid ekz; have HBB := Lib.hid hbb; generalize (Hp.fz (Hp.ow S.words) S.sizes y).length = fl at *; clear hlc hy hyt pb he hnd hlt20 ekz hbb
      cases bb with
      | true =>
       have hbt : b = true := HB.out.2 ⟨y, List.mem_of_getElem? HYJ.out, by
        rw [EK.out]; have := HBB.out
        simpa using this⟩
       subst hbt
       go_wp2_with (first
        | (go_at_call 87; refine (RI.out).mono ?_; rintro e w1 ⟨rfl, hb1⟩; obtain ⟨hc1, hf1, hs1⟩ := hb1.cells; have gl2 := (hb1.cell hlbb (lo + j)).trans gl)
        | (go_at_call 88; refine (FL.out _ (E.out.trans hb1)).mono ?_; rintro e w2 ⟨rfl, hb2⟩; obtain ⟨hc2, hf2, hs2⟩ := hb2.cells)
        | (go_at_call 85; refine (HC.out _ (E.out.trans (hb1.trans hb2))).mono ?_; rintro e w3 ⟨rfl, hb3⟩; obtain ⟨hc3, hf3, hs3⟩ := hb3.cells))
       go_returns; exact ⟨rfl, E.out.trans ((hb1.trans hb2).trans hb3)⟩
      | false =>
       have A2 : Hid (∀ i z, i < j + 1 → Y[i]? = some z → (a : Int) ∉ Hp.kz (Hp.ow S.words) S.sizes z) := Lib.hid (fun i z hi hz => by
        by_cases e : i = j
        · subst e; rw [HYJ.out] at hz
          cases hz
          rw [EK.out]; have := HBB.out
          simpa using this
        · exact A.out i z (by omega) hz)
       go_wp2_with (first
        | (go_at_call 87; refine (RI.out).mono ?_; rintro e w1 ⟨rfl, hb1⟩; obtain ⟨hc1, hf1, hs1⟩ := hb1.cells; have gl2 := (hb1.cell hlbb (lo + j)).trans gl)
        | (go_at_call 88; refine (FL.out _ (E.out.trans hb1)).mono ?_; rintro e w2 ⟨rfl, hb2⟩; obtain ⟨hc2, hf2, hs2⟩ := hb2.cells)
        | (go_at_call 85; refine (HC.out _ (E.out.trans (hb1.trans hb2))).mono ?_; rintro e w3 ⟨rfl, hb3⟩; obtain ⟨hc3, hf3, hs3⟩ := hb3.cells))
       have E2 := Lib.hid (E.out.trans ((hb1.trans hb2).trans hb3))
       go_roundg (m - (j + 1))
       case measure => omega
       case rel => exact ⟨j + 1, by omega, Nat.le_refl _, by go_num, E2, A2⟩
   · have : j = m := by omega
     subst this; have tk : decide ((j : Int) < (j : Int)) = false := decide_eq_false (by omega); have hbf : b = false := by
      cases b with
      | false => rfl
      | true =>
       obtain ⟨y, hy, hk⟩ := HB.out.1 rfl; obtain ⟨i, hi, e⟩ := List.getElem_of_mem hy; exact absurd hk (A.out i y (by rw [← EM.out]; exact hi) (by rw [List.getElem?_eq_getElem hi, e]))
     subst hbf
     go_wp2_with fail
     go_returns; exact ⟨rfl, E.out⟩
def RLivePost (w : World) (T : List Nat) (e : Ending) (w' : World) : Prop := ∃ Y p c b0, e = .returned (.slice p Y.length c) ∧ w.heap.size ≤ b0 ∧ Row w' b0 p c (Hp.natsI Y) ∧ Ext w w' ∧ (∀ a, a ∈ Y ↔ a ∈ T) ∧ Y.length = T.length
set_option maxRecDepth 100000 in
set_option maxHeartbeats 16000000 in
theorem rLive {w : World} {r : Rd} {S : Hp.Hs} {B : Nat} {L : List Hp.Tl} {ch : Nat → List Nat} {T : List Nat} (h : RAt w r S) (hw : Hp.Wf S B L ch) (hT : S.live = some T) :
    Calls Tryz.prog 83 #[.pointer (some ⟨r.rb, 0, none⟩)] w (RLivePost w T) := by
  have CELLS := Lib.hid (rCells_ h hw); have H := Lib.hid h; have HW := Lib.hid hw; have HT := Lib.hid hT; have few := hw.few; have hhi := hw.hi; have hle := h.words.le; have hcap := h.words.cap; have hlt := h.lt; obtain ⟨gbb, o', hp', hbb, _⟩ := h.words.cells (by have := hw.lo; omega)
  cases hp'
  have c2 := h.c2; obtain ⟨n, hn⟩ : ∃ n, S.words.length = n := ⟨_, rfl⟩
  have EN := Lib.hid hn; rw [hn] at c2 hle few hhi; obtain ⟨m, hm⟩ : ∃ m, S.taken.length = m := ⟨_, rfl⟩
  have EM := Lib.hid hm; rw [hm] at few; clear h hw hT hn hm; go_enter Tryz.func83, Tryz.ntmps83
  go_wp2_with (go_at_call 82; refine CELLS.out.mono ?_; rintro e w1 ⟨p, c, rfl, hR, hE⟩; rw [cellsI_len, EM.out]; have RR := Lib.hid hR.at_; have E1 := Lib.hid hE)
  clear hR hE CELLS; have lle := RR.out.le; have lcap := RR.out.cap; rw [cellsI_len, EM.out] at lle
  go_loopg [3, 5] (2 * m + 1) (fun g o nn wr => ∃ (Y : List Nat) (k : Int) (p2 : Option Addr) (c2' : Nat), 2 * (m - Y.length) ≤ g ∧ (k < (Y.length : Int) → 2 * (m - Y.length) + 1 ≤ g) ∧ k ≤ (Y.length : Int) ∧ o = .slice p2 Y.length c2' ∧ nn = .int .i64 k ∧ Hid (k = (Y.length : Int) → Hp.ShutTo S Y m) ∧ Hid (Hp.Finding S T Y) ∧ Hid (Row wr w1.heap.size p2 c2' (Hp.natsI Y)) ∧ Hid (Ext w1 wr))
  case atStart => exact ⟨[], -1, none, 0, by simp, by simp, by simp, rfl, rfl, Lib.hid (fun e => by simp at e), Lib.hid (Hp.Finding.start S T), Lib.hid (Row.nil _ _), Lib.hid (Ext.refl _)⟩
  case round =>
   obtain ⟨Y, k, p2, cp2, hg1, hg2, hk, rfl, rfl, SH, F, R, E⟩ := hrel; have flen := F.out.len HW.out HT.out; rw [EM.out] at flen; obtain ⟨yl, hyl⟩ : ∃ yl, Y.length = yl := ⟨_, rfl⟩
   have EY := Lib.hid hyl; rw [hyl] at hg1 hg2 hk flen ⊢; clear hyl
   by_cases hkl : k < (yl : Int)
   · have tk : decide (k < (yl : Int)) = true := decide_eq_true hkl; have hg3 := hg2 hkl; clear SH hg2 hg1
     go_wp2_with fail
     go_loopg [3, 6] m (fun g o i wr => ∃ (j : Nat) (Y2 : List Nat) (p2 : Option Addr) (c2' : Nat), j ≤ m ∧ m - j ≤ g ∧ yl ≤ Y2.length ∧ o = .slice p2 Y2.length c2' ∧ i = .int .i64 j ∧ Hid (Y2.length = yl → Hp.ShutTo S Y2 j) ∧ Hid (Hp.Finding S T Y2) ∧ Hid (Row wr w1.heap.size p2 c2' (Hp.natsI Y2)) ∧ Hid (Ext w1 wr))
     case atStart => exact ⟨0, Y, p2, cp2, Nat.zero_le _, by omega, by rw [EY.out]; exact Nat.le_refl _, by rw [EY.out], rfl, Lib.hid (fun _ i _ hi => absurd hi (Nat.not_lt_zero _)), F, R, E⟩
     case round =>
      obtain ⟨j, Y2, p3, c3, hj, hgj, hy2, rfl, rfl, SH, F2, R2, E2⟩ := hrel; clear F R E EY; have flen2 := F2.out.len HW.out HT.out; rw [EM.out] at flen2
      by_cases hlt2 : j < m
      · obtain ⟨a, ha, haj, hrd⟩ := cellsI_rd (S := S) (j := j) (by rw [EM.out]; exact hlt2); have pa := HW.out.part ha; obtain ⟨lb, lo, hlp, hlbb, hlc⟩ := (RR.out.ext E2.out).cells (by rw [cellsI_len, EM.out]; omega); have gl := hlc j _ hrd; have Ew := E1.out.trans E2.out; have c2w := (Ew.cell hlt 2).trans c2; have gw := (H.out.ext Ew).get (j := a + 2) (by omega); rw [EN.out] at pa; have zb : r.rb < wr.heap.size := Nat.lt_of_lt_of_le hlt Ew.le; have zg : r.gb < wr.heap.size := Nat.lt_of_lt_of_le hbb Ew.le; have a2 : a + 2 < n := by omega
        have EW := Lib.hid Ew; have HA := Lib.hid ha; have HAJ := Lib.hid haj; have HY2 := Lib.hid (fun y (hy : y ∈ Y2) => (Hp.live_in HW.out HT.out).1 y (F2.out.sub y hy)); have SR := Lib.hid R2.out.at_; have tk : decide ((j : Int) < (m : Int)) = true := decide_eq_true (by omega); have wsz : w1.heap.size ≤ wr.heap.size := E2.out.le; have q1 := SR.out.le; have q2 := SR.out.cap; rw [Hp.natsI_len] at q1; obtain ⟨bh, hbh⟩ : ∃ bh, Y2.contains a = bh := ⟨_, rfl⟩
        have HAS := Lib.hid (fun W (hW : Ext wr W) => by
         have := rHas_is (Hp.natsI_contains.trans hbh) (SR.out.ext hW); rw [Hp.natsI_len] at this; exact this)
        have HBH := Lib.hid hbh; obtain ⟨i1, i2, i3, i4⟩ : IntKind.i64.wrap (((a : Nat) : Int) + 2) = ((a : Nat) : Int) + 2 ∧ (0 : Int) ≤ ((a : Nat) : Int) + 2 ∧ ((a : Nat) : Int) + 2 < ((n : Nat) : Int) ∧ (((a : Nat) : Int) + 2).toNat = a + 2 := ⟨IntWalk.i64_in _ (by omega), by omega, by omega, by omega⟩
        subst hlp; clear hlc hrd ha haj pa Ew hbh; generalize hv : Hp.ow S.words (a + 2) = v at gw; have HV := Lib.hid hv; clear hv
        cases bh with
        | true =>
         have S2 : Hid (Y2.length = yl → Hp.ShutTo S Y2 (j + 1)) := Lib.hid (fun e i z hi hz hwz => by
          by_cases e' : i = j
          · subst e'; rw [HAJ.out] at hz
            cases hz
            have := HBH.out
            simpa using this
          · exact SH.out e i z (by omega) hz hwz)
         go_wp2_with fail
         have PR39 := Lib.hid (fun (ww : World) (hSw : Ext wr ww) => And.intro ((hSw.cell zb 2).trans c2w) (And.intro ((hSw.cell hlbb (lo + j)).trans gl) ((hSw.cell zg (r.go + (a + 2))).trans gw))); refine wp_region_seq (S := fun W => Ext wr W) (R := Ext) (by kernel_rfl) Ext.refl ?_ ?_
         · exact exx
         refine' tkL 0 rfl ?h0_1 ?_
         case h0_1 => (intro w q; obtain ⟨c2', gl', gw'⟩ := PR39.out w q; go_simp; try with_reducible rfl)
         refine layy ?_; refine' tkL 1 rfl ?h1_2 ?_
         case h1_2 => (intro w q; obtain ⟨c2', gl', gw'⟩ := PR39.out w q; go_simp; try with_reducible rfl)
         refine layy ?_; refine' tkL 2 rfl ?h2_3 ?_
         case h2_3 => (intro w q; obtain ⟨c2', gl', gw'⟩ := PR39.out w q; go_simp; try with_reducible rfl)
         refine layy ?_; refine' tkL 3 rfl ?h3_4 ?_
         case h3_4 => (intro w q; obtain ⟨c2', gl', gw'⟩ := PR39.out w q; go_simp; try with_reducible rfl)
         refine layy ?_; refine' tkL 4 rfl ?h4_5 ?_
         case h4_5 => (intro w q; obtain ⟨c2', gl', gw'⟩ := PR39.out w q; go_simp; try with_reducible rfl)
         refine layy ?_; refine' tkR 5 (v := .bool true) rfl (Or.inr ⟨by rfl, 85, _, ?hx5_6, ?hy5_6⟩) ?rest5_6
         case hx5_6 => (intro w hSw; go_simp; try with_reducible rfl)
         case hy5_6 => exact fun w hE => (HAS.out _ hE).mono (fun _ _ h => ⟨h.1, h.2, Ext.trans hE h.2⟩)
         refine layy ?_; refine' tkL 6 rfl ?h6_7 ?_
         case h6_7 => (intro w q; obtain ⟨c2', gl', gw'⟩ := PR39.out w q; go_simp; try with_reducible rfl)
         refine layy ?_; refine' tkL 7 rfl ?h7_8 ?_
         case h7_8 => (intro w q; obtain ⟨c2', gl', gw'⟩ := PR39.out w q; go_simp; try with_reducible rfl)
         refine layy ?_; refine' tkR 8 (v := undef) rfl (Or.inl (Or.inr ⟨by rfl, rfl⟩)) ?rest8_9; refine layy ?_; refine' tkR 9 (v := undef) rfl (Or.inl (Or.inr ⟨by rfl, rfl⟩)) ?rest9_10; refine layy ?_; refine' tkR 10 (v := undef) rfl (Or.inl (Or.inr ⟨by rfl, rfl⟩)) ?rest10_11; refine layy ?_; refine' tkR 11 (v := undef) rfl (Or.inl (Or.inr ⟨by rfl, rfl⟩)) ?rest11_12; refine layy ?_; refine' tkR 12 (v := undef) rfl (Or.inl (Or.inr ⟨by rfl, rfl⟩)) ?rest12_13; refine layy ?_; refine' tkR 13 (v := undef) rfl (Or.inl (Or.inr ⟨by rfl, rfl⟩)) ?rest13_14; refine layy ?_; refine' tkR 14 (v := undef) rfl (Or.inl (Or.inr ⟨by rfl, rfl⟩)) ?rest14_15; refine layy ?_; refine' tkR 15 (v := undef) rfl (Or.inl (Or.inr ⟨by rfl, rfl⟩)) ?rest15_16; refine layy ?_; refine' tkR 16 (v := undef) rfl (Or.inl (Or.inr ⟨by rfl, rfl⟩)) ?rest16_17; refine layy ?_; refine' tkR 17 (v := undef) rfl (Or.inl (Or.inr ⟨by rfl, rfl⟩)) ?rest17_18; refine layy ?_; refine' tkR 18 (v := undef) rfl (Or.inl (Or.inr ⟨by rfl, rfl⟩)) ?rest18_19; refine layy ?_; refine' tkR 19 (v := undef) rfl (Or.inl (Or.inr ⟨by rfl, rfl⟩)) ?rest19_20; refine layy ?_; refine' tkR 20 (v := undef) rfl (Or.inl (Or.inr ⟨by rfl, rfl⟩)) ?rest20_21; refine layy ?_; refine' tkR 21 (v := undef) rfl (Or.inl (Or.inr ⟨by rfl, rfl⟩)) ?rest21_22; refine layy ?_; refine' tkR 22 (v := undef) rfl (Or.inl (Or.inr ⟨by rfl, rfl⟩)) ?rest22_23; refine layy ?_; refine' tkR 23 (v := undef) rfl (Or.inl (Or.inr ⟨by rfl, rfl⟩)) ?rest23_24; refine layy ?_; refine' tkR 24 (v := undef) rfl (Or.inl (Or.inr ⟨by rfl, rfl⟩)) ?rest24_25; refine layy ?_; refine' tkR 25 (v := undef) rfl (Or.inl (Or.inr ⟨by rfl, rfl⟩)) ?rest25_26; refine layy ?_; refine' tkR 26 (v := undef) rfl (Or.inl (Or.inr ⟨by rfl, rfl⟩)) ?rest26_27; refine layy ?_; refine' tkR 27 (v := undef) rfl (Or.inl (Or.inr ⟨by rfl, rfl⟩)) ?rest27_28; refine layy ?_; refine' tkR 28 (v := undef) rfl (Or.inl (Or.inr ⟨by rfl, rfl⟩)) ?rest28_29; refine layy ?_; refine' tkL 29 rfl ?h29_30 ?_
         case h29_30 => (intro w q; obtain ⟨c2', gl', gw'⟩ := PR39.out w q; go_simp; try with_reducible rfl)
         refine layy ?_; refine wpAnyR_done (by kernel_rfl) ?_ _; intro x1 _ Ex1; have E3 := Lib.hid (E2.out.trans Ex1); have R3 := Lib.hid (R2.out.ext Ex1)
         go_wp2_with fail
         go_roundg (m - (j + 1))
         case measure => omega
         case rel => exact ⟨j + 1, Y2, p3, c3, by omega, Nat.le_refl _, hy2, rfl, by go_num, S2, F2, R3, E3⟩
        | false =>
         have hnot : a ∉ Y2 := by
          have := HBH.out
          simpa using this
         have hnots := Lib.hid hnot; clear hnot
         by_cases hpos : 0 < v
         · have t1 : decide (v > 0) = true := decide_eq_true hpos; have t2 : decide (0 < v) = true := decide_eq_true hpos; have F3 := Lib.hid (F2.out.add HW.out HT.out HA.out hnots.out (.inl (by rw [HV.out]; exact hpos))); clear hpos
           go_wp2_with fail
           have PR40 := Lib.hid (fun (ww : World) (hSw : Ext wr ww) => And.intro ((hSw.cell zb 2).trans c2w) (And.intro ((hSw.cell hlbb (lo + j)).trans gl) ((hSw.cell zg (r.go + (a + 2))).trans gw))); refine wp_region_seq (S := fun W => Ext wr W) (R := Ext) (by kernel_rfl) Ext.refl ?_ ?_
           · exact exx
           refine' tkL 0 rfl ?h0_31 ?_
           case h0_31 => (intro w q; obtain ⟨c2', gl', gw'⟩ := PR40.out w q; go_simp; try with_reducible rfl)
           refine layy ?_; refine' tkL 1 rfl ?h1_32 ?_
           case h1_32 => (intro w q; obtain ⟨c2', gl', gw'⟩ := PR40.out w q; go_simp; try with_reducible rfl)
           refine layy ?_; refine' tkL 2 rfl ?h2_33 ?_
           case h2_33 => (intro w q; obtain ⟨c2', gl', gw'⟩ := PR40.out w q; go_simp; try with_reducible rfl)
           refine layy ?_; refine' tkL 3 rfl ?h3_34 ?_
           case h3_34 => (intro w q; obtain ⟨c2', gl', gw'⟩ := PR40.out w q; go_simp; try with_reducible rfl)
           refine layy ?_; refine' tkL 4 rfl ?h4_35 ?_
           case h4_35 => (intro w q; obtain ⟨c2', gl', gw'⟩ := PR40.out w q; go_simp; try with_reducible rfl)
           refine layy ?_; refine' tkR 5 (v := .bool false) rfl (Or.inr ⟨by rfl, 85, _, ?hx5_36, ?hy5_36⟩) ?rest5_36
           case hx5_36 => (intro w hSw; go_simp; try with_reducible rfl)
           case hy5_36 => exact fun w hE => (HAS.out _ hE).mono (fun _ _ h => ⟨h.1, h.2, Ext.trans hE h.2⟩)
           refine layy ?_; refine' tkL 6 rfl ?h6_37 ?_
           case h6_37 => (intro w q; obtain ⟨c2', gl', gw'⟩ := PR40.out w q; go_simp; try with_reducible rfl)
           refine layy ?_; refine' tkL 7 rfl ?h7_38 ?_
           case h7_38 => (intro w q; obtain ⟨c2', gl', gw'⟩ := PR40.out w q; go_simp; try with_reducible rfl)
           refine layy ?_; refine' tkL 8 rfl ?h8_39 ?_
           case h8_39 => (intro w q; obtain ⟨c2', gl', gw'⟩ := PR40.out w q; go_simp; try with_reducible rfl)
           refine layy ?_; refine' tkL 9 rfl ?h9_40 ?_
           case h9_40 => (intro w q; obtain ⟨c2', gl', gw'⟩ := PR40.out w q; go_simp; try with_reducible rfl)
           refine layy ?_; refine' tkL 10 rfl ?h10_41 ?_
           case h10_41 => (intro w q; obtain ⟨c2', gl', gw'⟩ := PR40.out w q; go_simp; try with_reducible rfl)
           refine layy ?_; refine' tkL 11 rfl ?h11_42 ?_
           case h11_42 => (intro w q; obtain ⟨c2', gl', gw'⟩ := PR40.out w q; go_simp; try with_reducible rfl)
           refine layy ?_; refine' tkL 12 rfl ?h12_43 ?_
           case h12_43 => (intro w q; obtain ⟨c2', gl', gw'⟩ := PR40.out w q; go_simp; try with_reducible rfl)
           refine layy ?_; refine' tkL 13 rfl ?h13_44 ?_
           case h13_44 => (intro w q; obtain ⟨c2', gl', gw'⟩ := PR40.out w q; go_simp; try with_reducible rfl)
           refine layy ?_; refine' tkL 14 rfl ?h14_45 ?_
           case h14_45 => (intro w q; obtain ⟨c2', gl', gw'⟩ := PR40.out w q; go_simp; try with_reducible rfl)
           refine layy ?_; refine' tkL 15 rfl ?h15_46 ?_
           case h15_46 => (intro w q; obtain ⟨c2', gl', gw'⟩ := PR40.out w q; go_simp; try with_reducible rfl)
           refine layy ?_; refine' tkL 16 rfl ?h16_47 ?_
           case h16_47 => (intro w q; obtain ⟨c2', gl', gw'⟩ := PR40.out w q; go_simp; try with_reducible rfl)
           refine layy ?_; refine' tkL 17 rfl ?h17_48 ?_
           case h17_48 => (intro w q; obtain ⟨c2', gl', gw'⟩ := PR40.out w q; go_simp; try with_reducible rfl)
           refine layy ?_; refine' tkL 18 rfl ?h18_49 ?_
           case h18_49 => (intro w q; obtain ⟨c2', gl', gw'⟩ := PR40.out w q; go_simp; try with_reducible rfl)
           refine layy ?_; refine' tkL 19 rfl ?h19_50 ?_
           case h19_50 => (intro w q; obtain ⟨c2', gl', gw'⟩ := PR40.out w q; go_simp; try with_reducible rfl)
           refine layy ?_; refine' tkL 20 rfl ?h20_51 ?_
           case h20_51 => (intro w q; obtain ⟨c2', gl', gw'⟩ := PR40.out w q; go_simp; try with_reducible rfl)
           refine layy ?_; refine' tkR 21 (v := undef) rfl (Or.inl (Or.inr ⟨by rfl, rfl⟩)) ?rest21_52; refine layy ?_; refine' tkR 22 (v := undef) rfl (Or.inl (Or.inr ⟨by rfl, rfl⟩)) ?rest22_53; refine layy ?_; refine' tkR 23 (v := undef) rfl (Or.inl (Or.inr ⟨by rfl, rfl⟩)) ?rest23_54; refine layy ?_; refine' tkR 24 (v := undef) rfl (Or.inl (Or.inr ⟨by rfl, rfl⟩)) ?rest24_55; refine layy ?_; refine' tkR 25 (v := undef) rfl (Or.inl (Or.inr ⟨by rfl, rfl⟩)) ?rest25_56; refine layy ?_; refine' tkR 26 (v := undef) rfl (Or.inl (Or.inr ⟨by rfl, rfl⟩)) ?rest26_57; refine layy ?_; refine' tkR 27 (v := undef) rfl (Or.inl (Or.inr ⟨by rfl, rfl⟩)) ?rest27_58; refine layy ?_; refine' tkL 28 rfl ?h28_59 ?_
           case h28_59 => (intro w q; obtain ⟨c2', gl', gw'⟩ := PR40.out w q; go_simp; try with_reducible rfl)
           refine layy ?_; refine' tkL 29 rfl ?h29_60 ?_
           case h29_60 => (intro w q; obtain ⟨c2', gl', gw'⟩ := PR40.out w q; go_simp; try with_reducible rfl)
           refine layy ?_; refine wpAnyR_done (by kernel_rfl) ?_ _; intro x1 _ Ex1; have E3 := Lib.hid (E2.out.trans Ex1); have R3 := Lib.hid (R2.out.ext Ex1); have gl2 := (Ex1.cell hlbb (lo + j)).trans gl; have zl := Nat.lt_of_lt_of_le hlbb Ex1.le; have wsz2 := Nat.le_trans wsz Ex1.le; have RA := Lib.hid (R3.out.ext (Ext.alloc (Ext.refl _) (.cells #[.int .i64 a] 3))); have FL3 := F3.out.len HW.out HT.out; have eF : (Hp.natsI Y2).length = Y2.length := Hp.natsI_len Y2
           go_wp2_with (at_builtin; rw [← Hp.natsI_len Y2]; refine wpList_append_int rfl _ _ rfl (y := (a : Int)) rfl rfl RA.out (by go_simp) (by omega) (by omega) (by omega) (by simp; omega) ?_; intro g8 c8 x8 hR8 hG8; obtain ⟨row, hgr, hrow⟩ := id hG8; have E8 : Ext w1 x8 := ext_grow (E3.out.alloc _) hgr hrow; have R8H := Lib.hid hR8)
           go_roundg (m - (j + 1))
           case measure => omega
           case rel => exact ⟨j + 1, Y2 ++ [a], some ⟨g8, 0, none⟩, c8, by omega, Nat.le_refl _, by simp; omega, by simp [Hp.natsI_len], by go_num, Lib.hid (fun e => by simp at e; omega), F3, Lib.hid (by rw [Hp.natsI_app]; exact R8H.out), Lib.hid E8⟩
         · have t1 : decide (v > 0) = false := decide_eq_false hpos; have t2 : decide (0 < v) = false := decide_eq_false hpos; have HPOS := Lib.hid hpos; clear hpos
           by_cases hkd : Hp.KidOf S Y2 a
           · have F3 := Lib.hid (F2.out.add HW.out HT.out HA.out hnots.out (.inr hkd)); have KID := Lib.hid (fun W (hW : Ext wr W) => rKid (H.out.ext (EW.out.trans hW)) HW.out HY2.out (SR.out.ext hW) (a := a) (b := true) ⟨fun _ => hkd, fun _ => rfl⟩); clear hkd
             go_wp2_with fail
             have PR41 := Lib.hid (fun (ww : World) (hSw : Ext wr ww) => And.intro ((hSw.cell zb 2).trans c2w) (And.intro ((hSw.cell hlbb (lo + j)).trans gl) ((hSw.cell zg (r.go + (a + 2))).trans gw))); refine wp_region_seq (S := fun W => Ext wr W) (R := Ext) (by kernel_rfl) Ext.refl ?_ ?_
             · exact exx
             refine' tkL 0 rfl ?h0_61 ?_
             case h0_61 => (intro w q; obtain ⟨c2', gl', gw'⟩ := PR41.out w q; go_simp; try with_reducible rfl)
             refine layy ?_; refine' tkL 1 rfl ?h1_62 ?_
             case h1_62 => (intro w q; obtain ⟨c2', gl', gw'⟩ := PR41.out w q; go_simp; try with_reducible rfl)
             refine layy ?_; refine' tkL 2 rfl ?h2_63 ?_
             case h2_63 => (intro w q; obtain ⟨c2', gl', gw'⟩ := PR41.out w q; go_simp; try with_reducible rfl)
             refine layy ?_; refine' tkL 3 rfl ?h3_64 ?_
             case h3_64 => (intro w q; obtain ⟨c2', gl', gw'⟩ := PR41.out w q; go_simp; try with_reducible rfl)
             refine layy ?_; refine' tkL 4 rfl ?h4_65 ?_
             case h4_65 => (intro w q; obtain ⟨c2', gl', gw'⟩ := PR41.out w q; go_simp; try with_reducible rfl)
             refine layy ?_; refine' tkR 5 (v := .bool false) rfl (Or.inr ⟨by rfl, 85, _, ?hx5_66, ?hy5_66⟩) ?rest5_66
             case hx5_66 => (intro w hSw; go_simp; try with_reducible rfl)
             case hy5_66 => exact fun w hE => (HAS.out _ hE).mono (fun _ _ h => ⟨h.1, h.2, Ext.trans hE h.2⟩)
             refine layy ?_; refine' tkL 6 rfl ?h6_67 ?_
             case h6_67 => (intro w q; obtain ⟨c2', gl', gw'⟩ := PR41.out w q; go_simp; try with_reducible rfl)
             refine layy ?_; refine' tkL 7 rfl ?h7_68 ?_
             case h7_68 => (intro w q; obtain ⟨c2', gl', gw'⟩ := PR41.out w q; go_simp; try with_reducible rfl)
             refine layy ?_; refine' tkL 8 rfl ?h8_69 ?_
             case h8_69 => (intro w q; obtain ⟨c2', gl', gw'⟩ := PR41.out w q; go_simp; try with_reducible rfl)
             refine layy ?_; refine' tkL 9 rfl ?h9_70 ?_
             case h9_70 => (intro w q; obtain ⟨c2', gl', gw'⟩ := PR41.out w q; go_simp; try with_reducible rfl)
             refine layy ?_; refine' tkL 10 rfl ?h10_71 ?_
             case h10_71 => (intro w q; obtain ⟨c2', gl', gw'⟩ := PR41.out w q; go_simp; try with_reducible rfl)
             refine layy ?_; refine' tkL 11 rfl ?h11_72 ?_
             case h11_72 => (intro w q; obtain ⟨c2', gl', gw'⟩ := PR41.out w q; go_simp; try with_reducible rfl)
             refine layy ?_; refine' tkL 12 rfl ?h12_73 ?_
             case h12_73 => (intro w q; obtain ⟨c2', gl', gw'⟩ := PR41.out w q; go_simp; try with_reducible rfl)
             refine layy ?_; refine' tkL 13 rfl ?h13_74 ?_
             case h13_74 => (intro w q; obtain ⟨c2', gl', gw'⟩ := PR41.out w q; go_simp; try with_reducible rfl)
             refine layy ?_; refine' tkL 14 rfl ?h14_75 ?_
             case h14_75 => (intro w q; obtain ⟨c2', gl', gw'⟩ := PR41.out w q; go_simp; try with_reducible rfl)
             refine layy ?_; refine' tkL 15 rfl ?h15_76 ?_
             case h15_76 => (intro w q; obtain ⟨c2', gl', gw'⟩ := PR41.out w q; go_simp; try with_reducible rfl)
             refine layy ?_; refine' tkL 16 rfl ?h16_77 ?_
             case h16_77 => (intro w q; obtain ⟨c2', gl', gw'⟩ := PR41.out w q; go_simp; try with_reducible rfl)
             refine layy ?_; refine' tkL 17 rfl ?h17_78 ?_
             case h17_78 => (intro w q; obtain ⟨c2', gl', gw'⟩ := PR41.out w q; go_simp; try with_reducible rfl)
             refine layy ?_; refine' tkL 18 rfl ?h18_79 ?_
             case h18_79 => (intro w q; obtain ⟨c2', gl', gw'⟩ := PR41.out w q; go_simp; try with_reducible rfl)
             refine layy ?_; refine' tkL 19 rfl ?h19_80 ?_
             case h19_80 => (intro w q; obtain ⟨c2', gl', gw'⟩ := PR41.out w q; go_simp; try with_reducible rfl)
             refine layy ?_; refine' tkL 20 rfl ?h20_81 ?_
             case h20_81 => (intro w q; obtain ⟨c2', gl', gw'⟩ := PR41.out w q; go_simp; try with_reducible rfl)
             refine layy ?_; refine' tkL 21 rfl ?h21_82 ?_
             case h21_82 => (intro w q; obtain ⟨c2', gl', gw'⟩ := PR41.out w q; go_simp; try with_reducible rfl)
             refine layy ?_; refine' tkL 22 rfl ?h22_83 ?_
             case h22_83 => (intro w q; obtain ⟨c2', gl', gw'⟩ := PR41.out w q; go_simp; try with_reducible rfl)
             refine layy ?_; refine' tkL 23 rfl ?h23_84 ?_
             case h23_84 => (intro w q; obtain ⟨c2', gl', gw'⟩ := PR41.out w q; go_simp; try with_reducible rfl)
             refine layy ?_; refine' tkL 24 rfl ?h24_85 ?_
             case h24_85 => (intro w q; obtain ⟨c2', gl', gw'⟩ := PR41.out w q; go_simp; try with_reducible rfl)
             refine layy ?_; refine' tkL 25 rfl ?h25_86 ?_
             case h25_86 => (intro w q; obtain ⟨c2', gl', gw'⟩ := PR41.out w q; go_simp; try with_reducible rfl)
             refine layy ?_; refine' tkL 26 rfl ?h26_87 ?_
             case h26_87 => (intro w q; obtain ⟨c2', gl', gw'⟩ := PR41.out w q; go_simp; try with_reducible rfl)
             refine layy ?_; refine' tkR 27 (v := .bool true) rfl (Or.inr ⟨by rfl, 140, _, ?hx27_88, ?hy27_88⟩) ?rest27_88
             case hx27_88 => (intro w hSw; go_simp; try with_reducible rfl)
             case hy27_88 => exact fun w hE => (KID.out _ hE).mono (fun _ _ h => ⟨h.1, h.2, Ext.trans hE h.2⟩)
             refine layy ?_; refine' tkL 28 rfl ?h28_89 ?_
             case h28_89 => (intro w q; obtain ⟨c2', gl', gw'⟩ := PR41.out w q; go_simp; try with_reducible rfl)
             refine layy ?_; refine' tkL 29 rfl ?h29_90 ?_
             case h29_90 => (intro w q; obtain ⟨c2', gl', gw'⟩ := PR41.out w q; go_simp; try with_reducible rfl)
             refine layy ?_; refine wpAnyR_done (by kernel_rfl) ?_ _; intro x1 _ Ex1; have E3 := Lib.hid (E2.out.trans Ex1); have R3 := Lib.hid (R2.out.ext Ex1); have gl2 := (Ex1.cell hlbb (lo + j)).trans gl; have zl := Nat.lt_of_lt_of_le hlbb Ex1.le; have wsz2 := Nat.le_trans wsz Ex1.le; have RA := Lib.hid (R3.out.ext (Ext.alloc (Ext.refl _) (.cells #[.int .i64 a] 3))); have FL3 := F3.out.len HW.out HT.out; have eF : (Hp.natsI Y2).length = Y2.length := Hp.natsI_len Y2
             go_wp2_with (at_builtin; rw [← Hp.natsI_len Y2]; refine wpList_append_int rfl _ _ rfl (y := (a : Int)) rfl rfl RA.out (by go_simp) (by omega) (by omega) (by omega) (by simp; omega) ?_; intro g8 c8 x8 hR8 hG8; obtain ⟨row, hgr, hrow⟩ := id hG8; have E8 : Ext w1 x8 := ext_grow (E3.out.alloc _) hgr hrow; have R8H := Lib.hid hR8)
             go_roundg (m - (j + 1))
             case measure => omega
             case rel => exact ⟨j + 1, Y2 ++ [a], some ⟨g8, 0, none⟩, c8, by omega, Nat.le_refl _, by simp; omega, by simp [Hp.natsI_len], by go_num, Lib.hid (fun e => by simp at e; omega), F3, Lib.hid (by rw [Hp.natsI_app]; exact R8H.out), Lib.hid E8⟩
           · have KID := Lib.hid (fun W (hW : Ext wr W) => rKid (H.out.ext (EW.out.trans hW)) HW.out HY2.out (SR.out.ext hW) (a := a) (b := false) ⟨fun e => (by cases e), fun e => absurd e hkd⟩); have S2 : Hid (Y2.length = yl → Hp.ShutTo S Y2 (j + 1)) := Lib.hid (fun e i z hi hz hwz => by
              by_cases e' : i = j
              · subst e'; rw [HAJ.out] at hz
                cases hz
                rcases hwz with q | q
                · rw [HV.out] at q; exact absurd q HPOS.out
                · exact absurd q hkd
              · exact SH.out e i z (by omega) hz hwz)
             clear hkd
             go_wp2_with fail
             have PR42 := Lib.hid (fun (ww : World) (hSw : Ext wr ww) => And.intro ((hSw.cell zb 2).trans c2w) (And.intro ((hSw.cell hlbb (lo + j)).trans gl) ((hSw.cell zg (r.go + (a + 2))).trans gw))); refine wp_region_seq (S := fun W => Ext wr W) (R := Ext) (by kernel_rfl) Ext.refl ?_ ?_
             · exact exx
             refine' tkL 0 rfl ?h0_91 ?_
             case h0_91 => (intro w q; obtain ⟨c2', gl', gw'⟩ := PR42.out w q; go_simp; try with_reducible rfl)
             refine layy ?_; refine' tkL 1 rfl ?h1_92 ?_
             case h1_92 => (intro w q; obtain ⟨c2', gl', gw'⟩ := PR42.out w q; go_simp; try with_reducible rfl)
             refine layy ?_; refine' tkL 2 rfl ?h2_93 ?_
             case h2_93 => (intro w q; obtain ⟨c2', gl', gw'⟩ := PR42.out w q; go_simp; try with_reducible rfl)
             refine layy ?_; refine' tkL 3 rfl ?h3_94 ?_
             case h3_94 => (intro w q; obtain ⟨c2', gl', gw'⟩ := PR42.out w q; go_simp; try with_reducible rfl)
             refine layy ?_; refine' tkL 4 rfl ?h4_95 ?_
             case h4_95 => (intro w q; obtain ⟨c2', gl', gw'⟩ := PR42.out w q; go_simp; try with_reducible rfl)
             refine layy ?_; refine' tkR 5 (v := .bool false) rfl (Or.inr ⟨by rfl, 85, _, ?hx5_96, ?hy5_96⟩) ?rest5_96
             case hx5_96 => (intro w hSw; go_simp; try with_reducible rfl)
             case hy5_96 => exact fun w hE => (HAS.out _ hE).mono (fun _ _ h => ⟨h.1, h.2, Ext.trans hE h.2⟩)
             refine layy ?_; refine' tkL 6 rfl ?h6_97 ?_
             case h6_97 => (intro w q; obtain ⟨c2', gl', gw'⟩ := PR42.out w q; go_simp; try with_reducible rfl)
             refine layy ?_; refine' tkL 7 rfl ?h7_98 ?_
             case h7_98 => (intro w q; obtain ⟨c2', gl', gw'⟩ := PR42.out w q; go_simp; try with_reducible rfl)
             refine layy ?_; refine' tkL 8 rfl ?h8_99 ?_
             case h8_99 => (intro w q; obtain ⟨c2', gl', gw'⟩ := PR42.out w q; go_simp; try with_reducible rfl)
             refine layy ?_; refine' tkL 9 rfl ?h9_100 ?_
             case h9_100 => (intro w q; obtain ⟨c2', gl', gw'⟩ := PR42.out w q; go_simp; try with_reducible rfl)
             refine layy ?_; refine' tkL 10 rfl ?h10_101 ?_
             case h10_101 => (intro w q; obtain ⟨c2', gl', gw'⟩ := PR42.out w q; go_simp; try with_reducible rfl)
             refine layy ?_; refine' tkL 11 rfl ?h11_102 ?_
             case h11_102 => (intro w q; obtain ⟨c2', gl', gw'⟩ := PR42.out w q; go_simp; try with_reducible rfl)
             refine layy ?_; refine' tkL 12 rfl ?h12_103 ?_
             case h12_103 => (intro w q; obtain ⟨c2', gl', gw'⟩ := PR42.out w q; go_simp; try with_reducible rfl)
             refine layy ?_; refine' tkL 13 rfl ?h13_104 ?_
             case h13_104 => (intro w q; obtain ⟨c2', gl', gw'⟩ := PR42.out w q; go_simp; try with_reducible rfl)
             refine layy ?_; refine' tkL 14 rfl ?h14_105 ?_
             case h14_105 => (intro w q; obtain ⟨c2', gl', gw'⟩ := PR42.out w q; go_simp; try with_reducible rfl)
             refine layy ?_; refine' tkL 15 rfl ?h15_106 ?_
             case h15_106 => (intro w q; obtain ⟨c2', gl', gw'⟩ := PR42.out w q; go_simp; try with_reducible rfl)
             refine layy ?_; refine' tkL 16 rfl ?h16_107 ?_
             case h16_107 => (intro w q; obtain ⟨c2', gl', gw'⟩ := PR42.out w q; go_simp; try with_reducible rfl)
             refine layy ?_; refine' tkL 17 rfl ?h17_108 ?_
             case h17_108 => (intro w q; obtain ⟨c2', gl', gw'⟩ := PR42.out w q; go_simp; try with_reducible rfl)
             refine layy ?_; refine' tkL 18 rfl ?h18_109 ?_
             case h18_109 => (intro w q; obtain ⟨c2', gl', gw'⟩ := PR42.out w q; go_simp; try with_reducible rfl)
             refine layy ?_; refine' tkL 19 rfl ?h19_110 ?_
             case h19_110 => (intro w q; obtain ⟨c2', gl', gw'⟩ := PR42.out w q; go_simp; try with_reducible rfl)
             refine layy ?_; refine' tkL 20 rfl ?h20_111 ?_
             case h20_111 => (intro w q; obtain ⟨c2', gl', gw'⟩ := PR42.out w q; go_simp; try with_reducible rfl)
             refine layy ?_; refine' tkL 21 rfl ?h21_112 ?_
             case h21_112 => (intro w q; obtain ⟨c2', gl', gw'⟩ := PR42.out w q; go_simp; try with_reducible rfl)
             refine layy ?_; refine' tkL 22 rfl ?h22_113 ?_
             case h22_113 => (intro w q; obtain ⟨c2', gl', gw'⟩ := PR42.out w q; go_simp; try with_reducible rfl)
             refine layy ?_; refine' tkL 23 rfl ?h23_114 ?_
             case h23_114 => (intro w q; obtain ⟨c2', gl', gw'⟩ := PR42.out w q; go_simp; try with_reducible rfl)
             refine layy ?_; refine' tkL 24 rfl ?h24_115 ?_
             case h24_115 => (intro w q; obtain ⟨c2', gl', gw'⟩ := PR42.out w q; go_simp; try with_reducible rfl)
             refine layy ?_; refine' tkL 25 rfl ?h25_116 ?_
             case h25_116 => (intro w q; obtain ⟨c2', gl', gw'⟩ := PR42.out w q; go_simp; try with_reducible rfl)
             refine layy ?_; refine' tkL 26 rfl ?h26_117 ?_
             case h26_117 => (intro w q; obtain ⟨c2', gl', gw'⟩ := PR42.out w q; go_simp; try with_reducible rfl)
             refine layy ?_; refine' tkR 27 (v := .bool false) rfl (Or.inr ⟨by rfl, 140, _, ?hx27_118, ?hy27_118⟩) ?rest27_118
             case hx27_118 => (intro w hSw; go_simp; try with_reducible rfl)
             case hy27_118 => exact fun w hE => (KID.out _ hE).mono (fun _ _ h => ⟨h.1, h.2, Ext.trans hE h.2⟩)
             refine layy ?_; refine' tkL 28 rfl ?h28_119 ?_
             case h28_119 => (intro w q; obtain ⟨c2', gl', gw'⟩ := PR42.out w q; go_simp; try with_reducible rfl)
             refine layy ?_; refine' tkL 29 rfl ?h29_120 ?_
             case h29_120 => (intro w q; obtain ⟨c2', gl', gw'⟩ := PR42.out w q; go_simp; try with_reducible rfl)
             refine layy ?_; refine wpAnyR_done (by kernel_rfl) ?_ _; intro x1 _ Ex1; have E3 := Lib.hid (E2.out.trans Ex1); have R3 := Lib.hid (R2.out.ext Ex1)
             go_wp2_with fail
             go_roundg (m - (j + 1))
             case measure => omega
             case rel => exact ⟨j + 1, Y2, p3, c3, by omega, Nat.le_refl _, hy2, rfl, by go_num, S2, F2, R3, E3⟩
      · have : j = m := by omega
        subst this; have tk : decide ((j : Int) < (j : Int)) = false := decide_eq_false (by omega)
        go_wp2_with fail
        go_roundg (2 * (j - yl))
        case measure => omega
        case rel => exact ⟨Y2, (yl : Int), p3, c3, by omega, fun q => by omega, by omega, rfl, rfl, Lib.hid (fun e => SH.out (by omega)), F2, R2, E2⟩
   · have tk : decide (k < (yl : Int)) = false := decide_eq_false hkl; have FIN := Lib.hid (F.out.fin HW.out HT.out (by rw [EM.out]; exact SH.out (by rw [EY.out]; omega)))
     go_wp2_with fail
     go_returns; exact ⟨Y, p2, cp2, w1.heap.size, by rw [EY.out]; rfl, E1.out.le, R.out, E1.out.trans E.out, FIN.out.1, FIN.out.2⟩
end Go.Proofs.YtdokmmhjmclmnaaGreat
