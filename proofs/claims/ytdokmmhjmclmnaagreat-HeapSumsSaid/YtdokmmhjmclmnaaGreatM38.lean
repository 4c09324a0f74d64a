/-
  Part 38 of a proof: LH12.
-/
import Derived.Test.YtdokmmhjmclmnaaGreatM22
import Derived.Test.YtdokmmhjmclmnaaGreatM36
set_option linter.unusedSimpArgs false
set_option linter.unusedVariables false
set_option linter.unusedSectionVars false
set_option linter.unnecessarySimpa false
namespace Go.Proofs.YtdokmmhjmclmnaaGreat
open Go.RowKit Go.Maps
set_option maxRecDepth 100000 in
set_option maxHeartbeats 16000000 in
theorem lAdds {w : World} {sp op pa : Option Addr} {sc oc ca na gb go wc : Nat} {d : Hd} {S : Hp.Hs} {B : Nat} {L : List Hp.Tl} {ch : Nat → List Nat} (hs : SliceAt w sp sc S.sizes) (ho : SliceAt w op oc S.order) (hv : SliceAt w (some ⟨gb, go, none⟩) wc S.words) (h : HAt w d S) (hw : Hp.Wf S B L ch) :
    Calls Tryz.prog 50 #[.agg #[.slice sp S.sizes.length sc, .slice op S.order.length oc, .int .i64 S.words.length, .slice pa na ca], .pointer (some ⟨d.hb, 0, none⟩), .slice (some ⟨gb, go, none⟩) S.words.length wc] w fun e w' => e = .returned (.bool true) ∧ Ext w w' := by
  have E0 : Ext w (w.alloc (.cells #[.slice sp S.sizes.length sc, .slice op S.order.length oc, .int .i64 S.words.length, .slice pa na ca] 25)) := Ext.alloc (Ext.refl _) _
  obtain ⟨T, hT, hTl⟩ := Hp.live_le hw
  have ST := Lib.hid (Stats_any (h.ext E0) hT hw.pieces_)
  rw [hw.sums_] at ST
  have hall := hw.all_
  have hfm := Hp.freeMax_le (m := 0) (L := L)
  rw [← Hp.wsum_all] at hall
  have HCL0 := Lib.hid (fun (W : World) (E : Ext (w.alloc (.cells #[.slice sp S.sizes.length sc, .slice op S.order.length oc, .int .i64 S.words.length, .slice pa na ca] 25)) W) => lCells (pa := pa) (ca := ca) (na := na) (n := (S.words.length : Int)) ((hs.ext E0).ext E) ((ho.ext E0).ext E) ((hv.ext E0).ext E) hw)
  have HE0 := Lib.hid E0
  have HH := Lib.hid (h.ext E0)
  have HW := Lib.hid hw
  have HC := Lib.hid (show (w.alloc (.cells #[.slice sp S.sizes.length sc, .slice op S.order.length oc, .int .i64 S.words.length, .slice pa na ca] 25)).cell? ⟨w.heap.size, 0, none⟩ = some (.slice sp S.sizes.length sc) ∧ (w.alloc (.cells #[.slice sp S.sizes.length sc, .slice op S.order.length oc, .int .i64 S.words.length, .slice pa na ca] 25)).cell? ⟨w.heap.size, 1, none⟩ = some (.slice op S.order.length oc) ∧ (w.alloc (.cells #[.slice sp S.sizes.length sc, .slice op S.order.length oc, .int .i64 S.words.length, .slice pa na ca] 25)).cell? ⟨w.heap.size, 2, none⟩ = some (.int .i64 S.words.length) ∧ (w.alloc (.cells #[.slice sp S.sizes.length sc, .slice op S.order.length oc, .int .i64 S.words.length, .slice pa na ca] 25)).cell? ⟨w.heap.size, 3, none⟩ = some (.slice pa na ca) by refine ⟨?_, ?_, ?_, ?_⟩ <;> go_simp)
  have few := hw.few
  have hi := hw.hi
  have lo := hw.lo
  have hcl : (cellsI S).length = S.taken.length := by simp [cellsI]
  clear h hs ho hv hw hT E0
  go_enter Tryz.func50, Tryz.ntmps50
  go_wp2_with fail
  generalize (w.alloc (.cells #[.slice sp S.sizes.length sc, .slice op S.order.length oc, .int .i64 S.words.length, .slice pa na ca] 25)) = w0 at HE0 HC HH HCL0 ST ⊢
  generalize w.heap.size = bx at HC ⊢
  obtain ⟨c0, c1, c2, c3⟩ := HC.out
  have z0 := cell_lt c0
  clear HC
  obtain ⟨m, hm⟩ : ∃ m, S.taken.length = m := ⟨_, rfl⟩
  have HM := Lib.hid hm
  have ws0 : ∀ j, Hp.wsum S j ≤ 100000 := Hp.wsum_le HW.out
  have HWS := Lib.hid ws0
  rw [hm] at few hcl hTl hall ST
  obtain ⟨nw, hnw⟩ : ∃ nw, S.words.length = nw := ⟨_, rfl⟩
  have HNW := Lib.hid hnw
  rw [hnw] at few hi lo hall c2 HCL0
  simp only [hnw]
  generalize T.length = tl at hTl ST
  generalize Hp.freeSum L = fs at hall hfm ST
  generalize Hp.freeMax 0 L = fm at hfm ST
  clear hm hnw ws0
  go_upto_region 2 with (go_at_call 21; refine ST.out.mono ?_; rintro e w1 ⟨rfl, hb1⟩)
  refine cut_world (F := fun W => Ext w1 W ∧ W.cell? ⟨w1.heap.size, 0, none⟩ = some (.int .i64 m) ∧ W.cell? ⟨w1.heap.size, 1, none⟩ = some (.int .i64 tl) ∧ W.cell? ⟨w1.heap.size, 2, none⟩ = some (.int .i64 fs) ∧ W.cell? ⟨w1.heap.size, 3, none⟩ = some (.int .i64 fm)) ⟨exx, by go_simp, by go_simp, by go_simp, by go_simp⟩ ?_
  rintro w2 ⟨E2, t0, t1, t2, t3⟩
  have E02 := hb1.trans E2
  have b0 := (E02.cell z0 0).trans c0
  have b1 := (E02.cell z0 1).trans c1
  have b2 := (E02.cell z0 2).trans c2
  have b3 := (E02.cell z0 3).trans c3
  have CL := Lib.hid (HCL0.out w2 E02)
  go_upto_region 4 with (go_at_call 42; refine CL.out.mono ?_; rintro e w3 ⟨p1, cp, rfl, hR, hb3⟩)
  have LS := Lib.hid hR.at_
  have H3 := Lib.hid (HH.out.ext (E02.trans hb3))
  have HE3 := Lib.hid (E02.trans hb3)
  have zt := cell_lt t0
  have u0 := (hb3.cell zt 0).trans t0
  have u1 := (hb3.cell zt 1).trans t1
  have u2 := (hb3.cell zt 2).trans t2
  have u3 := (hb3.cell zt 3).trans t3
  have y2 := (hb3.cell (cell_lt b2) 2).trans b2
  have zt3 := cell_lt u0
  have zb3 := cell_lt y2
  have HCL := Lib.hid hcl
  generalize w1.heap.size = bt at u0 u1 u2 u3 zt3 ⊢
  clear hR CL b0 b1 b2 b3 t0 t1 t2 t3 zt E2 E02 hb1 hb3 hcl c0 c1 c2 c3 HCL0 ST HH z0
  go_wp2_with fail
  go_loopg [9, 11] m (fun g' s i wr => ∃ j : Nat, j ≤ m ∧ m - j ≤ g' ∧ i = .int .i64 j ∧ s = .int .i64 (Hp.wsum S j : Nat) ∧ Hid (Ext w3 wr))
  case atStart => exact ⟨0, Nat.zero_le _, by omega, rfl, rfl, Lib.hid (Ext.refl _)⟩
  case round =>
   obtain ⟨j, hj, hg, rfl, rfl, E⟩ := hrel
   by_cases hlt : j < m
   · have tk : decide ((j : Int) < (m : Int)) = true := decide_eq_true (by omega)
     obtain ⟨a, ha⟩ : ∃ a, S.taken[j]? = some a := ⟨_, List.getElem?_eq_getElem (by rw [HM.out]; exact hlt)⟩
     have hat := List.mem_of_getElem? ha
     have LS1 := Lib.hid (LS.out.ext E.out)
     obtain ⟨bb, oo, rfl, hbb, -⟩ := LS1.out.cells (by rw [HCL.out]; omega)
     have HA := Lib.hid (cells_at ha)
     have lj := LS1.out.cell_ HA.out
     have lle := LS1.out.le
     have lcap := LS1.out.cap
     have hsu := Hp.wsum_succ ha
     rw [HCL.out] at lle
     have b1 := HWS.out j
     have b2 := HWS.out (j + 1)
     have hwz := Hp.wz_ok HW.out.fr.toFr (HW.out.cells.tags a hat)
     obtain ⟨s, hs⟩ : ∃ s, Hp.wsum S j = s := ⟨_, rfl⟩
     rw [hs] at hsu b1 ⊢
     cases he : Hp.isEnd (Hp.ow S.words a) with
     | true =>
      obtain ⟨f, hf, hf4⟩ : ∃ f : Nat, Hp.ow S.words a = 20 + f ∧ f ≤ 4 := by
       simp only [Hp.isEnd, Hp.within, Bool.and_eq_true, decide_eq_true_eq] at he
       exact ⟨(Hp.ow S.words a - 20).toNat, by omega, by omega⟩
      have AT := Lib.hid (At_end_f (H3.out.ext E.out) HW.out hat hf he)
      obtain ⟨v, hvv⟩ : ∃ v, Hp.ow S.words (a + 4) = v := ⟨_, rfl⟩
      rw [hvv] at AT
      have h5 : Hp.wz S.sizes (Hp.ow S.words a) = 5 := by simp [Hp.wz, he]
      rw [h5] at hsu
      have ws : IntKind.i64.wrap ((s : Int) + 5) = (s : Int) + 5 := IntWalk.i64_in _ (by omega)
      clear hvv he hf h5 hwz ha hat hs
      go_wp2_with (go_at_call 22; refine AT.out.mono ?_; rintro e w4 ⟨rfl, hb4⟩)
      go_roundg (m - (j + 1))
      case measure => omega
      case rel => exact ⟨j + 1, by omega, Nat.le_refl _, by go_num, by rw [hsu]; congr 1, Lib.hid (E.out.trans (exx))⟩
     | false =>
      have AT := Lib.hid (At_node_f (H3.out.ext E.out) HW.out hat he)
      have ht := HW.out.tag_le hat
      have hks : (Hp.fz (Hp.ow S.words) S.sizes a).length = Hp.wz S.sizes (Hp.ow S.words a) - 4 := Hp.fz_length _ _ _
      generalize Hp.wz S.sizes (Hp.ow S.words a) = wd at hsu hks hwz
      obtain ⟨t, htt⟩ : ∃ t, Hp.ow S.words a = t := ⟨_, rfl⟩
      obtain ⟨ks, hkk⟩ : ∃ ks, Hp.fz (Hp.ow S.words) S.sizes a = ks := ⟨_, rfl⟩
      rw [htt, hkk] at AT
      rw [htt] at ht
      rw [hkk] at hks
      obtain ⟨kl, hkl⟩ : ∃ kl, ks.length = kl := ⟨_, rfl⟩
      have HKL := Lib.hid hkl
      rw [hkl] at hks
      have tv : decide (0 ≤ t - 1) = true := decide_eq_true (by omega)
      have ws : IntKind.i64.wrap ((s : Int) + 5) = (s : Int) + 5 := IntWalk.i64_in _ (by omega)
      have k1 : 1 ≤ kl := by omega
      have wl : IntKind.i64.wrap ((kl : Int) - 1) = (kl : Int) - 1 := IntWalk.i64_in _ (by omega)
      have ws2 : IntKind.i64.wrap ((s : Int) + 5 + ((kl : Int) - 1)) = (s : Int) + 5 + ((kl : Int) - 1) := IntWalk.i64_in _ (by omega)
      have HKS := Lib.hid hks
      clear hks
      clear htt hkk he ha hat hs hkl
      go_wp2_with (go_at_call 22; refine AT.out.mono ?_; rintro e w4 ⟨g4, c4, rfl, R4, hb4⟩; simp only [HKL.out])
      go_roundg (m - (j + 1))
      case measure => omega
      case rel => exact ⟨j + 1, by omega, Nat.le_refl _, by go_num, by rw [hsu]; congr 1; have := HKS.out; omega, Lib.hid (E.out.trans (exx))⟩
   · have : j = m := by omega
     subst this
     have tk : decide ((j : Int) < (j : Int)) = false := decide_eq_false (by omega)
     have v0 := (E.out.cell zt3 0).trans u0
     have v1 := (E.out.cell zt3 1).trans u1
     have v2 := (E.out.cell zt3 2).trans u2
     have v3 := (E.out.cell zt3 3).trans u3
     have x2 := (E.out.cell zb3 2).trans y2
     have b1 := HWS.out j
     generalize Hp.wsum S j = s at hall b1 ⊢
     have q1 : decide ((tl : Int) ≤ (j : Int)) = true := decide_eq_true (by omega)
     have q2 : decide ((fm : Int) ≤ (fs : Int)) = true := decide_eq_true (by omega)
     have q1' : decide (tl ≤ j) = true := decide_eq_true (by omega)
     have q2' : decide (fm ≤ fs) = true := decide_eq_true (by omega)
     have ws1 : IntKind.i64.wrap ((s : Int) + (fs : Int)) = (nw : Int) - 17 := by rw [show (s : Int) + (fs : Int) = (nw : Int) - 17 by omega]; exact IntWalk.i64_in _ (by omega)
     have ws2 : IntKind.i64.wrap ((nw : Int) - 17) = (nw : Int) - 17 := IntWalk.i64_in _ (by omega)
     go_wp2_with fail
     go_returns
     exact ⟨rfl, HE0.out.trans (HE3.out.trans E.out)⟩
theorem lWords' {w : World} {sp op pa : Option Addr} {sc oc ca na n : Nat} {z o : List Int} {d : Hd} {S : Hp.Hs} {B : Nat} {L : List Hp.Tl} {ch : Nat → List Nat} (hz : S.sizes = z) (ho' : S.order = o) (hn : S.words.length = n) (hs : SliceAt w sp sc z) (ho : SliceAt w op oc o) (h : HAt w d S) (hw : Hp.Wf S B L ch) :
    Calls Tryz.prog 52 #[.agg #[.slice sp z.length sc, .slice op o.length oc, .int .i64 n, .slice pa na ca], .pointer (some ⟨d.hb, 0, none⟩)] w fun e w' => ∃ g c, e = .returned (.tuple #[.slice (some ⟨g, 0, none⟩) n c, .bool true]) ∧ Row w' w.heap.size (some ⟨g, 0, none⟩) c S.words ∧ Ext w w' := by
  subst hz ho' hn
  exact lWords hs ho h hw
theorem lAdds' {w : World} {sp op pa : Option Addr} {sc oc ca na gb go wc n : Nat} {z o : List Int} {d : Hd} {S : Hp.Hs} {B : Nat} {L : List Hp.Tl} {ch : Nat → List Nat} (hz : S.sizes = z) (ho' : S.order = o) (hn : S.words.length = n) (hs : SliceAt w sp sc z) (ho : SliceAt w op oc o) (hv : SliceAt w (some ⟨gb, go, none⟩) wc S.words) (h : HAt w d S) (hw : Hp.Wf S B L ch) :
    Calls Tryz.prog 50 #[.agg #[.slice sp z.length sc, .slice op o.length oc, .int .i64 n, .slice pa na ca], .pointer (some ⟨d.hb, 0, none⟩), .slice (some ⟨gb, go, none⟩) n wc] w fun e w' => e = .returned (.bool true) ∧ Ext w w' := by
  subst hz ho' hn
  exact lAdds hs ho hv h hw
end Go.Proofs.YtdokmmhjmclmnaaGreat
