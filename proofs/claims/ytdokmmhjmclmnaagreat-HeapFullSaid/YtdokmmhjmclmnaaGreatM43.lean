/-
  Part 43 of a proof: LH14.
-/
import Derived.Test.YtdokmmhjmclmnaaGreatM38
set_option linter.unusedSimpArgs false
set_option linter.unusedVariables false
set_option linter.unusedSectionVars false
set_option linter.unnecessarySimpa false
namespace Go.Proofs.YtdokmmhjmclmnaaGreat
open Go.RowKit Go.Maps
set_option maxRecDepth 100000 in
set_option maxHeartbeats 16000000 in
theorem heapFull {w : World} {sp op pa : Option Addr} {sc oc ca : Nat} {z o : List Int} {n : Int} {acts : List Hp.Act'} {bits : Int} (hbt1 : 0 ≤ bits) (hbt2 : bits ≤ 4294967295) (h : SAt w sp sc op oc pa ca z o acts) :
    Calls Tryz.prog 11 #[.agg #[.slice sp z.length sc, .slice op o.length oc, .int .i64 n, .slice pa acts.length ca], .int .u32 bits] w fun e w' => e = .returned (.bool true) ∧ Ext w w' := by
  have E0 : Ext w (w.alloc (.cells #[.slice sp z.length sc, .slice op o.length oc, .int .i64 n, .slice pa acts.length ca] 25)) := Ext.alloc (Ext.refl _) _
  have H := Lib.hid (h.ext E0)
  have RD := Lib.hid (lReady (n := n) (h.ext E0))
  cases hr : Hp.readyB z o n acts with
  | false =>
   rw [hr] at RD
   clear h hr H
   go_enter Tryz.func11, Tryz.ntmps11
   go_wp2_with (first
    | (go_at_call 40; refine (RD.out).mono ?_; rintro e w1 ⟨rfl, hb1⟩; obtain ⟨hc1, hf1, hs1⟩ := hb1.cells)
    | (go_at_call 15; refine (awake_any _).mono ?_; rintro e w2 ⟨rfl, hb2⟩))
   go_returns
   exact ⟨rfl, (E0.trans hb1).trans hb2⟩
  | true =>
   rw [hr] at RD
   obtain ⟨k, rfl, hrd⟩ := Hp.ready_ok hr
   have HR := Lib.hid hrd
   have HE0 := Lib.hid E0
   have HC := Lib.hid (show (w.alloc (.cells #[.slice sp z.length sc, .slice op o.length oc, .int .i64 k, .slice pa acts.length ca] 25)).cell? ⟨w.heap.size, 0, none⟩ = some (.slice sp z.length sc) ∧ (w.alloc (.cells #[.slice sp z.length sc, .slice op o.length oc, .int .i64 k, .slice pa acts.length ca] 25)).cell? ⟨w.heap.size, 1, none⟩ = some (.slice op o.length oc) ∧ (w.alloc (.cells #[.slice sp z.length sc, .slice op o.length oc, .int .i64 k, .slice pa acts.length ca] 25)).cell? ⟨w.heap.size, 2, none⟩ = some (.int .i64 k) ∧ (w.alloc (.cells #[.slice sp z.length sc, .slice op o.length oc, .int .i64 k, .slice pa acts.length ca] 25)).cell? ⟨w.heap.size, 3, none⟩ = some (.slice pa acts.length ca) by refine ⟨?_, ?_, ?_, ?_⟩ <;> go_simp)
   clear h hr hrd E0
   go_enter Tryz.func11, Tryz.ntmps11
   go_wp2_with fail
   generalize (w.alloc (.cells #[.slice sp z.length sc, .slice op o.length oc, .int .i64 k, .slice pa acts.length ca] 25)) = w0 at H HE0 HC RD ⊢
   generalize w.heap.size = gb at HC ⊢
   obtain ⟨c0, c1, c2, c3⟩ := HC.out
   have z0 := cell_lt c0
   clear HC
   go_upto_region 3 with (go_at_call 40; refine (RD.out).mono ?_; rintro e w1 ⟨rfl, hb1⟩; obtain ⟨hc1, hf1, hs1⟩ := hb1.cells)
   have b0 := (hb1.cell z0 0).trans c0
   have b1 := (hb1.cell z0 1).trans c1
   have b2 := (hb1.cell z0 2).trans c2
   have b3 := (hb1.cell z0 3).trans c3
   have PL := Lib.hid (lPlayed (H.out.ext hb1) HR.out)
   go_upto_region 6 with (go_at_call 41; refine PL.out.mono ?_; rintro e w2 ⟨d, S, g, c, L, ch, rfl, P, hw, rfl, rfl, rfl⟩)
   have E2 := hb1.trans P.ext
   have HP := Lib.hid P
   have HW := Lib.hid hw
   have d0 := (P.ext.cell (Nat.lt_of_lt_of_le z0 hb1.le) 0).trans b0
   have d1 := (P.ext.cell (Nat.lt_of_lt_of_le z0 hb1.le) 1).trans b1
   have d2 := (P.ext.cell (Nat.lt_of_lt_of_le z0 hb1.le) 2).trans b2
   have d3 := (P.ext.cell (Nat.lt_of_lt_of_le z0 hb1.le) 3).trans b3
   have CL := Lib.hid (lCells (pa := pa) (ca := ca) (na := acts.length) (n := (S.words.length : Int)) (H.out.ext E2).sizes (H.out.ext E2).order P.ws hw)
   have hcl : (cellsI S).length = S.taken.length := by simp [cellsI]
   clear P hw PL b0 b1 b2 b3
   go_upto_region 7 with (go_at_call 42; refine CL.out.mono ?_; rintro e w3 ⟨p1, cp, rfl, hR, hb3⟩)
   have LB : Hid (Lb w0 w3 d g c S.words p1 cp (cellsI S)) := Lib.hid ⟨E2.trans hb3, fun b hb => Nat.le_trans hb1.le (HP.out.own b hb), HP.out.ws.ext hb3, HP.out.gown, hR.at_, fun b o e hm => by have := hR.far e; have := HP.out.at_.own_lt b hm; omega⟩
   have HH := Lib.hid (HP.out.at_.ext hb3)
   have O1 := Lib.hid HP.out.o1
   have O2 := Lib.hid HP.out.o2
   clear hR CL d0 d1 d2 d3 HP RD
   obtain ⟨m, hm⟩ : ∃ m, S.taken.length = m := ⟨_, rfl⟩
   have few := HW.out.few
   have hi := HW.out.hi
   have lo := HW.out.lo
   have HM := Lib.hid hm
   rw [hm] at few hcl
   rw [hm]
   have HCL := Lib.hid hcl
   clear hm hcl
   obtain ⟨nw, hnw⟩ : ∃ nw, S.words.length = nw := ⟨_, rfl⟩
   have HNW := Lib.hid hnw
   rw [hnw] at few hi lo c2
   simp only [hnw]
   clear hnw
   go_wp2_with fail
   go_loopg [9] m (fun g' i wr => ∃ (j : Nat) (S' : Hp.Hs), j ≤ m ∧ m - j ≤ g' ∧ i = .int .i64 j ∧ Hid (Now w3 wr d S') ∧ Hid (Hp.HoldOk S S' L ch j))
   case atStart => exact ⟨0, S, Nat.zero_le _, by omega, rfl, Lib.hid (Now.refl HH.out), Lib.hid ⟨HW.out, rfl, rfl, rfl, rfl⟩⟩
   case round =>
    obtain ⟨j, S', hj, hg, rfl, N, K⟩ := hrel
    by_cases hlt : j < m
    · have tk : decide ((j : Int) < (m : Int)) = true := decide_eq_true (by omega)
      obtain ⟨a, ha⟩ : ∃ a, S.taken[j]? = some a := ⟨_, List.getElem?_eq_getElem (by rw [HM.out]; exact hlt)⟩
      have LB1 := Lib.hid (LB.out.but N.out.but)
      obtain ⟨bb, oo, rfl, hbb, -⟩ := LB1.out.ls.cells (by rw [HCL.out]; omega)
      have HA := Lib.hid (cells_at ha)
      have lj := LB1.out.ls.cell_ HA.out
      have lle := LB1.out.ls.le
      have lcap := LB1.out.ls.cap
      have pa' := HW.out.part (List.mem_of_getElem? ha)
      have pa3 : a ≤ 100000 := by have := HNW.out; omega
      have nl : nw ≤ 400 := by have := HR.out.n2; have := HNW.out; omega
      rw [HCL.out] at lle
      obtain ⟨S3, e3, K3'⟩ := K.out.step (by omega) ha
      have K3 := Lib.hid K3'
      have DR := Lib.hid (Hold_any N.out.toHAt e3 (by omega) (by omega))
      clear e3 K3' pa' ha
      go_wp2_with (go_at_call 53; refine DR.out.mono ?_; rintro e w4 ⟨rfl, hA4, hB4⟩)
      · go_roundg (m - (j + 1))
        case measure => omega
        case rel => exact ⟨j + 1, S3, by omega, Nat.le_refl _, by go_num, Lib.hid ⟨hA4, N.out.but.trans hB4⟩, K3⟩
      · go_roundg (m - (j + 1))
        case measure => omega
        case rel => exact ⟨j + 1, S', by omega, Nat.le_refl _, by go_num, N, Lib.hid (K.out.skip (by omega))⟩
    · have : j = m := by omega
      subst this
      have tk : decide ((j : Int) < (j : Int)) = false := decide_eq_false (by omega)
      have LB1 := Lib.hid (LB.out.but N.out.but)
      obtain ⟨l', S1, L1, ch1, hc1, hw1, hone, hlive, hz1, ho1, hn1⟩ := Hp.compact_wf K.out.wf
      have hz2 := hz1.trans K.out.sizes
      have ho2 := ho1.trans K.out.order
      have hn2 := (hn1.trans K.out.len).trans HNW.out
      have CP := Lib.hid (Compact_any N.out.toHAt hc1)
      have HW1 := Lib.hid hw1
      have HO := Lib.hid hone
      have HK1 := Lib.hid (show S1.sizes = S.sizes ∧ S1.order = S.order ∧ S1.words.length = nw from ⟨hz2, ho2, hn2⟩)
      clear hw1 hone hlive hz1 ho1 hn1 hz2 ho2 hn2 hc1
      go_upto_region 13 with (go_at_call 51; refine CP.out.mono ?_; rintro e w4 ⟨g4, p4, c4, rfl, hA4, hB4, hg4, hs4, hf4⟩)
      have E4 := Lib.hid (hB4.toExt LB1.out.ext LB1.out.own)
      have OW4 := Lib.hid (show ∀ b ∈ ({ d with gw := g4, cap := S1.words.length } : Hd).own, w0.heap.size ≤ b from fun b hb => by
       have h1 := LB1.out.own d.hb d.hb_own
       have h2 := LB1.out.own d.gm d.gm_own
       have h3 := LB1.out.ext.le
       simp only [Hd.own, List.mem_cons, List.not_mem_nil, or_false] at hb
       rcases hb with rfl | rfl | rfl <;> omega)
      have H4 := Lib.hid hA4
      obtain ⟨d4, hd4⟩ : ∃ d4 : Hd, d4 = ({ d with gw := g4, cap := S1.words.length } : Hd) := ⟨_, rfl⟩
      have hdb : d.hb = d4.hb := by rw [hd4]
      rw [← hd4] at H4 OW4
      rw [hdb]
      clear hA4 hB4 hs4 hf4 hg4 CP LB1 LB N HH hd4 hdb
      go_wp2_with fail
      go_loopg [12] 100 (fun g' i wr => ∃ (j : Nat) (B' : Nat) (S' : Hp.Hs) (L' : List Hp.Tl) (ch' : Nat → List Nat), j ≤ 100 ∧ 100 - j ≤ g' ∧ i = .int .i64 (5000 + j) ∧ Hid (Now w4 wr d4 S') ∧ Hid (Hp.Wf S' B' L' ch') ∧ Hid (Hp.OneFree L') ∧ Hid (S'.sizes = S.sizes ∧ S'.order = S.order ∧ S'.words.length = nw))
      case atStart => exact ⟨0, _, S1, L1, ch1, Nat.zero_le _, by omega, rfl, Lib.hid (Now.refl H4.out), HW1, HO, HK1⟩
      case round =>
       clear HW1 HO HK1
       obtain ⟨j2, B', S', L', ch', hj2, hg2, rfl, N, HW1, HO, HK1⟩ := hrel
       have EW := Lib.hid (N.out.but.toExt E4.out OW4.out)
       by_cases hlt : j2 < 100
       · have tk : decide ((5000 + j2 : Int) < 5100) = true := decide_eq_true (by omega)
         obtain ⟨T, hT, hTl⟩ := Hp.live_le HW1.out
         have ST := Lib.hid (Stats_any N.out.toHAt hT HW1.out.pieces_)
         rw [HW1.out.sums_] at ST
         have AE := Hp.add_end HW1.out HO.out (n := 5000 + j2) (by omega) (by omega)
         have htn := HW1.out.few
         rw [HK1.out.2.2] at htn
         clear hT
         generalize T.length = tl at hTl ST
         go_upto_region 19 with (go_at_call 21; refine ST.out.mono ?_; rintro e w5 ⟨rfl, hb5⟩)
         refine cut_world (F := fun W => Ext w5 W ∧ W.cell? ⟨w5.heap.size, 0, none⟩ = some (.int .i64 S'.taken.length) ∧ W.cell? ⟨w5.heap.size, 1, none⟩ = some (.int .i64 tl) ∧ W.cell? ⟨w5.heap.size, 2, none⟩ = some (.int .i64 (Hp.freeSum L')) ∧ W.cell? ⟨w5.heap.size, 3, none⟩ = some (.int .i64 (Hp.freeMax 0 L'))) ⟨exx, by go_simp, by go_simp, by go_simp, by go_simp⟩ ?_
         rintro w6 ⟨E56, t0, t1, t2, t3⟩
         have N6 := Lib.hid (N.out.ext (hb5.trans E56))
         have BT := Lib.hid (show w5.heap.size ∉ d4.own from fun hm => by have := N.out.toHAt.own_lt _ hm; have := hb5.le; omega)
         have E6 := Lib.hid (N6.out.but.toExt E4.out OW4.out)
         generalize w5.heap.size = bt at t0 t1 t2 t3 BT ⊢
         have e0 := (E6.out.cell z0 0).trans c0
         have e1 := (E6.out.cell z0 1).trans c1
         have e2 := (E6.out.cell z0 2).trans c2
         have e3 := (E6.out.cell z0 3).trans c3
         have WD := Lib.hid (lWords' (pa := pa) (ca := ca) (na := acts.length) HK1.out.1 HK1.out.2.1 HK1.out.2.2 (H.out.ext E6.out).sizes (H.out.ext E6.out).order N6.out.toHAt HW1.out)
         clear ST hb5 E56
         go_upto_region 20 with (go_at_call 52; refine WD.out.mono ?_; rintro e w7 ⟨g7, c7, rfl, R7, hb7⟩)
         have N7 := Lib.hid (N6.out.ext hb7)
         have GN := Lib.hid (show g7 ∉ d4.own from fun hm => by have := N6.out.toHAt.own_lt _ hm; have := R7.far rfl; omega)
         have X7 := Lib.hid R7.at_
         have s0 := (hb7.cell (cell_lt t0) 0).trans t0
         have s2 := (hb7.cell (cell_lt t0) 2).trans t2
         clear WD R7 t0 t1 t2 t3 e0 e1 e2 e3
         rcases AE with ⟨⟨hf1, hf2⟩, he⟩ | ⟨r, S2, L2, ch2, he, hw2, ho2, hz2, hord2, hl2, hcase⟩
         · have EN := Lib.hid (End_any (f := 0) N7.out.toHAt (by omega) (by omega) (by omega) he)
           have q1 : (((Hp.freeSum L' : Nat) : Int) != 5) = true := by simpa using (show ((Hp.freeSum L' : Nat) : Int) ≠ 5 by omega)
           have q1' : ((Hp.freeSum L' : Nat) != 5) = true := by simpa using hf1
           have q2 : decide (((Hp.freeSum L' : Nat) : Int) < 8) = true := decide_eq_true (by omega)
           have q2' : decide ((Hp.freeSum L' : Nat) < 8) = true := decide_eq_true (by omega)
           generalize Hp.freeSum L' = fs at q1 q1' q2 q2' s2
           clear he hf1 hf2
           go_upto_region 21 with (go_at_call 43; refine EN.out.mono ?_; rintro e w8 ⟨rfl, hN8⟩)
           have N8 := Lib.hid (⟨hN8.toHAt, N7.out.but.trans hN8.but⟩ : Now w4 w8 d4 S')
           have E8 := Lib.hid (N8.out.but.toExt E4.out OW4.out)
           have X8 := Lib.hid (X7.out.but hN8.but (fun b o e => by cases e; exact GN.out))
           have v0 := (hN8.but.cell (cell_lt s0) BT.out 0).trans s0
           have v2 := (hN8.but.cell (cell_lt s0) BT.out 2).trans s2
           have e0 := (E8.out.cell z0 0).trans c0
           have e1 := (E8.out.cell z0 1).trans c1
           have e2 := (E8.out.cell z0 2).trans c2
           have e3 := (E8.out.cell z0 3).trans c3
           have WD := Lib.hid (lWords' (pa := pa) (ca := ca) (na := acts.length) HK1.out.1 HK1.out.2.1 HK1.out.2.2 (H.out.ext E8.out).sizes (H.out.ext E8.out).order N8.out.toHAt HW1.out)
           clear hN8 s0 s2
           go_upto_region 22 with (go_at_call 52; refine WD.out.mono ?_; rintro e w9 ⟨g9, c9, rfl, R9, hb9⟩)
           have X9 := Lib.hid R9.at_
           have y0 := (hb9.cell (cell_lt v0) 0).trans v0
           have y2 := (hb9.cell (cell_lt v0) 2).trans v2
           have SM := Lib.hid (dSame_is (b := true) (decide_eq_true rfl) (X8.out.ext hb9) X9.out)
           rw [HK1.out.2.2] at SM
           clear R9 v0 v2 e0 e1 e2 e3
           go_wp2_with (first
            | (go_at_call 24; refine SM.out.mono ?_; rintro e wa ⟨rfl, hba⟩)
            | (go_at_call 15; refine (awake_any _).mono ?_; rintro e wb ⟨rfl, hbb⟩))
           go_returns
           exact ⟨rfl, HE0.out.trans (((E8.out.trans hb9).trans hba).trans hbb)⟩
         · have EN := Lib.hid (End_any (f := 0) N7.out.toHAt (by omega) (by omega) (by omega) he)
           have HW2 := Lib.hid hw2
           have HO2 := Lib.hid ho2
           have HK2 := Lib.hid (show S2.sizes = S.sizes ∧ S2.order = S.order ∧ S2.words.length = nw from ⟨hz2.trans HK1.out.1, hord2.trans HK1.out.2.1, hl2.trans HK1.out.2.2⟩)
           obtain ⟨T2, hT2, hTl2⟩ := Hp.live_le hw2
           have fw2 := hw2.few
           rw [HK2.out.2.2] at fw2
           clear he hw2 ho2 hz2 hord2 hl2
           go_upto_region 21 with (go_at_call 43; refine EN.out.mono ?_; rintro e w8 ⟨rfl, hN8⟩)
           have N8 := Lib.hid (⟨hN8.toHAt, N7.out.but.trans hN8.but⟩ : Now w4 w8 d4 S2)
           have E8 := Lib.hid (N8.out.but.toExt E4.out OW4.out)
           have v0 := (hN8.but.cell (cell_lt s0) BT.out 0).trans s0
           have v2 := (hN8.but.cell (cell_lt s0) BT.out 2).trans s2
           have e0 := (E8.out.cell z0 0).trans c0
           have e1 := (E8.out.cell z0 1).trans c1
           have e2 := (E8.out.cell z0 2).trans c2
           have e3 := (E8.out.cell z0 3).trans c3
           have WD := Lib.hid (lWords' (pa := pa) (ca := ca) (na := acts.length) HK2.out.1 HK2.out.2.1 HK2.out.2.2 (H.out.ext E8.out).sizes (H.out.ext E8.out).order N8.out.toHAt HW2.out)
           clear hN8 s0 s2
           go_upto_region 22 with (go_at_call 52; refine WD.out.mono ?_; rintro e w9 ⟨g9, c9, rfl, R9, hb9⟩)
           have N9 := Lib.hid (N8.out.ext hb9)
           have y0 := (hb9.cell (cell_lt v0) 0).trans v0
           have y2 := (hb9.cell (cell_lt v0) 2).trans v2
           have ST := Lib.hid (Stats_any N9.out.toHAt hT2 HW2.out.pieces_)
           rw [HW2.out.sums_] at ST
           clear R9 v0 v2 e0 e1 e2 e3 hT2 WD EN
           generalize T2.length = tl2 at hTl2 ST
           go_upto_region 27 with (go_at_call 21; refine ST.out.mono ?_; rintro e wa ⟨rfl, hba⟩)
           refine cut_world (F := fun W => Ext wa W ∧ W.cell? ⟨wa.heap.size, 0, none⟩ = some (.int .i64 S2.taken.length) ∧ W.cell? ⟨wa.heap.size, 2, none⟩ = some (.int .i64 (Hp.freeSum L2))) ⟨exx, by go_simp, by go_simp⟩ ?_
           rintro wb ⟨Eab, u0, u2⟩
           have Nb := Lib.hid (N9.out.ext (hba.trans Eab))
           have Eb := hba.trans Eab
           have yb0 := (Eb.cell (cell_lt y0) 0).trans y0
           have yb2 := (Eb.cell (cell_lt y0) 2).trans y2
           have zu := cell_lt u0
           generalize wa.heap.size = bu at u0 u2 zu ⊢
           clear ST y0 y2 hba Eab Eb
           obtain ⟨tn, htn'⟩ : ∃ tn, S'.taken.length = tn := ⟨_, rfl⟩
           obtain ⟨tn2, htn2⟩ : ∃ tn2, S2.taken.length = tn2 := ⟨_, rfl⟩
           obtain ⟨fs, hfs⟩ : ∃ fs, Hp.freeSum L' = fs := ⟨_, rfl⟩
           obtain ⟨fs2, hfs2⟩ : ∃ fs2, Hp.freeSum L2 = fs2 := ⟨_, rfl⟩
           have HFS := Lib.hid hfs
           have HFS2 := Lib.hid hfs2
           rw [htn'] at yb0 hcase htn
           rw [htn2] at u0 hcase fw2
           rw [hfs] at yb2 hcase
           rw [hfs2] at u2 hcase
           have hfsl : fs ≤ 100000 := by have := HW1.out.all_; rw [HFS.out] at this; have := HK1.out.2.2; omega
           clear htn' htn2 hfs hfs2
           have wt : IntKind.i64.wrap ((tn : Int) + 1) = (tn : Int) + 1 := IntWalk.i64_in _ (by omega)
           have wt2 : IntKind.i64.wrap ((fs : Int) - 5) = (fs : Int) - 5 := IntWalk.i64_in _ (by omega)
           have zt := cell_lt yb0
           by_cases f5 : fs = 5
           · subst f5
             rcases hcase with ⟨rfl, rfl⟩ | ⟨_, rfl, hf⟩
             · have r1 : ((tn2 : Int) == (tn2 : Int) + 1) = false := by simp; omega
               go_wp2_with fail
               go_roundg (100 - (j2 + 1))
               case measure => omega
               case rel => exact ⟨j2 + 1, B', S2, L2, ch2, by omega, Nat.le_refl _, by go_num, Nb, HW2, HO2, HK2⟩
             · have : fs2 = 0 := by omega
               subst this
               have r1 : (((tn + 1 : Nat) : Int) == (tn : Int) + 1) = true := by simp
               clear hf
               go_wp2_with fail
               go_roundg (100 - (j2 + 1))
               case measure => omega
               case rel => exact ⟨j2 + 1, B', S2, L2, ch2, by omega, Nat.le_refl _, by go_num, Nb, HW2, HO2, HK2⟩
           · have q1 : ((fs : Int) != 5) = true := by simp; omega
             rcases hcase with ⟨rfl, rfl⟩ | ⟨h58, rfl, hf⟩
             · have r1 : ((tn2 : Int) == (tn2 : Int) + 1) = false := by simp; omega
               have r2 : ((tn2 : Int) != (tn2 : Int)) = false := by simp
               by_cases f8 : fs2 < 8
               · have q2 : decide ((fs2 : Int) < 8) = true := decide_eq_true (by omega)
                 have q3 : decide (fs2 < 8) = true := decide_eq_true f8
                 go_wp2_with fail
                 go_roundg (100 - (j2 + 1))
                 case measure => omega
                 case rel => exact ⟨j2 + 1, B', S2, L2, ch2, by omega, Nat.le_refl _, by go_num, Nb, HW2, HO2, HK2⟩
               · have q2 : decide ((fs2 : Int) < 8) = false := decide_eq_false (by omega)
                 have q3 : decide (fs2 < 8) = false := decide_eq_false f8
                 go_wp2_with fail
                 go_roundg (100 - (j2 + 1))
                 case measure => omega
                 case rel => exact ⟨j2 + 1, B', S2, L2, ch2, by omega, Nat.le_refl _, by go_num, Nb, HW2, HO2, HK2⟩
             · have q2 : decide ((fs : Int) < 8) = false := decide_eq_false (by omega)
               have q3 : decide (fs < 8) = false := decide_eq_false (by omega)
               have r1 : (((tn + 1 : Nat) : Int) == (tn : Int) + 1) = true := by simp
               have r2 : ((fs2 : Int) != (fs : Int) - 5) = false := by simp; omega
               clear hf h58
               go_wp2_with fail
               go_roundg (100 - (j2 + 1))
               case measure => omega
               case rel => exact ⟨j2 + 1, B', S2, L2, ch2, by omega, Nat.le_refl _, by go_num, Nb, HW2, HO2, HK2⟩
       · have : j2 = 100 := by omega
         subst this
         have tk : decide ((5000 + ((100 : Nat) : Int)) < 5100) = false := decide_eq_false (by omega)
         go_wp2_with (go_at_call 15; refine (awake_any _).mono ?_; rintro e wa ⟨rfl, hba⟩)
         go_returns
         exact ⟨rfl, HE0.out.trans (EW.out.trans hba)⟩
end Go.Proofs.YtdokmmhjmclmnaaGreat
