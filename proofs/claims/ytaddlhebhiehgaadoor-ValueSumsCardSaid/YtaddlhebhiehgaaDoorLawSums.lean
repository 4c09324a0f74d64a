/-
  ValueSums: the walk.
-/
import Derived.Test.YtaddlhebhiehgaaDoorLawKit
namespace Go.Proofs.YtaddlhebhiehgaaDoor.lawSums
open Go.RowKit Go.Shelf

set_option maxRecDepth 100000 in
set_option maxHeartbeats 16000000 in
theorem walkAt (x y z : Int) (hx1 : -32768 ≤ x) (hx2 : x ≤ 32767) (hy1 : -32768 ≤ y) (hy2 : y ≤ 32767) (hz1 : -32768 ≤ z) (hz2 : z ≤ 32767) (w : World) (hg : Glob w) :
    Calls Tryd.prog 9 #[.int .i16 x, .int .i16 y, .int .i16 z] w fun e w' => e = .returned (.bool true) ∧ Ext w w' := by
  obtain ⟨a1, a2⟩ := tmod_bd x
  obtain ⟨b1, b2⟩ := tmod_bd y
  obtain ⟨c1, c2⟩ := tmod_bd z
  obtain ⟨a, ha⟩ : ∃ a, a = x.tmod 10000 := ⟨_, rfl⟩
  obtain ⟨b, hb⟩ : ∃ b, b = y.tmod 10000 := ⟨_, rfl⟩
  obtain ⟨c, hc⟩ : ∃ c, c = z.tmod 10000 := ⟨_, rfl⟩
  rw [← ha] at a1 a2
  rw [← hb] at b1 b2
  rw [← hc] at c1 c2
  have HA := Lib.hid ha.symm
  have HB := Lib.hid hb.symm
  have HC := Lib.hid hc.symm
  clear ha hb hc
  obtain ⟨g1, g2⟩ := mk_cell (a + b)
  obtain ⟨g3, g4⟩ := mk_cell (b + c)
  have hsum := mk_cases (a + b)
  have hpro := mk_cases (a * b)
  have htre := mk_cases (b + c)
  have H1 := fun w' => op2_num7 a b a1 a2 b1 b2 w'
  have H1b := fun w' => op2_num7 b a b1 b2 a1 a2 w'
  rw [Int.add_comm b a] at H1b
  have H2 := fun w' => op2_num9 a b a1 a2 b1 b2 w'
  have H2b := fun w' => op2_num9 b a b1 b2 a1 a2 w'
  rw [Int.mul_comm b a] at H2b
  have H3 := fun w' => op2_num8 a b a1 a2 b1 b2 w'
  have HN := Lib.hid (fun w' => op1_neg b b1 b2 w')
  have H3b := fun w' => op2_num7 a (-b) a1 a2 (by omega) (by omega) w'
  rw [show a + -b = a - b by omega] at H3b
  have H5 := fun w' => op2_num7 b c b1 b2 c1 c2 w'
  obtain ⟨lf, ln, H4, hl⟩ := add_cells (mkF (a + b)) (mkN (a + b)) 0 c g1 (by omega) g2 (cellB_num c c1 c2)
  obtain ⟨rf, rn, H6, hr⟩ := add_cells 0 a (mkF (b + c)) (mkN (b + c)) (by omega) g3 (cellB_num a a1 a2) g4
  have H7 : -9999 ≤ a + b → a + b ≤ 9999 → Hid (∀ w', Calls Tryd.prog 14 #[.int .u8 8, .agg #[.int .u8 0, .int .i64 (a + b)], .agg #[.int .u8 0, .int .i64 b]] w' fun e w'' => e = .returned (.tuple #[.agg #[.int .u8 0, .int .i64 a], .int .i64 0]) ∧ Ext w' w'') := by
    intro h1 h2
    have h := fun w' => op2_num8 (a + b) b h1 h2 b1 b2 w'
    rw [show a + b - b = a by omega, show mkF a = 0 by simp [mkF]; omega, show mkN a = a by simp [mkN]; omega] at h
    exact Lib.hid h
  generalize mkF (a + b) = sf at H1 H1b H4 hl hsum
  generalize mkN (a + b) = sn at H1 H1b H4 hl hsum
  generalize mkF (a * b) = pf at H2 H2b hpro
  generalize mkN (a * b) = pn at H2 H2b hpro
  generalize mkF (a - b) = df at H3 H3b
  generalize mkN (a - b) = dn at H3 H3b
  generalize mkF (b + c) = tf at H5 H6 hr htre
  generalize mkN (b + c) = tn at H5 H6 hr htre
  replace H1 := Lib.hid H1
  replace H1b := Lib.hid H1b
  replace H2 := Lib.hid H2
  replace H2b := Lib.hid H2b
  replace H3 := Lib.hid H3
  replace H3b := Lib.hid H3b
  replace H5 := Lib.hid H5
  replace H7 := Lib.hid H7
  replace hsum := Lib.hid hsum
  replace hpro := Lib.hid hpro
  replace htre := Lib.hid htre
  replace hl := Lib.hid hl
  replace hr := Lib.hid hr
  clear g1 g2 g3 g4
  have tok : True := trivial
  go_enter Tryd.func9, Tryd.ntmps9
  go_upto_region 1 with fail
  go_cut [7, 8, 9, 10] (fun s7 s8 s9 s10 W => ∃ ga gb gc kb : Nat, s7 = .pointer (some ⟨ga, 0, none⟩) ∧ s8 = .pointer (some ⟨gb, 0, none⟩) ∧ s9 = .pointer (some ⟨gc, 0, none⟩) ∧ s10 = .pointer (some ⟨kb, 0, none⟩) ∧ StartAt W kb ga gb gc a b c ∧ Ext w W)
  case first =>
    clear H1 H1b H2 H2b H3 HN H3b H4 H5 H6 H7 hsum hpro htre hl hr
    go_wp2_with (first | (go_at_call 16; rw [HA.out]; refine (num_any _ _).mono ?_; rintro e w1 ⟨rfl, h1⟩) | (go_at_call 16; rw [HB.out]; refine (num_any _ _).mono ?_; rintro e w2 ⟨rfl, h2⟩) | (go_at_call 16; rw [HC.out]; refine (num_any _ _).mono ?_; rintro e w3 ⟨rfl, h3⟩))
    go_meet
    exact ⟨_, _, _, _, rfl, rfl, rfl, rfl, ⟨⟨by simp [go_sem], by simp [go_sem]⟩, ⟨by simp [go_sem], by simp [go_sem]⟩, ⟨by simp [go_sem], by simp [go_sem]⟩, ⟨by simp [go_sem], by simp [go_sem]⟩⟩, (by repeat' (first | (with_reducible exact Ext.refl _) | (with_reducible assumption) | (with_reducible refine Ext.alloc ?_ _) | (with_reducible refine Ext.drew ?_) | (with_reducible refine Ext.drewN ?_ _) | (with_reducible refine Ext.setCell ?_ ?_ _) | (with_reducible refine Ext.trans ?_ (by assumption)) | go_size))⟩
  case rest =>
    obtain ⟨ga, gb, gc, kb, rfl, rfl, rfl, rfl, ST, E0⟩ := hcut
    clear HA HB HC hx1 hx2 hy1 hy2 hz1 hz2
    have hg := Lib.hid (hg.ext E0)
    replace E0 := Lib.hid E0
    replace ST := Lib.hid (fun (W : World) (h : Ext wc W) => ST.ext h)
    obtain ⟨⟨k0, k1⟩, ⟨p0, p1⟩, ⟨q0, q1⟩, ⟨r0, r1⟩⟩ := ST.out _ (Ext.refl _)
    have za := cell_lt p0
    have zb := cell_lt q0
    have zc := cell_lt r0
    have zk := cell_lt k0
    go_wp2_with fail
    refine wp_region_held_drew (S := fun W => Ext wc W) (by kernel_rfl) ?_ (fun hS => ?_)
    · exact (by repeat' (first | (with_reducible exact Ext.refl _) | (with_reducible assumption) | (with_reducible refine Ext.alloc ?_ _) | (with_reducible refine Ext.drew ?_) | (with_reducible refine Ext.drewN ?_ _) | (with_reducible refine Ext.setCell ?_ ?_ _) | (with_reducible refine Ext.trans ?_ (by assumption)) | go_size))
    refine' wpAnyH_take (i := 0) (v := ?v0_1) rfl (by kernel_rfl) (by kernel_rfl) (by kernel_rfl) (fun _ _ _ h => h) (Or.inl ⟨by rfl, ?hy0_1⟩) (by assumption) ?rest0_1
    case hy0_1 => (intro w hSw; (obtain ⟨⟨k0, k1⟩, ⟨p0, p1⟩, ⟨q0, q1⟩, ⟨r0, r1⟩⟩ := ST.out _ hSw); go_simp; (try with_reducible rfl))
    (try simp only [List.getElem_toArray, List.getElem_cons_zero, Act.put, List.setIfInBounds_toArray, List.set_cons_zero, List.set_cons_succ])
    refine' wpAnyH_take (i := 1) (v := ?v1_2) rfl (by kernel_rfl) (by kernel_rfl) (by kernel_rfl) (fun _ _ _ h => h) (Or.inl ⟨by rfl, ?hy1_2⟩) (by assumption) ?rest1_2
    case hy1_2 => (intro w hSw; (obtain ⟨⟨k0, k1⟩, ⟨p0, p1⟩, ⟨q0, q1⟩, ⟨r0, r1⟩⟩ := ST.out _ hSw); go_simp; (try with_reducible rfl))
    (try simp only [List.getElem_toArray, List.getElem_cons_zero, List.getElem_cons_succ, Act.put, List.setIfInBounds_toArray, List.set_cons_zero, List.set_cons_succ])
    refine' wpAnyH_take (i := 2) (v := ?v2_3) rfl (by kernel_rfl) (by kernel_rfl) (by kernel_rfl) (fun _ _ _ h => h) (Or.inl ⟨by rfl, ?hy2_3⟩) (by assumption) ?rest2_3
    case hy2_3 => (intro w hSw; (obtain ⟨⟨k0, k1⟩, ⟨p0, p1⟩, ⟨q0, q1⟩, ⟨r0, r1⟩⟩ := ST.out _ hSw); go_simp; (try with_reducible rfl))
    (try simp only [List.getElem_toArray, List.getElem_cons_zero, List.getElem_cons_succ, Act.put, List.setIfInBounds_toArray, List.set_cons_zero, List.set_cons_succ])
    refine' wpAnyH_take (i := 4) (v := ?v4_4) rfl (by kernel_rfl) (by kernel_rfl) (by kernel_rfl) (fun _ _ _ h => h) (Or.inl ⟨by rfl, ?hy4_4⟩) (by assumption) ?rest4_4
    case hy4_4 => (intro w hSw; (obtain ⟨⟨k0, k1⟩, ⟨p0, p1⟩, ⟨q0, q1⟩, ⟨r0, r1⟩⟩ := ST.out _ hSw); go_simp; (try with_reducible rfl))
    (try simp only [List.getElem_toArray, List.getElem_cons_zero, List.getElem_cons_succ, Act.put, List.setIfInBounds_toArray, List.set_cons_zero, List.set_cons_succ])
    refine' wpAnyH_take (i := 5) (v := ?v5_5) rfl (by kernel_rfl) (by kernel_rfl) (by kernel_rfl) (fun _ _ _ h => h) (Or.inl ⟨by rfl, ?hy5_5⟩) (by assumption) ?rest5_5
    case hy5_5 => (intro w hSw; (obtain ⟨⟨k0, k1⟩, ⟨p0, p1⟩, ⟨q0, q1⟩, ⟨r0, r1⟩⟩ := ST.out _ hSw); go_simp; (try with_reducible rfl))
    (try simp only [List.getElem_toArray, List.getElem_cons_zero, List.getElem_cons_succ, Act.put, List.setIfInBounds_toArray, List.set_cons_zero, List.set_cons_succ])
    refine' wpAnyH_take (i := 6) (v := ?v6_6) rfl (by kernel_rfl) (by kernel_rfl) (by kernel_rfl) (fun _ _ _ h => h) (Or.inl ⟨by rfl, ?hy6_6⟩) (by assumption) ?rest6_6
    case hy6_6 => (intro w hSw; (obtain ⟨⟨k0, k1⟩, ⟨p0, p1⟩, ⟨q0, q1⟩, ⟨r0, r1⟩⟩ := ST.out _ hSw); go_simp; (try with_reducible rfl))
    (try simp only [List.getElem_toArray, List.getElem_cons_zero, List.getElem_cons_succ, Act.put, List.setIfInBounds_toArray, List.set_cons_zero, List.set_cons_succ])
    refine wpAnyH_slots [3, 7, 8, 9, 10, 11] [36, 40, 11, 12] (fun L vs W => ∃ v1 v2 v3 v4 : Value, vs = [v1, v2, v3, v4] ∧ Ext wc W ∧ (L 3 = true → v1 = .agg #[.int .u8 sf, .int .i64 sn]) ∧ (L 7 = true → v2 = .agg #[.int .u8 sf, .int .i64 sn]) ∧ Slot wc W v3 (L 8) (L 10) (sf) (sn) ∧ Slot wc W v4 (L 9) (L 11) (sf) (sn) ∧ (L 8 = true → L 9 = true → v3 ≠ v4)) (by kernel_rfl) (by kernel_rfl) ?h0wd ?hstepswd ?hendwd
    case h0wd => exact ⟨_, _, _, _, rfl, hS, (fun h => by cases h), (fun h => by cases h), ⟨(fun h => by cases h), (fun h => by cases h)⟩, ⟨(fun h => by cases h), (fun h => by cases h)⟩, (fun h => by cases h)⟩
    case hstepswd =>
      refine StepsInv.cons rfl ?_ (StepsInv.cons rfl ?_ (StepsInv.cons rfl ?_ (StepsInv.cons rfl ?_ (StepsInv.cons rfl ?_ (StepsInv.cons rfl ?_ StepsInv.nil)))))
      all_goals (try simp only [List.getElem_toArray, List.getElem_cons_zero, List.getElem_cons_succ])
      all_goals
        rintro L a w ⟨vs, ha, v1, v2, v3, v4, rfl, hE, J1, J2, J3, J4, D0_1⟩ hL hC
        obtain rfl := ha
        intro K' hK
        (try simp only [putAll, Act.put, List.setIfInBounds_toArray, List.set_cons_zero, List.set_cons_succ])
      · skip
        go_simp
        go_at_call 37
        refine (two_any _ 7 0 a 0 b sf sn _ ((ST.out _ hE).1) H1).mono ?_
        rintro e x ⟨rfl, y⟩
        go_wp2_with fail
        exact hK.out _ _ (hE.trans y) ⟨[.agg #[.int .u8 sf, .int .i64 sn], v2, v3, v4], rfl, _, _, _, _, rfl, hE.trans y, fun _ => rfl, J2, J3.ext y, J4.ext y, D0_1⟩
      · skip
        go_simp
        go_at_call 37
        refine (two_any _ 7 0 b 0 a sf sn _ ((ST.out _ hE).1) H1b).mono ?_
        rintro e x ⟨rfl, y⟩
        go_wp2_with fail
        exact hK.out _ _ (hE.trans y) ⟨[v1, .agg #[.int .u8 sf, .int .i64 sn], v3, v4], rfl, _, _, _, _, rfl, hE.trans y, J1, fun _ => rfl, J3.ext y, J4.ext y, D0_1⟩
      · go_simp
        exact hK.out _ _ (hE.alloc _) ⟨[v1, v2, .pointer (some ⟨w.heap.size, 0, none⟩), v4], rfl, _, _, _, _, rfl, hE.alloc _, J1, J2, J3.make _ hE hL rfl rfl, J4.ext (Ext.alloc (Ext.refl _) _), fun _ h => J4.fresh h⟩
      · go_simp
        exact hK.out _ _ (hE.alloc _) ⟨[v1, v2, v3, .pointer (some ⟨w.heap.size, 0, none⟩)], rfl, _, _, _, _, rfl, hE.alloc _, J1, J2, J3.ext (Ext.alloc (Ext.refl _) _), J4.make _ hE hL rfl rfl, fun h _ => (J3.fresh h).symm⟩
      · have ca : L 8 = true := hC ⟨8, .data⟩ (by simp) rfl
        have cc : L 3 = true := hC ⟨3, .data⟩ (by simp) rfl
        obtain ⟨g, x, y, rfl, hg, ho, -⟩ := J3.2 ca
        obtain ⟨⟨d0, d1⟩, f0, f1⟩ := id ho
        obtain rfl := J1 cc
        go_simp
        exact hK.out _ _ (Ext.setCell (Ext.setCell hE hg _) hg _) ⟨[_, v2, _, v4], rfl, _, _, _, _, rfl, Ext.setCell (Ext.setCell hE hg _) hg _, J1, J2, ⟨fun _ => ca, fun _ => ⟨g, _, _, rfl, hg, ho.set, fun _ => ⟨rfl, rfl⟩⟩⟩, J4.far (fun h => D0_1 ca h), D0_1⟩
      · have ca : L 9 = true := hC ⟨9, .data⟩ (by simp) rfl
        have cc : L 7 = true := hC ⟨7, .data⟩ (by simp) rfl
        obtain ⟨g, x, y, rfl, hg, ho, -⟩ := J4.2 ca
        obtain ⟨⟨d0, d1⟩, f0, f1⟩ := id ho
        obtain rfl := J2 cc
        go_simp
        exact hK.out _ _ (Ext.setCell (Ext.setCell hE hg _) hg _) ⟨[v1, _, v3, _], rfl, _, _, _, _, rfl, Ext.setCell (Ext.setCell hE hg _) hg _, J1, J2, J3.far (fun h => (D0_1 h ca).symm), ⟨fun _ => ca, fun _ => ⟨g, _, _, rfl, hg, ho.set, fun _ => ⟨rfl, rfl⟩⟩⟩, D0_1⟩
    rintro L _ wd ⟨v1, v2, v3, v4, rfl, Ewd, J1, J2, J3, J4, D0_1⟩ hall
    obtain rfl := J1 (hall 3 (by simp))
    obtain rfl := J2 (hall 7 (by simp))
    obtain ⟨g11, x1, y1, rfl, -, ⟨B11, -⟩, ho⟩ := J3.2 (hall 8 (by simp))
    rw [(ho (hall 10 (by simp))).1, (ho (hall 10 (by simp))).2] at B11
    clear ho x1 y1
    obtain ⟨g12, x1, y1, rfl, -, ⟨B12, -⟩, ho⟩ := J4.2 (hall 9 (by simp))
    rw [(ho (hall 11 (by simp))).1, (ho (hall 11 (by simp))).2] at B12
    clear ho x1 y1
    clear hall J1 J2 J3 J4 D0_1
    simp only [putAll, Act.put, List.setIfInBounds_toArray, List.set_cons_zero, List.set_cons_succ]
    go_wp2_with fail
    refine wp_region_held_drew (S := fun W => Ext wd W) (by kernel_rfl) ?_ (fun hS => ?_)
    · exact (by repeat' (first | (with_reducible exact Ext.refl _) | (with_reducible assumption) | (with_reducible refine Ext.alloc ?_ _) | (with_reducible refine Ext.drew ?_) | (with_reducible refine Ext.drewN ?_ _) | (with_reducible refine Ext.setCell ?_ ?_ _) | (with_reducible refine Ext.trans ?_ (by assumption)) | go_size))
    refine' wpAnyH_take (i := 0) (v := ?v0_7) rfl (by kernel_rfl) (by kernel_rfl) (by kernel_rfl) (fun _ _ _ h => h) (Or.inl ⟨by rfl, ?hy0_7⟩) (by assumption) ?rest0_7
    case hy0_7 => (intro w hSw; (obtain ⟨⟨k0, k1⟩, ⟨p0, p1⟩, ⟨q0, q1⟩, ⟨r0, r1⟩⟩ := ST.out _ (Ext.trans Ewd hSw)); go_simp; (try with_reducible rfl))
    (try simp only [List.getElem_toArray, List.getElem_cons_zero, Act.put, List.setIfInBounds_toArray, List.set_cons_zero, List.set_cons_succ])
    refine' wpAnyH_take (i := 1) (v := ?v1_8) rfl (by kernel_rfl) (by kernel_rfl) (by kernel_rfl) (fun _ _ _ h => h) (Or.inl ⟨by rfl, ?hy1_8⟩) (by assumption) ?rest1_8
    case hy1_8 => (intro w hSw; (obtain ⟨⟨k0, k1⟩, ⟨p0, p1⟩, ⟨q0, q1⟩, ⟨r0, r1⟩⟩ := ST.out _ (Ext.trans Ewd hSw)); go_simp; (try with_reducible rfl))
    (try simp only [List.getElem_toArray, List.getElem_cons_zero, List.getElem_cons_succ, Act.put, List.setIfInBounds_toArray, List.set_cons_zero, List.set_cons_succ])
    refine' wpAnyH_take (i := 2) (v := ?v2_9) rfl (by kernel_rfl) (by kernel_rfl) (by kernel_rfl) (fun _ _ _ h => h) (Or.inl ⟨by rfl, ?hy2_9⟩) (by assumption) ?rest2_9
    case hy2_9 => (intro w hSw; (obtain ⟨⟨k0, k1⟩, ⟨p0, p1⟩, ⟨q0, q1⟩, ⟨r0, r1⟩⟩ := ST.out _ (Ext.trans Ewd hSw)); go_simp; (try with_reducible rfl))
    (try simp only [List.getElem_toArray, List.getElem_cons_zero, List.getElem_cons_succ, Act.put, List.setIfInBounds_toArray, List.set_cons_zero, List.set_cons_succ])
    refine' wpAnyH_take (i := 4) (v := ?v4_10) rfl (by kernel_rfl) (by kernel_rfl) (by kernel_rfl) (fun _ _ _ h => h) (Or.inl ⟨by rfl, ?hy4_10⟩) (by assumption) ?rest4_10
    case hy4_10 => (intro w hSw; (obtain ⟨⟨k0, k1⟩, ⟨p0, p1⟩, ⟨q0, q1⟩, ⟨r0, r1⟩⟩ := ST.out _ (Ext.trans Ewd hSw)); go_simp; (try with_reducible rfl))
    (try simp only [List.getElem_toArray, List.getElem_cons_zero, List.getElem_cons_succ, Act.put, List.setIfInBounds_toArray, List.set_cons_zero, List.set_cons_succ])
    refine' wpAnyH_take (i := 5) (v := ?v5_11) rfl (by kernel_rfl) (by kernel_rfl) (by kernel_rfl) (fun _ _ _ h => h) (Or.inl ⟨by rfl, ?hy5_11⟩) (by assumption) ?rest5_11
    case hy5_11 => (intro w hSw; (obtain ⟨⟨k0, k1⟩, ⟨p0, p1⟩, ⟨q0, q1⟩, ⟨r0, r1⟩⟩ := ST.out _ (Ext.trans Ewd hSw)); go_simp; (try with_reducible rfl))
    (try simp only [List.getElem_toArray, List.getElem_cons_zero, List.getElem_cons_succ, Act.put, List.setIfInBounds_toArray, List.set_cons_zero, List.set_cons_succ])
    refine' wpAnyH_take (i := 6) (v := ?v6_12) rfl (by kernel_rfl) (by kernel_rfl) (by kernel_rfl) (fun _ _ _ h => h) (Or.inl ⟨by rfl, ?hy6_12⟩) (by assumption) ?rest6_12
    case hy6_12 => (intro w hSw; (obtain ⟨⟨k0, k1⟩, ⟨p0, p1⟩, ⟨q0, q1⟩, ⟨r0, r1⟩⟩ := ST.out _ (Ext.trans Ewd hSw)); go_simp; (try with_reducible rfl))
    (try simp only [List.getElem_toArray, List.getElem_cons_zero, List.getElem_cons_succ, Act.put, List.setIfInBounds_toArray, List.set_cons_zero, List.set_cons_succ])
    refine wpAnyH_slots [3, 7, 8, 9, 10, 11] [44, 48, 13, 14] (fun L vs W => ∃ v1 v2 v3 v4 : Value, vs = [v1, v2, v3, v4] ∧ Ext wd W ∧ (L 3 = true → v1 = .agg #[.int .u8 pf, .int .i64 pn]) ∧ (L 7 = true → v2 = .agg #[.int .u8 pf, .int .i64 pn]) ∧ Slot wd W v3 (L 8) (L 10) (pf) (pn) ∧ Slot wd W v4 (L 9) (L 11) (pf) (pn) ∧ (L 8 = true → L 9 = true → v3 ≠ v4)) (by kernel_rfl) (by kernel_rfl) ?h0we ?hstepswe ?hendwe
    case h0we => exact ⟨_, _, _, _, rfl, hS, (fun h => by cases h), (fun h => by cases h), ⟨(fun h => by cases h), (fun h => by cases h)⟩, ⟨(fun h => by cases h), (fun h => by cases h)⟩, (fun h => by cases h)⟩
    case hstepswe =>
      refine StepsInv.cons rfl ?_ (StepsInv.cons rfl ?_ (StepsInv.cons rfl ?_ (StepsInv.cons rfl ?_ (StepsInv.cons rfl ?_ (StepsInv.cons rfl ?_ StepsInv.nil)))))
      all_goals (try simp only [List.getElem_toArray, List.getElem_cons_zero, List.getElem_cons_succ])
      all_goals
        rintro L a w ⟨vs, ha, v1, v2, v3, v4, rfl, hE, J1, J2, J3, J4, D0_1⟩ hL hC
        obtain rfl := ha
        intro K' hK
        (try simp only [putAll, Act.put, List.setIfInBounds_toArray, List.set_cons_zero, List.set_cons_succ])
      · skip
        go_simp
        go_at_call 37
        refine (two_any _ 9 0 a 0 b pf pn _ ((ST.out _ (Ext.trans Ewd hE)).1) H2).mono ?_
        rintro e x ⟨rfl, y⟩
        go_wp2_with fail
        exact hK.out _ _ (hE.trans y) ⟨[.agg #[.int .u8 pf, .int .i64 pn], v2, v3, v4], rfl, _, _, _, _, rfl, hE.trans y, fun _ => rfl, J2, J3.ext y, J4.ext y, D0_1⟩
      · skip
        go_simp
        go_at_call 37
        refine (two_any _ 9 0 b 0 a pf pn _ ((ST.out _ (Ext.trans Ewd hE)).1) H2b).mono ?_
        rintro e x ⟨rfl, y⟩
        go_wp2_with fail
        exact hK.out _ _ (hE.trans y) ⟨[v1, .agg #[.int .u8 pf, .int .i64 pn], v3, v4], rfl, _, _, _, _, rfl, hE.trans y, J1, fun _ => rfl, J3.ext y, J4.ext y, D0_1⟩
      · go_simp
        exact hK.out _ _ (hE.alloc _) ⟨[v1, v2, .pointer (some ⟨w.heap.size, 0, none⟩), v4], rfl, _, _, _, _, rfl, hE.alloc _, J1, J2, J3.make _ hE hL rfl rfl, J4.ext (Ext.alloc (Ext.refl _) _), fun _ h => J4.fresh h⟩
      · go_simp
        exact hK.out _ _ (hE.alloc _) ⟨[v1, v2, v3, .pointer (some ⟨w.heap.size, 0, none⟩)], rfl, _, _, _, _, rfl, hE.alloc _, J1, J2, J3.ext (Ext.alloc (Ext.refl _) _), J4.make _ hE hL rfl rfl, fun h _ => (J3.fresh h).symm⟩
      · have ca : L 8 = true := hC ⟨8, .data⟩ (by simp) rfl
        have cc : L 3 = true := hC ⟨3, .data⟩ (by simp) rfl
        obtain ⟨g, x, y, rfl, hg, ho, -⟩ := J3.2 ca
        obtain ⟨⟨d0, d1⟩, f0, f1⟩ := id ho
        obtain rfl := J1 cc
        go_simp
        exact hK.out _ _ (Ext.setCell (Ext.setCell hE hg _) hg _) ⟨[_, v2, _, v4], rfl, _, _, _, _, rfl, Ext.setCell (Ext.setCell hE hg _) hg _, J1, J2, ⟨fun _ => ca, fun _ => ⟨g, _, _, rfl, hg, ho.set, fun _ => ⟨rfl, rfl⟩⟩⟩, J4.far (fun h => D0_1 ca h), D0_1⟩
      · have ca : L 9 = true := hC ⟨9, .data⟩ (by simp) rfl
        have cc : L 7 = true := hC ⟨7, .data⟩ (by simp) rfl
        obtain ⟨g, x, y, rfl, hg, ho, -⟩ := J4.2 ca
        obtain ⟨⟨d0, d1⟩, f0, f1⟩ := id ho
        obtain rfl := J2 cc
        go_simp
        exact hK.out _ _ (Ext.setCell (Ext.setCell hE hg _) hg _) ⟨[v1, _, v3, _], rfl, _, _, _, _, rfl, Ext.setCell (Ext.setCell hE hg _) hg _, J1, J2, J3.far (fun h => (D0_1 h ca).symm), ⟨fun _ => ca, fun _ => ⟨g, _, _, rfl, hg, ho.set, fun _ => ⟨rfl, rfl⟩⟩⟩, D0_1⟩
    rintro L _ we ⟨v1, v2, v3, v4, rfl, Ewe, J1, J2, J3, J4, D0_1⟩ hall
    obtain rfl := J1 (hall 3 (by simp))
    obtain rfl := J2 (hall 7 (by simp))
    obtain ⟨g13, x1, y1, rfl, -, ⟨B13, -⟩, ho⟩ := J3.2 (hall 8 (by simp))
    rw [(ho (hall 10 (by simp))).1, (ho (hall 10 (by simp))).2] at B13
    clear ho x1 y1
    obtain ⟨g14, x1, y1, rfl, -, ⟨B14, -⟩, ho⟩ := J4.2 (hall 9 (by simp))
    rw [(ho (hall 11 (by simp))).1, (ho (hall 11 (by simp))).2] at B14
    clear ho x1 y1
    clear hall J1 J2 J3 J4 D0_1
    simp only [putAll, Act.put, List.setIfInBounds_toArray, List.set_cons_zero, List.set_cons_succ]
    go_wp2_with fail
    refine wp_region_held_drew (S := fun W => Ext we W) (by kernel_rfl) ?_ (fun hS => ?_)
    · exact (by repeat' (first | (with_reducible exact Ext.refl _) | (with_reducible assumption) | (with_reducible refine Ext.alloc ?_ _) | (with_reducible refine Ext.drew ?_) | (with_reducible refine Ext.drewN ?_ _) | (with_reducible refine Ext.setCell ?_ ?_ _) | (with_reducible refine Ext.trans ?_ (by assumption)) | go_size))
    refine' wpAnyH_take (i := 0) (v := ?v0_13) rfl (by kernel_rfl) (by kernel_rfl) (by kernel_rfl) (fun _ _ _ h => h) (Or.inl ⟨by rfl, ?hy0_13⟩) (by assumption) ?rest0_13
    case hy0_13 => (intro w hSw; (obtain ⟨⟨k0, k1⟩, ⟨p0, p1⟩, ⟨q0, q1⟩, ⟨r0, r1⟩⟩ := ST.out _ (Ext.trans Ewd (Ext.trans Ewe hSw))); go_simp; (try with_reducible rfl))
    (try simp only [List.getElem_toArray, List.getElem_cons_zero, Act.put, List.setIfInBounds_toArray, List.set_cons_zero, List.set_cons_succ])
    refine' wpAnyH_take (i := 1) (v := ?v1_14) rfl (by kernel_rfl) (by kernel_rfl) (by kernel_rfl) (fun _ _ _ h => h) (Or.inl ⟨by rfl, ?hy1_14⟩) (by assumption) ?rest1_14
    case hy1_14 => (intro w hSw; (obtain ⟨⟨k0, k1⟩, ⟨p0, p1⟩, ⟨q0, q1⟩, ⟨r0, r1⟩⟩ := ST.out _ (Ext.trans Ewd (Ext.trans Ewe hSw))); go_simp; (try with_reducible rfl))
    (try simp only [List.getElem_toArray, List.getElem_cons_zero, List.getElem_cons_succ, Act.put, List.setIfInBounds_toArray, List.set_cons_zero, List.set_cons_succ])
    refine' wpAnyH_take (i := 2) (v := ?v2_15) rfl (by kernel_rfl) (by kernel_rfl) (by kernel_rfl) (fun _ _ _ h => h) (Or.inl ⟨by rfl, ?hy2_15⟩) (by assumption) ?rest2_15
    case hy2_15 => (intro w hSw; (obtain ⟨⟨k0, k1⟩, ⟨p0, p1⟩, ⟨q0, q1⟩, ⟨r0, r1⟩⟩ := ST.out _ (Ext.trans Ewd (Ext.trans Ewe hSw))); go_simp; (try with_reducible rfl))
    (try simp only [List.getElem_toArray, List.getElem_cons_zero, List.getElem_cons_succ, Act.put, List.setIfInBounds_toArray, List.set_cons_zero, List.set_cons_succ])
    refine' wpAnyH_take (i := 4) (v := ?v4_16) rfl (by kernel_rfl) (by kernel_rfl) (by kernel_rfl) (fun _ _ _ h => h) (Or.inl ⟨by rfl, ?hy4_16⟩) (by assumption) ?rest4_16
    case hy4_16 => (intro w hSw; (obtain ⟨⟨k0, k1⟩, ⟨p0, p1⟩, ⟨q0, q1⟩, ⟨r0, r1⟩⟩ := ST.out _ (Ext.trans Ewd (Ext.trans Ewe hSw))); go_simp; (try with_reducible rfl))
    (try simp only [List.getElem_toArray, List.getElem_cons_zero, List.getElem_cons_succ, Act.put, List.setIfInBounds_toArray, List.set_cons_zero, List.set_cons_succ])
    refine' wpAnyH_take (i := 5) (v := ?v5_17) rfl (by kernel_rfl) (by kernel_rfl) (by kernel_rfl) (fun _ _ _ h => h) (Or.inl ⟨by rfl, ?hy5_17⟩) (by assumption) ?rest5_17
    case hy5_17 => (intro w hSw; (obtain ⟨⟨k0, k1⟩, ⟨p0, p1⟩, ⟨q0, q1⟩, ⟨r0, r1⟩⟩ := ST.out _ (Ext.trans Ewd (Ext.trans Ewe hSw))); go_simp; (try with_reducible rfl))
    (try simp only [List.getElem_toArray, List.getElem_cons_zero, List.getElem_cons_succ, Act.put, List.setIfInBounds_toArray, List.set_cons_zero, List.set_cons_succ])
    refine' wpAnyH_take (i := 6) (v := ?v6_18) rfl (by kernel_rfl) (by kernel_rfl) (by kernel_rfl) (fun _ _ _ h => h) (Or.inl ⟨by rfl, ?hy6_18⟩) (by assumption) ?rest6_18
    case hy6_18 => (intro w hSw; (obtain ⟨⟨k0, k1⟩, ⟨p0, p1⟩, ⟨q0, q1⟩, ⟨r0, r1⟩⟩ := ST.out _ (Ext.trans Ewd (Ext.trans Ewe hSw))); go_simp; (try with_reducible rfl))
    (try simp only [List.getElem_toArray, List.getElem_cons_zero, List.getElem_cons_succ, Act.put, List.setIfInBounds_toArray, List.set_cons_zero, List.set_cons_succ])
    refine' wpAnyH_take (i := 7) (v := ?v7_19) rfl (by kernel_rfl) (by kernel_rfl) (by kernel_rfl) (fun _ _ _ h => h) (Or.inl ⟨by rfl, ?hy7_19⟩) (by assumption) ?rest7_19
    case hy7_19 => (intro w hSw; (obtain ⟨⟨k0, k1⟩, ⟨p0, p1⟩, ⟨q0, q1⟩, ⟨r0, r1⟩⟩ := ST.out _ (Ext.trans Ewd (Ext.trans Ewe hSw))); go_simp; (try with_reducible rfl))
    (try simp only [List.getElem_toArray, List.getElem_cons_zero, List.getElem_cons_succ, Act.put, List.setIfInBounds_toArray, List.set_cons_zero, List.set_cons_succ])
    refine wpAnyH_slots [3, 8, 9, 10, 11, 12, 13] [52, 57, 58, 15, 16] (fun L vs W => ∃ v1 v2 v3 v4 v5 : Value, vs = [v1, v2, v3, v4, v5] ∧ Ext we W ∧ (L 3 = true → v1 = .agg #[.int .u8 df, .int .i64 dn]) ∧ (L 8 = true → v2 = .agg #[.int .u8 0, .int .i64 (-b)]) ∧ (L 9 = true → v3 = .agg #[.int .u8 df, .int .i64 dn]) ∧ Slot we W v4 (L 10) (L 12) (df) (dn) ∧ Slot we W v5 (L 11) (L 13) (df) (dn) ∧ (L 10 = true → L 11 = true → v4 ≠ v5)) (by kernel_rfl) (by kernel_rfl) ?h0wf ?hstepswf ?hendwf
    case h0wf => exact ⟨_, _, _, _, _, rfl, hS, (fun h => by cases h), (fun h => by cases h), (fun h => by cases h), ⟨(fun h => by cases h), (fun h => by cases h)⟩, ⟨(fun h => by cases h), (fun h => by cases h)⟩, (fun h => by cases h)⟩
    case hstepswf =>
      refine StepsInv.cons rfl ?_ (StepsInv.cons rfl ?_ (StepsInv.cons rfl ?_ (StepsInv.cons rfl ?_ (StepsInv.cons rfl ?_ (StepsInv.cons rfl ?_ (StepsInv.cons rfl ?_ StepsInv.nil))))))
      all_goals (try simp only [List.getElem_toArray, List.getElem_cons_zero, List.getElem_cons_succ])
      all_goals
        rintro L a w ⟨vs, ha, v1, v2, v3, v4, v5, rfl, hE, J1, J2, J3, J4, J5, D0_1⟩ hL hC
        obtain rfl := ha
        intro K' hK
        (try simp only [putAll, Act.put, List.setIfInBounds_toArray, List.set_cons_zero, List.set_cons_succ])
      · skip
        go_simp
        go_at_call 37
        refine (two_any _ 8 0 a 0 b df dn _ ((ST.out _ (Ext.trans Ewd (Ext.trans Ewe hE))).1) H3).mono ?_
        rintro e x ⟨rfl, y⟩
        go_wp2_with fail
        exact hK.out _ _ (hE.trans y) ⟨[.agg #[.int .u8 df, .int .i64 dn], v2, v3, v4, v5], rfl, _, _, _, _, _, rfl, hE.trans y, fun _ => rfl, J2, J3, J4.ext y, J5.ext y, D0_1⟩
      · skip
        go_simp
        go_at_call 35
        refine (one_any _ 5 0 b 0 (-b) _ ((ST.out _ (Ext.trans Ewd (Ext.trans Ewe hE))).1) HN).mono ?_
        rintro e x ⟨rfl, y⟩
        go_wp2_with fail
        exact hK.out _ _ (hE.trans y) ⟨[v1, .agg #[.int .u8 0, .int .i64 (-b)], v3, v4, v5], rfl, _, _, _, _, _, rfl, hE.trans y, J1, fun _ => rfl, J3, J4.ext y, J5.ext y, D0_1⟩
      · skip
        obtain rfl := J2 (hC ⟨8, .data⟩ (by simp) rfl)
        go_simp
        go_at_call 37
        refine (two_any _ 7 0 a 0 (-b) df dn _ ((ST.out _ (Ext.trans Ewd (Ext.trans Ewe hE))).1) H3b).mono ?_
        rintro e x ⟨rfl, y⟩
        go_wp2_with fail
        exact hK.out _ _ (hE.trans y) ⟨[v1, _, .agg #[.int .u8 df, .int .i64 dn], v4, v5], rfl, _, _, _, _, _, rfl, hE.trans y, J1, fun _ => rfl, fun _ => rfl, J4.ext y, J5.ext y, D0_1⟩
      · go_simp
        exact hK.out _ _ (hE.alloc _) ⟨[v1, v2, v3, .pointer (some ⟨w.heap.size, 0, none⟩), v5], rfl, _, _, _, _, _, rfl, hE.alloc _, J1, J2, J3, J4.make _ hE hL rfl rfl, J5.ext (Ext.alloc (Ext.refl _) _), fun _ h => J5.fresh h⟩
      · go_simp
        exact hK.out _ _ (hE.alloc _) ⟨[v1, v2, v3, v4, .pointer (some ⟨w.heap.size, 0, none⟩)], rfl, _, _, _, _, _, rfl, hE.alloc _, J1, J2, J3, J4.ext (Ext.alloc (Ext.refl _) _), J5.make _ hE hL rfl rfl, fun h _ => (J4.fresh h).symm⟩
      · have ca : L 10 = true := hC ⟨10, .data⟩ (by simp) rfl
        have cc : L 3 = true := hC ⟨3, .data⟩ (by simp) rfl
        obtain ⟨g, x, y, rfl, hg, ho, -⟩ := J4.2 ca
        obtain ⟨⟨d0, d1⟩, f0, f1⟩ := id ho
        obtain rfl := J1 cc
        go_simp
        exact hK.out _ _ (Ext.setCell (Ext.setCell hE hg _) hg _) ⟨[_, v2, v3, _, v5], rfl, _, _, _, _, _, rfl, Ext.setCell (Ext.setCell hE hg _) hg _, J1, J2, J3, ⟨fun _ => ca, fun _ => ⟨g, _, _, rfl, hg, ho.set, fun _ => ⟨rfl, rfl⟩⟩⟩, J5.far (fun h => D0_1 ca h), D0_1⟩
      · have ca : L 11 = true := hC ⟨11, .data⟩ (by simp) rfl
        have cc : L 9 = true := hC ⟨9, .data⟩ (by simp) rfl
        obtain ⟨g, x, y, rfl, hg, ho, -⟩ := J5.2 ca
        obtain ⟨⟨d0, d1⟩, f0, f1⟩ := id ho
        obtain rfl := J3 cc
        go_simp
        exact hK.out _ _ (Ext.setCell (Ext.setCell hE hg _) hg _) ⟨[v1, v2, _, v4, _], rfl, _, _, _, _, _, rfl, Ext.setCell (Ext.setCell hE hg _) hg _, J1, J2, J3, J4.far (fun h => (D0_1 h ca).symm), ⟨fun _ => ca, fun _ => ⟨g, _, _, rfl, hg, ho.set, fun _ => ⟨rfl, rfl⟩⟩⟩, D0_1⟩
    rintro L _ wf ⟨v1, v2, v3, v4, v5, rfl, Ewf, J1, J2, J3, J4, J5, D0_1⟩ hall
    obtain rfl := J1 (hall 3 (by simp))
    obtain rfl := J2 (hall 8 (by simp))
    obtain rfl := J3 (hall 9 (by simp))
    obtain ⟨g15, x1, y1, rfl, -, ⟨B15, -⟩, ho⟩ := J4.2 (hall 10 (by simp))
    rw [(ho (hall 12 (by simp))).1, (ho (hall 12 (by simp))).2] at B15
    clear ho x1 y1
    obtain ⟨g16, x1, y1, rfl, -, ⟨B16, -⟩, ho⟩ := J5.2 (hall 11 (by simp))
    rw [(ho (hall 13 (by simp))).1, (ho (hall 13 (by simp))).2] at B16
    clear ho x1 y1
    clear hall J1 J2 J3 J4 J5 D0_1
    simp only [putAll, Act.put, List.setIfInBounds_toArray, List.set_cons_zero, List.set_cons_succ]
    have X1 : Ext wd wf := Ext.trans Ewe Ewf
    have X0 : Ext wc wf := Ext.trans Ewd X1
    obtain ⟨⟨k0, k1⟩, ⟨p0, p1⟩, ⟨q0, q1⟩, ⟨r0, r1⟩⟩ := ST.out _ X0
    obtain ⟨b1, b2⟩ := B11.ext X1
    obtain ⟨b3, b4⟩ := B12.ext X1
    obtain ⟨b5, b6⟩ := B13.ext Ewf
    obtain ⟨b7, b8⟩ := B14.ext Ewf
    obtain ⟨b9, b10⟩ := B15
    obtain ⟨b11, b12⟩ := B16
    go_wp2_with fail
    clear k0 k1 p0 p1 q0 q1 r0 r1 b1 b2 b3 b4 b5 b6 b7 b8 b9 b10 b11 b12
    refine wp_region_held_drew (S := fun W => Ext wf W) (by kernel_rfl) ?_ (fun hS => ?_)
    · exact (by repeat' (first | (with_reducible exact Ext.refl _) | (with_reducible assumption) | (with_reducible refine Ext.alloc ?_ _) | (with_reducible refine Ext.drew ?_) | (with_reducible refine Ext.drewN ?_ _) | (with_reducible refine Ext.setCell ?_ ?_ _) | (with_reducible refine Ext.trans ?_ (by assumption)) | go_size))
    refine' wpAnyH_take (i := 0) (v := ?v0_20) rfl (by kernel_rfl) (by kernel_rfl) (by kernel_rfl) (fun _ _ _ h => h) (Or.inl ⟨by rfl, ?hy0_20⟩) (by assumption) ?rest0_20
    case hy0_20 => (intro w hSw; (obtain ⟨⟨k0, k1⟩, ⟨p0, p1⟩, ⟨q0, q1⟩, ⟨r0, r1⟩⟩ := ST.out _ (Ext.trans X0 hSw); obtain ⟨b1, b2⟩ := B11.ext (Ext.trans X1 hSw)); go_simp; (try with_reducible rfl))
    (try simp only [List.getElem_toArray, List.getElem_cons_zero, Act.put, List.setIfInBounds_toArray, List.set_cons_zero, List.set_cons_succ])
    refine' wpAnyH_take (i := 1) (v := ?v1_21) rfl (by kernel_rfl) (by kernel_rfl) (by kernel_rfl) (fun _ _ _ h => h) (Or.inl ⟨by rfl, ?hy1_21⟩) (by assumption) ?rest1_21
    case hy1_21 => (intro w hSw; (obtain ⟨⟨k0, k1⟩, ⟨p0, p1⟩, ⟨q0, q1⟩, ⟨r0, r1⟩⟩ := ST.out _ (Ext.trans X0 hSw); obtain ⟨b1, b2⟩ := B11.ext (Ext.trans X1 hSw)); go_simp; (try with_reducible rfl))
    (try simp only [List.getElem_toArray, List.getElem_cons_zero, List.getElem_cons_succ, Act.put, List.setIfInBounds_toArray, List.set_cons_zero, List.set_cons_succ])
    refine' wpAnyH_take (i := 2) (v := ?v2_22) rfl (by kernel_rfl) (by kernel_rfl) (by kernel_rfl) (fun _ _ _ h => h) (Or.inl ⟨by rfl, ?hy2_22⟩) (by assumption) ?rest2_22
    case hy2_22 => (intro w hSw; (obtain ⟨⟨k0, k1⟩, ⟨p0, p1⟩, ⟨q0, q1⟩, ⟨r0, r1⟩⟩ := ST.out _ (Ext.trans X0 hSw); obtain ⟨b1, b2⟩ := B11.ext (Ext.trans X1 hSw)); go_simp; (try with_reducible rfl))
    (try simp only [List.getElem_toArray, List.getElem_cons_zero, List.getElem_cons_succ, Act.put, List.setIfInBounds_toArray, List.set_cons_zero, List.set_cons_succ])
    refine' wpAnyH_take (i := 4) (v := ?v4_23) rfl (by kernel_rfl) (by kernel_rfl) (by kernel_rfl) (fun _ _ _ h => h) (Or.inl ⟨by rfl, ?hy4_23⟩) (by assumption) ?rest4_23
    case hy4_23 => (intro w hSw; (obtain ⟨⟨k0, k1⟩, ⟨p0, p1⟩, ⟨q0, q1⟩, ⟨r0, r1⟩⟩ := ST.out _ (Ext.trans X0 hSw); obtain ⟨b1, b2⟩ := B11.ext (Ext.trans X1 hSw)); go_simp; (try with_reducible rfl))
    (try simp only [List.getElem_toArray, List.getElem_cons_zero, List.getElem_cons_succ, Act.put, List.setIfInBounds_toArray, List.set_cons_zero, List.set_cons_succ])
    refine' wpAnyH_take (i := 5) (v := ?v5_24) rfl (by kernel_rfl) (by kernel_rfl) (by kernel_rfl) (fun _ _ _ h => h) (Or.inl ⟨by rfl, ?hy5_24⟩) (by assumption) ?rest5_24
    case hy5_24 => (intro w hSw; (obtain ⟨⟨k0, k1⟩, ⟨p0, p1⟩, ⟨q0, q1⟩, ⟨r0, r1⟩⟩ := ST.out _ (Ext.trans X0 hSw); obtain ⟨b1, b2⟩ := B11.ext (Ext.trans X1 hSw)); go_simp; (try with_reducible rfl))
    (try simp only [List.getElem_toArray, List.getElem_cons_zero, List.getElem_cons_succ, Act.put, List.setIfInBounds_toArray, List.set_cons_zero, List.set_cons_succ])
    refine' wpAnyH_take (i := 6) (v := ?v6_25) rfl (by kernel_rfl) (by kernel_rfl) (by kernel_rfl) (fun _ _ _ h => h) (Or.inl ⟨by rfl, ?hy6_25⟩) (by assumption) ?rest6_25
    case hy6_25 => (intro w hSw; (obtain ⟨⟨k0, k1⟩, ⟨p0, p1⟩, ⟨q0, q1⟩, ⟨r0, r1⟩⟩ := ST.out _ (Ext.trans X0 hSw); obtain ⟨b1, b2⟩ := B11.ext (Ext.trans X1 hSw)); go_simp; (try with_reducible rfl))
    (try simp only [List.getElem_toArray, List.getElem_cons_zero, List.getElem_cons_succ, Act.put, List.setIfInBounds_toArray, List.set_cons_zero, List.set_cons_succ])
    refine' wpAnyH_take (i := 7) (v := ?v7_26) rfl (by kernel_rfl) (by kernel_rfl) (by kernel_rfl) (fun _ _ _ h => h) (Or.inl ⟨by rfl, ?hy7_26⟩) (by assumption) ?rest7_26
    case hy7_26 => (intro w hSw; (obtain ⟨⟨k0, k1⟩, ⟨p0, p1⟩, ⟨q0, q1⟩, ⟨r0, r1⟩⟩ := ST.out _ (Ext.trans X0 hSw); obtain ⟨b1, b2⟩ := B11.ext (Ext.trans X1 hSw)); go_simp; (try with_reducible rfl))
    (try simp only [List.getElem_toArray, List.getElem_cons_zero, List.getElem_cons_succ, Act.put, List.setIfInBounds_toArray, List.set_cons_zero, List.set_cons_succ])
    refine' wpAnyH_take (i := 8) (v := ?v8_27) rfl (by kernel_rfl) (by kernel_rfl) (by kernel_rfl) (fun _ _ _ h => h) (Or.inl ⟨by rfl, ?hy8_27⟩) (by assumption) ?rest8_27
    case hy8_27 => (intro w hSw; (obtain ⟨⟨k0, k1⟩, ⟨p0, p1⟩, ⟨q0, q1⟩, ⟨r0, r1⟩⟩ := ST.out _ (Ext.trans X0 hSw); obtain ⟨b1, b2⟩ := B11.ext (Ext.trans X1 hSw)); go_simp; (try with_reducible rfl))
    (try simp only [List.getElem_toArray, List.getElem_cons_zero, List.getElem_cons_succ, Act.put, List.setIfInBounds_toArray, List.set_cons_zero, List.set_cons_succ])
    refine wpAnyH_slots [3, 9, 10, 11, 12, 13, 14] [81, 87, 88, 17, 18] (fun L vs W => ∃ v1 v2 v3 v4 v5 : Value, vs = [v1, v2, v3, v4, v5] ∧ Ext wf W ∧ (L 3 = true → v1 = .agg #[.int .u8 lf, .int .i64 ln]) ∧ (L 9 = true → v2 = .agg #[.int .u8 tf, .int .i64 tn]) ∧ (L 10 = true → v3 = .agg #[.int .u8 rf, .int .i64 rn]) ∧ Slot wf W v4 (L 11) (L 13) (lf) (ln) ∧ Slot wf W v5 (L 12) (L 14) (rf) (rn) ∧ (L 11 = true → L 12 = true → v4 ≠ v5)) (by kernel_rfl) (by kernel_rfl) ?h0wg ?hstepswg ?hendwg
    case h0wg => exact ⟨_, _, _, _, _, rfl, hS, (fun h => by cases h), (fun h => by cases h), (fun h => by cases h), ⟨(fun h => by cases h), (fun h => by cases h)⟩, ⟨(fun h => by cases h), (fun h => by cases h)⟩, (fun h => by cases h)⟩
    case hstepswg =>
      refine StepsInv.cons rfl ?_ (StepsInv.cons rfl ?_ (StepsInv.cons rfl ?_ (StepsInv.cons rfl ?_ (StepsInv.cons rfl ?_ (StepsInv.cons rfl ?_ (StepsInv.cons rfl ?_ StepsInv.nil))))))
      all_goals (try simp only [List.getElem_toArray, List.getElem_cons_zero, List.getElem_cons_succ])
      all_goals
        rintro L a w ⟨vs, ha, v1, v2, v3, v4, v5, rfl, hE, J1, J2, J3, J4, J5, D0_1⟩ hL hC
        obtain rfl := ha
        intro K' hK
        (try simp only [putAll, Act.put, List.setIfInBounds_toArray, List.set_cons_zero, List.set_cons_succ])
      · skip
        go_simp
        go_at_call 37
        refine (two_any _ 7 sf sn 0 c lf ln _ ((ST.out _ (Ext.trans X0 hE)).1) H4).mono ?_
        rintro e x ⟨rfl, y⟩
        go_wp2_with fail
        exact hK.out _ _ (hE.trans y) ⟨[.agg #[.int .u8 lf, .int .i64 ln], v2, v3, v4, v5], rfl, _, _, _, _, _, rfl, hE.trans y, fun _ => rfl, J2, J3, J4.ext y, J5.ext y, D0_1⟩
      · skip
        go_simp
        go_at_call 37
        refine (two_any _ 7 0 b 0 c tf tn _ ((ST.out _ (Ext.trans X0 hE)).1) H5).mono ?_
        rintro e x ⟨rfl, y⟩
        go_wp2_with fail
        exact hK.out _ _ (hE.trans y) ⟨[v1, .agg #[.int .u8 tf, .int .i64 tn], v3, v4, v5], rfl, _, _, _, _, _, rfl, hE.trans y, J1, fun _ => rfl, J3, J4.ext y, J5.ext y, D0_1⟩
      · skip
        obtain rfl := J2 (hC ⟨9, .data⟩ (by simp) rfl)
        go_simp
        go_at_call 37
        refine (two_any _ 7 0 a tf tn rf rn _ ((ST.out _ (Ext.trans X0 hE)).1) H6).mono ?_
        rintro e x ⟨rfl, y⟩
        go_wp2_with fail
        exact hK.out _ _ (hE.trans y) ⟨[v1, _, .agg #[.int .u8 rf, .int .i64 rn], v4, v5], rfl, _, _, _, _, _, rfl, hE.trans y, J1, fun _ => rfl, fun _ => rfl, J4.ext y, J5.ext y, D0_1⟩
      · go_simp
        exact hK.out _ _ (hE.alloc _) ⟨[v1, v2, v3, .pointer (some ⟨w.heap.size, 0, none⟩), v5], rfl, _, _, _, _, _, rfl, hE.alloc _, J1, J2, J3, J4.make _ hE hL rfl rfl, J5.ext (Ext.alloc (Ext.refl _) _), fun _ h => J5.fresh h⟩
      · go_simp
        exact hK.out _ _ (hE.alloc _) ⟨[v1, v2, v3, v4, .pointer (some ⟨w.heap.size, 0, none⟩)], rfl, _, _, _, _, _, rfl, hE.alloc _, J1, J2, J3, J4.ext (Ext.alloc (Ext.refl _) _), J5.make _ hE hL rfl rfl, fun h _ => (J4.fresh h).symm⟩
      · have ca : L 11 = true := hC ⟨11, .data⟩ (by simp) rfl
        have cc : L 3 = true := hC ⟨3, .data⟩ (by simp) rfl
        obtain ⟨g, x, y, rfl, hg, ho, -⟩ := J4.2 ca
        obtain ⟨⟨d0, d1⟩, f0, f1⟩ := id ho
        obtain rfl := J1 cc
        go_simp
        exact hK.out _ _ (Ext.setCell (Ext.setCell hE hg _) hg _) ⟨[_, v2, v3, _, v5], rfl, _, _, _, _, _, rfl, Ext.setCell (Ext.setCell hE hg _) hg _, J1, J2, J3, ⟨fun _ => ca, fun _ => ⟨g, _, _, rfl, hg, ho.set, fun _ => ⟨rfl, rfl⟩⟩⟩, J5.far (fun h => D0_1 ca h), D0_1⟩
      · have ca : L 12 = true := hC ⟨12, .data⟩ (by simp) rfl
        have cc : L 10 = true := hC ⟨10, .data⟩ (by simp) rfl
        obtain ⟨g, x, y, rfl, hg, ho, -⟩ := J5.2 ca
        obtain ⟨⟨d0, d1⟩, f0, f1⟩ := id ho
        obtain rfl := J3 cc
        go_simp
        exact hK.out _ _ (Ext.setCell (Ext.setCell hE hg _) hg _) ⟨[v1, v2, _, v4, _], rfl, _, _, _, _, _, rfl, Ext.setCell (Ext.setCell hE hg _) hg _, J1, J2, J3, J4.far (fun h => (D0_1 h ca).symm), ⟨fun _ => ca, fun _ => ⟨g, _, _, rfl, hg, ho.set, fun _ => ⟨rfl, rfl⟩⟩⟩, D0_1⟩
    rintro L _ wg ⟨v1, v2, v3, v4, v5, rfl, Ewg, J1, J2, J3, J4, J5, D0_1⟩ hall
    obtain rfl := J1 (hall 3 (by simp))
    obtain rfl := J2 (hall 9 (by simp))
    obtain rfl := J3 (hall 10 (by simp))
    obtain ⟨g17, x1, y1, rfl, -, ⟨B17, -⟩, ho⟩ := J4.2 (hall 11 (by simp))
    rw [(ho (hall 13 (by simp))).1, (ho (hall 13 (by simp))).2] at B17
    clear ho x1 y1
    obtain ⟨g18, x1, y1, rfl, -, ⟨B18, -⟩, ho⟩ := J5.2 (hall 12 (by simp))
    rw [(ho (hall 14 (by simp))).1, (ho (hall 14 (by simp))).2] at B18
    clear ho x1 y1
    clear hall J1 J2 J3 J4 J5 D0_1
    simp only [putAll, Act.put, List.setIfInBounds_toArray, List.set_cons_zero, List.set_cons_succ]
    have X3 : Ext wd wg := Ext.trans X1 Ewg
    have X2 : Ext wc wg := Ext.trans X0 Ewg
    have A11 := B11.ext X3
    have A13 := B13.ext (Ext.trans Ewf Ewg)
    clear B11 B12 B13 B14 H1 H1b H2 H2b H3 HN H3b H4 H5 H6 X0 X1 X3 Ewd Ewe Ewf Ewg
    obtain ⟨k0, k1⟩ := (ST.out _ X2).1
    have hlr : (lf == 0) = false ∨ ((lf == 0) = true ∧ (rf == 0) = false) ∨ (lf = 0 ∧ rf = 0 ∧ ln = rn) := by
      by_cases h1 : lf = 0
      · by_cases h2 : rf = 0
        · refine .inr (.inr ⟨h1, h2, ?_⟩)
          obtain ⟨h3, -, h4⟩ := hl.out h1
          obtain ⟨-, h5, h6⟩ := hr.out h2
          have hs := hsum.out
          have ht := htre.out
          omega
        · exact .inr (.inl ⟨by simp [h1], by simp [h2]⟩)
      · exact .inl (by simp [h1])
    clear hl hr htre
    go_upto_region 8 with fail
    go_cut [101] (fun s101 W => s101 = .bool false ∧ W = wg)
    case first =>
      clear hsum hpro H7
      obtain ⟨c1, c2⟩ := B17
      obtain ⟨c3, c4⟩ := B18
      rcases hlr with hlr | ⟨hlr, hlr2⟩ | ⟨rfl, rfl, rfl⟩
      all_goals
        go_wp2_with fail
        go_meet
        exact ⟨rfl, rfl⟩
    case rest =>
      obtain ⟨rfl, rfl⟩ := hcut
      clear hlr B17 B18
      go_upto_region 10 with fail
      rcases hsum.out with hs | hs
      · rcases hpro.out with hp | hp
        · clear hsum hpro
          obtain ⟨rfl, rfl, n1, n2⟩ := hs
          have hab : IntKind.i64.wrap (a + b) = a + b := IntWalk.i64_in _ (by omega)
          have H7 := H7.out n1 n2
          obtain ⟨rfl, rfl, m1, m2⟩ := hp
          have hw : IntKind.i64.wrap (a * b) = a * b := IntWalk.i64_in _ (by omega)
          generalize hpq : a * b = p at hw A13
          have hw2 : IntKind.i64.wrap (a * b) = p := by rw [hpq]; exact hw
          clear hw m1 m2 hpq
          refine wp_region_seq (S := fun W => Ext wc W) (R := Ext) (by kernel_rfl) Ext.refl ?_ ?_
          · exact (by repeat' (first | (with_reducible exact Ext.refl _) | (with_reducible assumption) | (with_reducible refine Ext.alloc ?_ _) | (with_reducible refine Ext.drew ?_) | (with_reducible refine Ext.drewN ?_ _) | (with_reducible refine Ext.setCell ?_ ?_ _) | (with_reducible refine Ext.trans ?_ (by assumption)) | go_size))
          refine' wpAnyR_take (i := 0) (v := ?v0_28) Ext.refl (fun _ _ _ => Ext.trans) rfl (by kernel_rfl) (by kernel_rfl) (by kernel_rfl) (fun _ _ _ h => h) (Or.inl (Or.inl ⟨by rfl, ?hy0_28⟩)) ?rest0_28
          case hy0_28 => (intro w hSw; (obtain ⟨⟨k0, k1⟩, ⟨p0, p1⟩, ⟨q0, q1⟩, ⟨r0, r1⟩⟩ := ST.out _ (Ext.trans X2 hSw); obtain ⟨c5, c6⟩ := A11.ext hSw; obtain ⟨c7, c8⟩ := A13.ext hSw); go_simp; (try with_reducible rfl))
          (try simp only [List.getElem_toArray, List.getElem_cons_zero, Act.put, List.setIfInBounds_toArray, List.set_cons_zero, List.set_cons_succ])
          refine' wpAnyR_take (i := 1) (v := ?v1_29) Ext.refl (fun _ _ _ => Ext.trans) rfl (by kernel_rfl) (by kernel_rfl) (by kernel_rfl) (fun _ _ _ h => h) (Or.inl (Or.inl ⟨by rfl, ?hy1_29⟩)) ?rest1_29
          case hy1_29 => (intro w hSw; (obtain ⟨⟨k0, k1⟩, ⟨p0, p1⟩, ⟨q0, q1⟩, ⟨r0, r1⟩⟩ := ST.out _ (Ext.trans X2 hSw); obtain ⟨c5, c6⟩ := A11.ext hSw; obtain ⟨c7, c8⟩ := A13.ext hSw); go_simp; (try with_reducible rfl))
          (try simp only [List.getElem_toArray, List.getElem_cons_zero, List.getElem_cons_succ, Act.put, List.setIfInBounds_toArray, List.set_cons_zero, List.set_cons_succ])
          refine' wpAnyR_take (i := 2) (v := ?v2_30) Ext.refl (fun _ _ _ => Ext.trans) rfl (by kernel_rfl) (by kernel_rfl) (by kernel_rfl) (fun _ _ _ h => h) (Or.inl (Or.inl ⟨by rfl, ?hy2_30⟩)) ?rest2_30
          case hy2_30 => (intro w hSw; (obtain ⟨⟨k0, k1⟩, ⟨p0, p1⟩, ⟨q0, q1⟩, ⟨r0, r1⟩⟩ := ST.out _ (Ext.trans X2 hSw); obtain ⟨c5, c6⟩ := A11.ext hSw; obtain ⟨c7, c8⟩ := A13.ext hSw); go_simp; (try with_reducible rfl))
          (try simp only [List.getElem_toArray, List.getElem_cons_zero, List.getElem_cons_succ, Act.put, List.setIfInBounds_toArray, List.set_cons_zero, List.set_cons_succ])
          refine' wpAnyR_take (i := 3) (v := ?v3_31) Ext.refl (fun _ _ _ => Ext.trans) rfl (by kernel_rfl) (by kernel_rfl) (by kernel_rfl) (fun _ _ _ h => h) (Or.inl (Or.inl ⟨by rfl, ?hy3_31⟩)) ?rest3_31
          case hy3_31 => (intro w hSw; (obtain ⟨⟨k0, k1⟩, ⟨p0, p1⟩, ⟨q0, q1⟩, ⟨r0, r1⟩⟩ := ST.out _ (Ext.trans X2 hSw); obtain ⟨c5, c6⟩ := A11.ext hSw; obtain ⟨c7, c8⟩ := A13.ext hSw); go_simp; (try with_reducible rfl))
          (try simp only [List.getElem_toArray, List.getElem_cons_zero, List.getElem_cons_succ, Act.put, List.setIfInBounds_toArray, List.set_cons_zero, List.set_cons_succ])
          refine' wpAnyR_take (i := 4) (v := ?v4_32) Ext.refl (fun _ _ _ => Ext.trans) rfl (by kernel_rfl) (by kernel_rfl) (by kernel_rfl) (fun _ _ _ h => h) (Or.inl (Or.inl ⟨by rfl, ?hy4_32⟩)) ?rest4_32
          case hy4_32 => (intro w hSw; (obtain ⟨⟨k0, k1⟩, ⟨p0, p1⟩, ⟨q0, q1⟩, ⟨r0, r1⟩⟩ := ST.out _ (Ext.trans X2 hSw); obtain ⟨c5, c6⟩ := A11.ext hSw; obtain ⟨c7, c8⟩ := A13.ext hSw); go_simp; (try with_reducible rfl))
          (try simp only [List.getElem_toArray, List.getElem_cons_zero, List.getElem_cons_succ, Act.put, List.setIfInBounds_toArray, List.set_cons_zero, List.set_cons_succ])
          refine' wpAnyR_take (i := 5) (v := ?v5_33) Ext.refl (fun _ _ _ => Ext.trans) rfl (by kernel_rfl) (by kernel_rfl) (by kernel_rfl) (fun _ _ _ h => h) (Or.inl (Or.inl ⟨by rfl, ?hy5_33⟩)) ?rest5_33
          case hy5_33 => (intro w hSw; (obtain ⟨⟨k0, k1⟩, ⟨p0, p1⟩, ⟨q0, q1⟩, ⟨r0, r1⟩⟩ := ST.out _ (Ext.trans X2 hSw); obtain ⟨c5, c6⟩ := A11.ext hSw; obtain ⟨c7, c8⟩ := A13.ext hSw); go_simp; (try with_reducible rfl))
          (try simp only [List.getElem_toArray, List.getElem_cons_zero, List.getElem_cons_succ, Act.put, List.setIfInBounds_toArray, List.set_cons_zero, List.set_cons_succ])
          refine' wpAnyR_take (i := 6) (v := ?v6_34) Ext.refl (fun _ _ _ => Ext.trans) rfl (by kernel_rfl) (by kernel_rfl) (by kernel_rfl) (fun _ _ _ h => h) (Or.inl (Or.inl ⟨by rfl, ?hy6_34⟩)) ?rest6_34
          case hy6_34 => (intro w hSw; (obtain ⟨⟨k0, k1⟩, ⟨p0, p1⟩, ⟨q0, q1⟩, ⟨r0, r1⟩⟩ := ST.out _ (Ext.trans X2 hSw); obtain ⟨c5, c6⟩ := A11.ext hSw; obtain ⟨c7, c8⟩ := A13.ext hSw); go_simp; (try with_reducible rfl))
          (try simp only [List.getElem_toArray, List.getElem_cons_zero, List.getElem_cons_succ, Act.put, List.setIfInBounds_toArray, List.set_cons_zero, List.set_cons_succ])
          refine' wpAnyR_take (i := 7) (v := .agg #[.int .u8 0, .int .i64 a]) Ext.refl (fun _ _ _ => Ext.trans) rfl (by kernel_rfl) (by kernel_rfl) (by kernel_rfl) (fun _ _ _ h => h) (Or.inr ⟨by rfl, 37, _, ?hx7_35, ?hy7_35⟩) ?rest7_35
          case hx7_35 => (intro w hSw; go_simp; (try with_reducible rfl))
          case hy7_35 => exact fun w hE => (two_any _ 8 0 (a + b) 0 b 0 a _ ((ST.out _ (Ext.trans X2 hE)).1) H7).mono (fun _ _ h => ⟨h.1, h.2, Ext.trans hE h.2⟩)
          (try simp only [List.getElem_toArray, List.getElem_cons_zero, List.getElem_cons_succ, Act.put, List.setIfInBounds_toArray, List.set_cons_zero, List.set_cons_succ])
          refine' wpAnyR_take (i := 8) (v := ?v8_36) Ext.refl (fun _ _ _ => Ext.trans) rfl (by kernel_rfl) (by kernel_rfl) (by kernel_rfl) (fun _ _ _ h => h) (Or.inl (Or.inl ⟨by rfl, ?hy8_36⟩)) ?rest8_36
          case hy8_36 => (intro w hSw; (obtain ⟨⟨k0, k1⟩, ⟨p0, p1⟩, ⟨q0, q1⟩, ⟨r0, r1⟩⟩ := ST.out _ (Ext.trans X2 hSw); obtain ⟨c5, c6⟩ := A11.ext hSw; obtain ⟨c7, c8⟩ := A13.ext hSw); go_simp; (try with_reducible rfl))
          (try simp only [List.getElem_toArray, List.getElem_cons_zero, List.getElem_cons_succ, Act.put, List.setIfInBounds_toArray, List.set_cons_zero, List.set_cons_succ])
          refine' wpAnyR_take (i := 9) (v := ?v9_37) Ext.refl (fun _ _ _ => Ext.trans) rfl (by kernel_rfl) (by kernel_rfl) (by kernel_rfl) (fun _ _ _ h => h) (Or.inl (Or.inl ⟨by rfl, ?hy9_37⟩)) ?rest9_37
          case hy9_37 => (intro w hSw; (obtain ⟨⟨k0, k1⟩, ⟨p0, p1⟩, ⟨q0, q1⟩, ⟨r0, r1⟩⟩ := ST.out _ (Ext.trans X2 hSw); obtain ⟨c5, c6⟩ := A11.ext hSw; obtain ⟨c7, c8⟩ := A13.ext hSw); go_simp; (try with_reducible rfl))
          (try simp only [List.getElem_toArray, List.getElem_cons_zero, List.getElem_cons_succ, Act.put, List.setIfInBounds_toArray, List.set_cons_zero, List.set_cons_succ])
          refine' wpAnyR_take (i := 10) (v := ?v10_38) Ext.refl (fun _ _ _ => Ext.trans) rfl (by kernel_rfl) (by kernel_rfl) (by kernel_rfl) (fun _ _ _ h => h) (Or.inl (Or.inl ⟨by rfl, ?hy10_38⟩)) ?rest10_38
          case hy10_38 => (intro w hSw; (obtain ⟨⟨k0, k1⟩, ⟨p0, p1⟩, ⟨q0, q1⟩, ⟨r0, r1⟩⟩ := ST.out _ (Ext.trans X2 hSw); obtain ⟨c5, c6⟩ := A11.ext hSw; obtain ⟨c7, c8⟩ := A13.ext hSw); go_simp; (try with_reducible rfl))
          (try simp only [List.getElem_toArray, List.getElem_cons_zero, List.getElem_cons_succ, Act.put, List.setIfInBounds_toArray, List.set_cons_zero, List.set_cons_succ])
          refine' wpAnyR_take (i := 11) (v := ?v11_39) Ext.refl (fun _ _ _ => Ext.trans) rfl (by kernel_rfl) (by kernel_rfl) (by kernel_rfl) (fun _ _ _ h => h) (Or.inl (Or.inl ⟨by rfl, ?hy11_39⟩)) ?rest11_39
          case hy11_39 => (intro w hSw; (obtain ⟨⟨k0, k1⟩, ⟨p0, p1⟩, ⟨q0, q1⟩, ⟨r0, r1⟩⟩ := ST.out _ (Ext.trans X2 hSw); obtain ⟨c5, c6⟩ := A11.ext hSw; obtain ⟨c7, c8⟩ := A13.ext hSw); go_simp; (try with_reducible rfl))
          (try simp only [List.getElem_toArray, List.getElem_cons_zero, List.getElem_cons_succ, Act.put, List.setIfInBounds_toArray, List.set_cons_zero, List.set_cons_succ])
          refine' wpAnyR_take (i := 12) (v := ?v12_40) Ext.refl (fun _ _ _ => Ext.trans) rfl (by kernel_rfl) (by kernel_rfl) (by kernel_rfl) (fun _ _ _ h => h) (Or.inl (Or.inl ⟨by rfl, ?hy12_40⟩)) ?rest12_40
          case hy12_40 => (intro w hSw; (obtain ⟨⟨k0, k1⟩, ⟨p0, p1⟩, ⟨q0, q1⟩, ⟨r0, r1⟩⟩ := ST.out _ (Ext.trans X2 hSw); obtain ⟨c5, c6⟩ := A11.ext hSw; obtain ⟨c7, c8⟩ := A13.ext hSw); go_simp; (try with_reducible rfl))
          (try simp only [List.getElem_toArray, List.getElem_cons_zero, List.getElem_cons_succ, Act.put, List.setIfInBounds_toArray, List.set_cons_zero, List.set_cons_succ])
          refine' wpAnyR_take (i := 13) (v := ?v13_41) Ext.refl (fun _ _ _ => Ext.trans) rfl (by kernel_rfl) (by kernel_rfl) (by kernel_rfl) (fun _ _ _ h => h) (Or.inl (Or.inl ⟨by rfl, ?hy13_41⟩)) ?rest13_41
          case hy13_41 => (intro w hSw; (obtain ⟨⟨k0, k1⟩, ⟨p0, p1⟩, ⟨q0, q1⟩, ⟨r0, r1⟩⟩ := ST.out _ (Ext.trans X2 hSw); obtain ⟨c5, c6⟩ := A11.ext hSw; obtain ⟨c7, c8⟩ := A13.ext hSw); go_simp; (try with_reducible rfl))
          (try simp only [List.getElem_toArray, List.getElem_cons_zero, List.getElem_cons_succ, Act.put, List.setIfInBounds_toArray, List.set_cons_zero, List.set_cons_succ])
          refine' wpAnyR_take (i := 14) (v := ?v14_42) Ext.refl (fun _ _ _ => Ext.trans) rfl (by kernel_rfl) (by kernel_rfl) (by kernel_rfl) (fun _ _ _ h => h) (Or.inl (Or.inl ⟨by rfl, ?hy14_42⟩)) ?rest14_42
          case hy14_42 => (intro w hSw; (obtain ⟨⟨k0, k1⟩, ⟨p0, p1⟩, ⟨q0, q1⟩, ⟨r0, r1⟩⟩ := ST.out _ (Ext.trans X2 hSw); obtain ⟨c5, c6⟩ := A11.ext hSw; obtain ⟨c7, c8⟩ := A13.ext hSw); go_simp; (try with_reducible rfl))
          (try simp only [List.getElem_toArray, List.getElem_cons_zero, List.getElem_cons_succ, Act.put, List.setIfInBounds_toArray, List.set_cons_zero, List.set_cons_succ])
          refine' wpAnyR_take (i := 15) (v := ?v15_43) Ext.refl (fun _ _ _ => Ext.trans) rfl (by kernel_rfl) (by kernel_rfl) (by kernel_rfl) (fun _ _ _ h => h) (Or.inl (Or.inl ⟨by rfl, ?hy15_43⟩)) ?rest15_43
          case hy15_43 => (intro w hSw; (obtain ⟨⟨k0, k1⟩, ⟨p0, p1⟩, ⟨q0, q1⟩, ⟨r0, r1⟩⟩ := ST.out _ (Ext.trans X2 hSw); obtain ⟨c5, c6⟩ := A11.ext hSw; obtain ⟨c7, c8⟩ := A13.ext hSw); go_simp; (try with_reducible rfl))
          (try simp only [List.getElem_toArray, List.getElem_cons_zero, List.getElem_cons_succ, Act.put, List.setIfInBounds_toArray, List.set_cons_zero, List.set_cons_succ])
          refine' wpAnyR_take (i := 16) (v := ?v16_44) Ext.refl (fun _ _ _ => Ext.trans) rfl (by kernel_rfl) (by kernel_rfl) (by kernel_rfl) (fun _ _ _ h => h) (Or.inl (Or.inl ⟨by rfl, ?hy16_44⟩)) ?rest16_44
          case hy16_44 => (intro w hSw; (obtain ⟨⟨k0, k1⟩, ⟨p0, p1⟩, ⟨q0, q1⟩, ⟨r0, r1⟩⟩ := ST.out _ (Ext.trans X2 hSw); obtain ⟨c5, c6⟩ := A11.ext hSw; obtain ⟨c7, c8⟩ := A13.ext hSw); go_simp; (try with_reducible rfl))
          (try simp only [List.getElem_toArray, List.getElem_cons_zero, List.getElem_cons_succ, Act.put, List.setIfInBounds_toArray, List.set_cons_zero, List.set_cons_succ])
          refine' wpAnyR_take (i := 17) (v := ?v17_45) Ext.refl (fun _ _ _ => Ext.trans) rfl (by kernel_rfl) (by kernel_rfl) (by kernel_rfl) (fun _ _ _ h => h) (Or.inl (Or.inl ⟨by rfl, ?hy17_45⟩)) ?rest17_45
          case hy17_45 => (intro w hSw; (obtain ⟨⟨k0, k1⟩, ⟨p0, p1⟩, ⟨q0, q1⟩, ⟨r0, r1⟩⟩ := ST.out _ (Ext.trans X2 hSw); obtain ⟨c5, c6⟩ := A11.ext hSw; obtain ⟨c7, c8⟩ := A13.ext hSw); go_simp; (try with_reducible rfl))
          (try simp only [List.getElem_toArray, List.getElem_cons_zero, List.getElem_cons_succ, Act.put, List.setIfInBounds_toArray, List.set_cons_zero, List.set_cons_succ])
          refine' wpAnyR_take (i := 18) (v := ?v18_46) Ext.refl (fun _ _ _ => Ext.trans) rfl (by kernel_rfl) (by kernel_rfl) (by kernel_rfl) (fun _ _ _ h => h) (Or.inl (Or.inl ⟨by rfl, ?hy18_46⟩)) ?rest18_46
          case hy18_46 => (intro w hSw; (obtain ⟨⟨k0, k1⟩, ⟨p0, p1⟩, ⟨q0, q1⟩, ⟨r0, r1⟩⟩ := ST.out _ (Ext.trans X2 hSw); obtain ⟨c5, c6⟩ := A11.ext hSw; obtain ⟨c7, c8⟩ := A13.ext hSw); go_simp; (try with_reducible rfl))
          (try simp only [List.getElem_toArray, List.getElem_cons_zero, List.getElem_cons_succ, Act.put, List.setIfInBounds_toArray, List.set_cons_zero, List.set_cons_succ])
          refine' wpAnyR_take (i := 19) (v := ?v19_47) Ext.refl (fun _ _ _ => Ext.trans) rfl (by kernel_rfl) (by kernel_rfl) (by kernel_rfl) (fun _ _ _ h => h) (Or.inl (Or.inl ⟨by rfl, ?hy19_47⟩)) ?rest19_47
          case hy19_47 => (intro w hSw; (obtain ⟨⟨k0, k1⟩, ⟨p0, p1⟩, ⟨q0, q1⟩, ⟨r0, r1⟩⟩ := ST.out _ (Ext.trans X2 hSw); obtain ⟨c5, c6⟩ := A11.ext hSw; obtain ⟨c7, c8⟩ := A13.ext hSw); go_simp; (try with_reducible rfl))
          (try simp only [List.getElem_toArray, List.getElem_cons_zero, List.getElem_cons_succ, Act.put, List.setIfInBounds_toArray, List.set_cons_zero, List.set_cons_succ])
          refine' wpAnyR_take (i := 20) (v := ?v20_48) Ext.refl (fun _ _ _ => Ext.trans) rfl (by kernel_rfl) (by kernel_rfl) (by kernel_rfl) (fun _ _ _ h => h) (Or.inl (Or.inl ⟨by rfl, ?hy20_48⟩)) ?rest20_48
          case hy20_48 => (intro w hSw; (obtain ⟨⟨k0, k1⟩, ⟨p0, p1⟩, ⟨q0, q1⟩, ⟨r0, r1⟩⟩ := ST.out _ (Ext.trans X2 hSw); obtain ⟨c5, c6⟩ := A11.ext hSw; obtain ⟨c7, c8⟩ := A13.ext hSw); go_simp; (try with_reducible rfl))
          (try simp only [List.getElem_toArray, List.getElem_cons_zero, List.getElem_cons_succ, Act.put, List.setIfInBounds_toArray, List.set_cons_zero, List.set_cons_succ])
          refine' wpAnyR_take (i := 21) (v := ?v21_49) Ext.refl (fun _ _ _ => Ext.trans) rfl (by kernel_rfl) (by kernel_rfl) (by kernel_rfl) (fun _ _ _ h => h) (Or.inl (Or.inl ⟨by rfl, ?hy21_49⟩)) ?rest21_49
          case hy21_49 => (intro w hSw; (obtain ⟨⟨k0, k1⟩, ⟨p0, p1⟩, ⟨q0, q1⟩, ⟨r0, r1⟩⟩ := ST.out _ (Ext.trans X2 hSw); obtain ⟨c5, c6⟩ := A11.ext hSw; obtain ⟨c7, c8⟩ := A13.ext hSw); go_simp; (try with_reducible rfl))
          (try simp only [List.getElem_toArray, List.getElem_cons_zero, List.getElem_cons_succ, Act.put, List.setIfInBounds_toArray, List.set_cons_zero, List.set_cons_succ])
          refine' wpAnyR_take (i := 22) (v := ?v22_50) Ext.refl (fun _ _ _ => Ext.trans) rfl (by kernel_rfl) (by kernel_rfl) (by kernel_rfl) (fun _ _ _ h => h) (Or.inl (Or.inl ⟨by rfl, ?hy22_50⟩)) ?rest22_50
          case hy22_50 => (intro w hSw; (obtain ⟨⟨k0, k1⟩, ⟨p0, p1⟩, ⟨q0, q1⟩, ⟨r0, r1⟩⟩ := ST.out _ (Ext.trans X2 hSw); obtain ⟨c5, c6⟩ := A11.ext hSw; obtain ⟨c7, c8⟩ := A13.ext hSw); go_simp; (try with_reducible rfl))
          (try simp only [List.getElem_toArray, List.getElem_cons_zero, List.getElem_cons_succ, Act.put, List.setIfInBounds_toArray, List.set_cons_zero, List.set_cons_succ])
          refine' wpAnyR_take (i := 23) (v := ?v23_51) Ext.refl (fun _ _ _ => Ext.trans) rfl (by kernel_rfl) (by kernel_rfl) (by kernel_rfl) (fun _ _ _ h => h) (Or.inl (Or.inl ⟨by rfl, ?hy23_51⟩)) ?rest23_51
          case hy23_51 => (intro w hSw; (obtain ⟨⟨k0, k1⟩, ⟨p0, p1⟩, ⟨q0, q1⟩, ⟨r0, r1⟩⟩ := ST.out _ (Ext.trans X2 hSw); obtain ⟨c5, c6⟩ := A11.ext hSw; obtain ⟨c7, c8⟩ := A13.ext hSw); go_simp; (try with_reducible rfl))
          (try simp only [List.getElem_toArray, List.getElem_cons_zero, List.getElem_cons_succ, Act.put, List.setIfInBounds_toArray, List.set_cons_zero, List.set_cons_succ])
          refine' wpAnyR_take (i := 24) (v := ?v24_52) Ext.refl (fun _ _ _ => Ext.trans) rfl (by kernel_rfl) (by kernel_rfl) (by kernel_rfl) (fun _ _ _ h => h) (Or.inl (Or.inl ⟨by rfl, ?hy24_52⟩)) ?rest24_52
          case hy24_52 => (intro w hSw; (obtain ⟨⟨k0, k1⟩, ⟨p0, p1⟩, ⟨q0, q1⟩, ⟨r0, r1⟩⟩ := ST.out _ (Ext.trans X2 hSw); obtain ⟨c5, c6⟩ := A11.ext hSw; obtain ⟨c7, c8⟩ := A13.ext hSw); go_simp; (try with_reducible rfl))
          (try simp only [List.getElem_toArray, List.getElem_cons_zero, List.getElem_cons_succ, Act.put, List.setIfInBounds_toArray, List.set_cons_zero, List.set_cons_succ])
          refine' wpAnyR_take (i := 25) (v := ?v25_53) Ext.refl (fun _ _ _ => Ext.trans) rfl (by kernel_rfl) (by kernel_rfl) (by kernel_rfl) (fun _ _ _ h => h) (Or.inl (Or.inl ⟨by rfl, ?hy25_53⟩)) ?rest25_53
          case hy25_53 => (intro w hSw; (obtain ⟨⟨k0, k1⟩, ⟨p0, p1⟩, ⟨q0, q1⟩, ⟨r0, r1⟩⟩ := ST.out _ (Ext.trans X2 hSw); obtain ⟨c5, c6⟩ := A11.ext hSw; obtain ⟨c7, c8⟩ := A13.ext hSw); go_simp; (try with_reducible rfl))
          (try simp only [List.getElem_toArray, List.getElem_cons_zero, List.getElem_cons_succ, Act.put, List.setIfInBounds_toArray, List.set_cons_zero, List.set_cons_succ])
          refine' wpAnyR_take (i := 26) (v := ?v26_54) Ext.refl (fun _ _ _ => Ext.trans) rfl (by kernel_rfl) (by kernel_rfl) (by kernel_rfl) (fun _ _ _ h => h) (Or.inl (Or.inl ⟨by rfl, ?hy26_54⟩)) ?rest26_54
          case hy26_54 => (intro w hSw; (obtain ⟨⟨k0, k1⟩, ⟨p0, p1⟩, ⟨q0, q1⟩, ⟨r0, r1⟩⟩ := ST.out _ (Ext.trans X2 hSw); obtain ⟨c5, c6⟩ := A11.ext hSw; obtain ⟨c7, c8⟩ := A13.ext hSw); go_simp; (try with_reducible rfl))
          (try simp only [List.getElem_toArray, List.getElem_cons_zero, List.getElem_cons_succ, Act.put, List.setIfInBounds_toArray, List.set_cons_zero, List.set_cons_succ])
          refine' wpAnyR_take (i := 27) (v := ?v27_55) Ext.refl (fun _ _ _ => Ext.trans) rfl (by kernel_rfl) (by kernel_rfl) (by kernel_rfl) (fun _ _ _ h => h) (Or.inl (Or.inl ⟨by rfl, ?hy27_55⟩)) ?rest27_55
          case hy27_55 => (intro w hSw; (obtain ⟨⟨k0, k1⟩, ⟨p0, p1⟩, ⟨q0, q1⟩, ⟨r0, r1⟩⟩ := ST.out _ (Ext.trans X2 hSw); obtain ⟨c5, c6⟩ := A11.ext hSw; obtain ⟨c7, c8⟩ := A13.ext hSw); go_simp; (try with_reducible rfl))
          (try simp only [List.getElem_toArray, List.getElem_cons_zero, List.getElem_cons_succ, Act.put, List.setIfInBounds_toArray, List.set_cons_zero, List.set_cons_succ])
          refine' wpAnyR_take (i := 28) (v := ?v28_56) Ext.refl (fun _ _ _ => Ext.trans) rfl (by kernel_rfl) (by kernel_rfl) (by kernel_rfl) (fun _ _ _ h => h) (Or.inl (Or.inl ⟨by rfl, ?hy28_56⟩)) ?rest28_56
          case hy28_56 => (intro w hSw; (obtain ⟨⟨k0, k1⟩, ⟨p0, p1⟩, ⟨q0, q1⟩, ⟨r0, r1⟩⟩ := ST.out _ (Ext.trans X2 hSw); obtain ⟨c5, c6⟩ := A11.ext hSw; obtain ⟨c7, c8⟩ := A13.ext hSw); go_simp; (try with_reducible rfl))
          (try simp only [List.getElem_toArray, List.getElem_cons_zero, List.getElem_cons_succ, Act.put, List.setIfInBounds_toArray, List.set_cons_zero, List.set_cons_succ])
          refine' wpAnyR_take (i := 29) (v := ?v29_57) Ext.refl (fun _ _ _ => Ext.trans) rfl (by kernel_rfl) (by kernel_rfl) (by kernel_rfl) (fun _ _ _ h => h) (Or.inl (Or.inl ⟨by rfl, ?hy29_57⟩)) ?rest29_57
          case hy29_57 => (intro w hSw; (obtain ⟨⟨k0, k1⟩, ⟨p0, p1⟩, ⟨q0, q1⟩, ⟨r0, r1⟩⟩ := ST.out _ (Ext.trans X2 hSw); obtain ⟨c5, c6⟩ := A11.ext hSw; obtain ⟨c7, c8⟩ := A13.ext hSw); go_simp; (try with_reducible rfl))
          (try simp only [List.getElem_toArray, List.getElem_cons_zero, List.getElem_cons_succ, Act.put, List.setIfInBounds_toArray, List.set_cons_zero, List.set_cons_succ])
          refine' wpAnyR_take (i := 30) (v := ?v30_58) Ext.refl (fun _ _ _ => Ext.trans) rfl (by kernel_rfl) (by kernel_rfl) (by kernel_rfl) (fun _ _ _ h => h) (Or.inl (Or.inl ⟨by rfl, ?hy30_58⟩)) ?rest30_58
          case hy30_58 => (intro w hSw; (obtain ⟨⟨k0, k1⟩, ⟨p0, p1⟩, ⟨q0, q1⟩, ⟨r0, r1⟩⟩ := ST.out _ (Ext.trans X2 hSw); obtain ⟨c5, c6⟩ := A11.ext hSw; obtain ⟨c7, c8⟩ := A13.ext hSw); go_simp; (try with_reducible rfl))
          (try simp only [List.getElem_toArray, List.getElem_cons_zero, List.getElem_cons_succ, Act.put, List.setIfInBounds_toArray, List.set_cons_zero, List.set_cons_succ])
          refine' wpAnyR_take (i := 31) (v := ?v31_59) Ext.refl (fun _ _ _ => Ext.trans) rfl (by kernel_rfl) (by kernel_rfl) (by kernel_rfl) (fun _ _ _ h => h) (Or.inl (Or.inl ⟨by rfl, ?hy31_59⟩)) ?rest31_59
          case hy31_59 => (intro w hSw; (obtain ⟨⟨k0, k1⟩, ⟨p0, p1⟩, ⟨q0, q1⟩, ⟨r0, r1⟩⟩ := ST.out _ (Ext.trans X2 hSw); obtain ⟨c5, c6⟩ := A11.ext hSw; obtain ⟨c7, c8⟩ := A13.ext hSw); go_simp; (try with_reducible rfl))
          (try simp only [List.getElem_toArray, List.getElem_cons_zero, List.getElem_cons_succ, Act.put, List.setIfInBounds_toArray, List.set_cons_zero, List.set_cons_succ])
          refine' wpAnyR_take (i := 32) (v := ?v32_60) Ext.refl (fun _ _ _ => Ext.trans) rfl (by kernel_rfl) (by kernel_rfl) (by kernel_rfl) (fun _ _ _ h => h) (Or.inl (Or.inl ⟨by rfl, ?hy32_60⟩)) ?rest32_60
          case hy32_60 => (intro w hSw; (obtain ⟨⟨k0, k1⟩, ⟨p0, p1⟩, ⟨q0, q1⟩, ⟨r0, r1⟩⟩ := ST.out _ (Ext.trans X2 hSw); obtain ⟨c5, c6⟩ := A11.ext hSw; obtain ⟨c7, c8⟩ := A13.ext hSw); go_simp; (try with_reducible rfl))
          (try simp only [List.getElem_toArray, List.getElem_cons_zero, List.getElem_cons_succ, Act.put, List.setIfInBounds_toArray, List.set_cons_zero, List.set_cons_succ])
          refine' wpAnyR_take (i := 33) (v := ?v33_61) Ext.refl (fun _ _ _ => Ext.trans) rfl (by kernel_rfl) (by kernel_rfl) (by kernel_rfl) (fun _ _ _ h => h) (Or.inl (Or.inl ⟨by rfl, ?hy33_61⟩)) ?rest33_61
          case hy33_61 => (intro w hSw; (obtain ⟨⟨k0, k1⟩, ⟨p0, p1⟩, ⟨q0, q1⟩, ⟨r0, r1⟩⟩ := ST.out _ (Ext.trans X2 hSw); obtain ⟨c5, c6⟩ := A11.ext hSw; obtain ⟨c7, c8⟩ := A13.ext hSw); go_simp; (try with_reducible rfl))
          (try simp only [List.getElem_toArray, List.getElem_cons_zero, List.getElem_cons_succ, Act.put, List.setIfInBounds_toArray, List.set_cons_zero, List.set_cons_succ])
          refine' wpAnyR_take (i := 34) (v := ?v34_62) Ext.refl (fun _ _ _ => Ext.trans) rfl (by kernel_rfl) (by kernel_rfl) (by kernel_rfl) (fun _ _ _ h => h) (Or.inl (Or.inl ⟨by rfl, ?hy34_62⟩)) ?rest34_62
          case hy34_62 => (intro w hSw; (obtain ⟨⟨k0, k1⟩, ⟨p0, p1⟩, ⟨q0, q1⟩, ⟨r0, r1⟩⟩ := ST.out _ (Ext.trans X2 hSw); obtain ⟨c5, c6⟩ := A11.ext hSw; obtain ⟨c7, c8⟩ := A13.ext hSw); go_simp; (try with_reducible rfl))
          (try simp only [List.getElem_toArray, List.getElem_cons_zero, List.getElem_cons_succ, Act.put, List.setIfInBounds_toArray, List.set_cons_zero, List.set_cons_succ])
          refine' wpAnyR_take (i := 35) (v := ?v35_63) Ext.refl (fun _ _ _ => Ext.trans) rfl (by kernel_rfl) (by kernel_rfl) (by kernel_rfl) (fun _ _ _ h => h) (Or.inl (Or.inl ⟨by rfl, ?hy35_63⟩)) ?rest35_63
          case hy35_63 => (intro w hSw; (obtain ⟨⟨k0, k1⟩, ⟨p0, p1⟩, ⟨q0, q1⟩, ⟨r0, r1⟩⟩ := ST.out _ (Ext.trans X2 hSw); obtain ⟨c5, c6⟩ := A11.ext hSw; obtain ⟨c7, c8⟩ := A13.ext hSw); go_simp; (try with_reducible rfl))
          (try simp only [List.getElem_toArray, List.getElem_cons_zero, List.getElem_cons_succ, Act.put, List.setIfInBounds_toArray, List.set_cons_zero, List.set_cons_succ])
          refine' wpAnyR_take (i := 36) (v := ?v36_64) Ext.refl (fun _ _ _ => Ext.trans) rfl (by kernel_rfl) (by kernel_rfl) (by kernel_rfl) (fun _ _ _ h => h) (Or.inl (Or.inl ⟨by rfl, ?hy36_64⟩)) ?rest36_64
          case hy36_64 => (intro w hSw; (obtain ⟨⟨k0, k1⟩, ⟨p0, p1⟩, ⟨q0, q1⟩, ⟨r0, r1⟩⟩ := ST.out _ (Ext.trans X2 hSw); obtain ⟨c5, c6⟩ := A11.ext hSw; obtain ⟨c7, c8⟩ := A13.ext hSw); go_simp; (try with_reducible rfl))
          (try simp only [List.getElem_toArray, List.getElem_cons_zero, List.getElem_cons_succ, Act.put, List.setIfInBounds_toArray, List.set_cons_zero, List.set_cons_succ])
          refine' wpAnyR_take (i := 37) (v := ?v37_65) Ext.refl (fun _ _ _ => Ext.trans) rfl (by kernel_rfl) (by kernel_rfl) (by kernel_rfl) (fun _ _ _ h => h) (Or.inl (Or.inl ⟨by rfl, ?hy37_65⟩)) ?rest37_65
          case hy37_65 => (intro w hSw; (obtain ⟨⟨k0, k1⟩, ⟨p0, p1⟩, ⟨q0, q1⟩, ⟨r0, r1⟩⟩ := ST.out _ (Ext.trans X2 hSw); obtain ⟨c5, c6⟩ := A11.ext hSw; obtain ⟨c7, c8⟩ := A13.ext hSw); go_simp; (try with_reducible rfl))
          (try simp only [List.getElem_toArray, List.getElem_cons_zero, List.getElem_cons_succ, Act.put, List.setIfInBounds_toArray, List.set_cons_zero, List.set_cons_succ])
          refine' wpAnyR_take (i := 38) (v := ?v38_66) Ext.refl (fun _ _ _ => Ext.trans) rfl (by kernel_rfl) (by kernel_rfl) (by kernel_rfl) (fun _ _ _ h => h) (Or.inl (Or.inl ⟨by rfl, ?hy38_66⟩)) ?rest38_66
          case hy38_66 => (intro w hSw; (obtain ⟨⟨k0, k1⟩, ⟨p0, p1⟩, ⟨q0, q1⟩, ⟨r0, r1⟩⟩ := ST.out _ (Ext.trans X2 hSw); obtain ⟨c5, c6⟩ := A11.ext hSw; obtain ⟨c7, c8⟩ := A13.ext hSw); go_simp; (try with_reducible rfl))
          (try simp only [List.getElem_toArray, List.getElem_cons_zero, List.getElem_cons_succ, Act.put, List.setIfInBounds_toArray, List.set_cons_zero, List.set_cons_succ])
          refine' wpAnyR_take (i := 39) (v := ?v39_67) Ext.refl (fun _ _ _ => Ext.trans) rfl (by kernel_rfl) (by kernel_rfl) (by kernel_rfl) (fun _ _ _ h => h) (Or.inl (Or.inl ⟨by rfl, ?hy39_67⟩)) ?rest39_67
          case hy39_67 => (intro w hSw; (obtain ⟨⟨k0, k1⟩, ⟨p0, p1⟩, ⟨q0, q1⟩, ⟨r0, r1⟩⟩ := ST.out _ (Ext.trans X2 hSw); obtain ⟨c5, c6⟩ := A11.ext hSw; obtain ⟨c7, c8⟩ := A13.ext hSw); go_simp; (try with_reducible rfl))
          (try simp only [List.getElem_toArray, List.getElem_cons_zero, List.getElem_cons_succ, Act.put, List.setIfInBounds_toArray, List.set_cons_zero, List.set_cons_succ])
          refine' wpAnyR_take (i := 40) (v := ?v40_68) Ext.refl (fun _ _ _ => Ext.trans) rfl (by kernel_rfl) (by kernel_rfl) (by kernel_rfl) (fun _ _ _ h => h) (Or.inl (Or.inl ⟨by rfl, ?hy40_68⟩)) ?rest40_68
          case hy40_68 => (intro w hSw; (obtain ⟨⟨k0, k1⟩, ⟨p0, p1⟩, ⟨q0, q1⟩, ⟨r0, r1⟩⟩ := ST.out _ (Ext.trans X2 hSw); obtain ⟨c5, c6⟩ := A11.ext hSw; obtain ⟨c7, c8⟩ := A13.ext hSw); go_simp; (try with_reducible rfl))
          (try simp only [List.getElem_toArray, List.getElem_cons_zero, List.getElem_cons_succ, Act.put, List.setIfInBounds_toArray, List.set_cons_zero, List.set_cons_succ])
          refine wpAnyR_done (by kernel_rfl) ?_ _
          intro wh _ Ewh
          obtain ⟨k0, k1⟩ := (ST.out _ (Ext.trans X2 Ewh)).1
          go_wp2_with (first | (go_at_call 17; refine (known_any _ (hg.out.ext (Ext.trans X2 Ewh))).mono ?_; rintro e x6 ⟨rfl, y6⟩))
          go_returns
          exact ⟨rfl, Ext.trans E0.out (Ext.trans X2 (Ext.trans Ewh y6))⟩
        · clear hsum hpro
          obtain ⟨rfl, rfl, n1, n2⟩ := hs
          have hab : IntKind.i64.wrap (a + b) = a + b := IntWalk.i64_in _ (by omega)
          have H7 := H7.out n1 n2
          obtain ⟨rfl, rfl, -⟩ := hp
          refine wp_region_seq (S := fun W => Ext wc W) (R := Ext) (by kernel_rfl) Ext.refl ?_ ?_
          · exact (by repeat' (first | (with_reducible exact Ext.refl _) | (with_reducible assumption) | (with_reducible refine Ext.alloc ?_ _) | (with_reducible refine Ext.drew ?_) | (with_reducible refine Ext.drewN ?_ _) | (with_reducible refine Ext.setCell ?_ ?_ _) | (with_reducible refine Ext.trans ?_ (by assumption)) | go_size))
          refine' wpAnyR_take (i := 0) (v := ?v0_69) Ext.refl (fun _ _ _ => Ext.trans) rfl (by kernel_rfl) (by kernel_rfl) (by kernel_rfl) (fun _ _ _ h => h) (Or.inl (Or.inl ⟨by rfl, ?hy0_69⟩)) ?rest0_69
          case hy0_69 => (intro w hSw; (obtain ⟨⟨k0, k1⟩, ⟨p0, p1⟩, ⟨q0, q1⟩, ⟨r0, r1⟩⟩ := ST.out _ (Ext.trans X2 hSw); obtain ⟨c5, c6⟩ := A11.ext hSw; obtain ⟨c7, c8⟩ := A13.ext hSw); go_simp; (try with_reducible rfl))
          (try simp only [List.getElem_toArray, List.getElem_cons_zero, Act.put, List.setIfInBounds_toArray, List.set_cons_zero, List.set_cons_succ])
          refine' wpAnyR_take (i := 1) (v := ?v1_70) Ext.refl (fun _ _ _ => Ext.trans) rfl (by kernel_rfl) (by kernel_rfl) (by kernel_rfl) (fun _ _ _ h => h) (Or.inl (Or.inl ⟨by rfl, ?hy1_70⟩)) ?rest1_70
          case hy1_70 => (intro w hSw; (obtain ⟨⟨k0, k1⟩, ⟨p0, p1⟩, ⟨q0, q1⟩, ⟨r0, r1⟩⟩ := ST.out _ (Ext.trans X2 hSw); obtain ⟨c5, c6⟩ := A11.ext hSw; obtain ⟨c7, c8⟩ := A13.ext hSw); go_simp; (try with_reducible rfl))
          (try simp only [List.getElem_toArray, List.getElem_cons_zero, List.getElem_cons_succ, Act.put, List.setIfInBounds_toArray, List.set_cons_zero, List.set_cons_succ])
          refine' wpAnyR_take (i := 2) (v := ?v2_71) Ext.refl (fun _ _ _ => Ext.trans) rfl (by kernel_rfl) (by kernel_rfl) (by kernel_rfl) (fun _ _ _ h => h) (Or.inl (Or.inl ⟨by rfl, ?hy2_71⟩)) ?rest2_71
          case hy2_71 => (intro w hSw; (obtain ⟨⟨k0, k1⟩, ⟨p0, p1⟩, ⟨q0, q1⟩, ⟨r0, r1⟩⟩ := ST.out _ (Ext.trans X2 hSw); obtain ⟨c5, c6⟩ := A11.ext hSw; obtain ⟨c7, c8⟩ := A13.ext hSw); go_simp; (try with_reducible rfl))
          (try simp only [List.getElem_toArray, List.getElem_cons_zero, List.getElem_cons_succ, Act.put, List.setIfInBounds_toArray, List.set_cons_zero, List.set_cons_succ])
          refine' wpAnyR_take (i := 3) (v := ?v3_72) Ext.refl (fun _ _ _ => Ext.trans) rfl (by kernel_rfl) (by kernel_rfl) (by kernel_rfl) (fun _ _ _ h => h) (Or.inl (Or.inl ⟨by rfl, ?hy3_72⟩)) ?rest3_72
          case hy3_72 => (intro w hSw; (obtain ⟨⟨k0, k1⟩, ⟨p0, p1⟩, ⟨q0, q1⟩, ⟨r0, r1⟩⟩ := ST.out _ (Ext.trans X2 hSw); obtain ⟨c5, c6⟩ := A11.ext hSw; obtain ⟨c7, c8⟩ := A13.ext hSw); go_simp; (try with_reducible rfl))
          (try simp only [List.getElem_toArray, List.getElem_cons_zero, List.getElem_cons_succ, Act.put, List.setIfInBounds_toArray, List.set_cons_zero, List.set_cons_succ])
          refine' wpAnyR_take (i := 4) (v := ?v4_73) Ext.refl (fun _ _ _ => Ext.trans) rfl (by kernel_rfl) (by kernel_rfl) (by kernel_rfl) (fun _ _ _ h => h) (Or.inl (Or.inl ⟨by rfl, ?hy4_73⟩)) ?rest4_73
          case hy4_73 => (intro w hSw; (obtain ⟨⟨k0, k1⟩, ⟨p0, p1⟩, ⟨q0, q1⟩, ⟨r0, r1⟩⟩ := ST.out _ (Ext.trans X2 hSw); obtain ⟨c5, c6⟩ := A11.ext hSw; obtain ⟨c7, c8⟩ := A13.ext hSw); go_simp; (try with_reducible rfl))
          (try simp only [List.getElem_toArray, List.getElem_cons_zero, List.getElem_cons_succ, Act.put, List.setIfInBounds_toArray, List.set_cons_zero, List.set_cons_succ])
          refine' wpAnyR_take (i := 5) (v := ?v5_74) Ext.refl (fun _ _ _ => Ext.trans) rfl (by kernel_rfl) (by kernel_rfl) (by kernel_rfl) (fun _ _ _ h => h) (Or.inl (Or.inl ⟨by rfl, ?hy5_74⟩)) ?rest5_74
          case hy5_74 => (intro w hSw; (obtain ⟨⟨k0, k1⟩, ⟨p0, p1⟩, ⟨q0, q1⟩, ⟨r0, r1⟩⟩ := ST.out _ (Ext.trans X2 hSw); obtain ⟨c5, c6⟩ := A11.ext hSw; obtain ⟨c7, c8⟩ := A13.ext hSw); go_simp; (try with_reducible rfl))
          (try simp only [List.getElem_toArray, List.getElem_cons_zero, List.getElem_cons_succ, Act.put, List.setIfInBounds_toArray, List.set_cons_zero, List.set_cons_succ])
          refine' wpAnyR_take (i := 6) (v := ?v6_75) Ext.refl (fun _ _ _ => Ext.trans) rfl (by kernel_rfl) (by kernel_rfl) (by kernel_rfl) (fun _ _ _ h => h) (Or.inl (Or.inl ⟨by rfl, ?hy6_75⟩)) ?rest6_75
          case hy6_75 => (intro w hSw; (obtain ⟨⟨k0, k1⟩, ⟨p0, p1⟩, ⟨q0, q1⟩, ⟨r0, r1⟩⟩ := ST.out _ (Ext.trans X2 hSw); obtain ⟨c5, c6⟩ := A11.ext hSw; obtain ⟨c7, c8⟩ := A13.ext hSw); go_simp; (try with_reducible rfl))
          (try simp only [List.getElem_toArray, List.getElem_cons_zero, List.getElem_cons_succ, Act.put, List.setIfInBounds_toArray, List.set_cons_zero, List.set_cons_succ])
          refine' wpAnyR_take (i := 7) (v := .agg #[.int .u8 0, .int .i64 a]) Ext.refl (fun _ _ _ => Ext.trans) rfl (by kernel_rfl) (by kernel_rfl) (by kernel_rfl) (fun _ _ _ h => h) (Or.inr ⟨by rfl, 37, _, ?hx7_76, ?hy7_76⟩) ?rest7_76
          case hx7_76 => (intro w hSw; go_simp; (try with_reducible rfl))
          case hy7_76 => exact fun w hE => (two_any _ 8 0 (a + b) 0 b 0 a _ ((ST.out _ (Ext.trans X2 hE)).1) H7).mono (fun _ _ h => ⟨h.1, h.2, Ext.trans hE h.2⟩)
          (try simp only [List.getElem_toArray, List.getElem_cons_zero, List.getElem_cons_succ, Act.put, List.setIfInBounds_toArray, List.set_cons_zero, List.set_cons_succ])
          refine' wpAnyR_take (i := 8) (v := ?v8_77) Ext.refl (fun _ _ _ => Ext.trans) rfl (by kernel_rfl) (by kernel_rfl) (by kernel_rfl) (fun _ _ _ h => h) (Or.inl (Or.inl ⟨by rfl, ?hy8_77⟩)) ?rest8_77
          case hy8_77 => (intro w hSw; (obtain ⟨⟨k0, k1⟩, ⟨p0, p1⟩, ⟨q0, q1⟩, ⟨r0, r1⟩⟩ := ST.out _ (Ext.trans X2 hSw); obtain ⟨c5, c6⟩ := A11.ext hSw; obtain ⟨c7, c8⟩ := A13.ext hSw); go_simp; (try with_reducible rfl))
          (try simp only [List.getElem_toArray, List.getElem_cons_zero, List.getElem_cons_succ, Act.put, List.setIfInBounds_toArray, List.set_cons_zero, List.set_cons_succ])
          refine' wpAnyR_take (i := 9) (v := ?v9_78) Ext.refl (fun _ _ _ => Ext.trans) rfl (by kernel_rfl) (by kernel_rfl) (by kernel_rfl) (fun _ _ _ h => h) (Or.inl (Or.inl ⟨by rfl, ?hy9_78⟩)) ?rest9_78
          case hy9_78 => (intro w hSw; (obtain ⟨⟨k0, k1⟩, ⟨p0, p1⟩, ⟨q0, q1⟩, ⟨r0, r1⟩⟩ := ST.out _ (Ext.trans X2 hSw); obtain ⟨c5, c6⟩ := A11.ext hSw; obtain ⟨c7, c8⟩ := A13.ext hSw); go_simp; (try with_reducible rfl))
          (try simp only [List.getElem_toArray, List.getElem_cons_zero, List.getElem_cons_succ, Act.put, List.setIfInBounds_toArray, List.set_cons_zero, List.set_cons_succ])
          refine' wpAnyR_take (i := 10) (v := ?v10_79) Ext.refl (fun _ _ _ => Ext.trans) rfl (by kernel_rfl) (by kernel_rfl) (by kernel_rfl) (fun _ _ _ h => h) (Or.inl (Or.inl ⟨by rfl, ?hy10_79⟩)) ?rest10_79
          case hy10_79 => (intro w hSw; (obtain ⟨⟨k0, k1⟩, ⟨p0, p1⟩, ⟨q0, q1⟩, ⟨r0, r1⟩⟩ := ST.out _ (Ext.trans X2 hSw); obtain ⟨c5, c6⟩ := A11.ext hSw; obtain ⟨c7, c8⟩ := A13.ext hSw); go_simp; (try with_reducible rfl))
          (try simp only [List.getElem_toArray, List.getElem_cons_zero, List.getElem_cons_succ, Act.put, List.setIfInBounds_toArray, List.set_cons_zero, List.set_cons_succ])
          refine' wpAnyR_take (i := 11) (v := ?v11_80) Ext.refl (fun _ _ _ => Ext.trans) rfl (by kernel_rfl) (by kernel_rfl) (by kernel_rfl) (fun _ _ _ h => h) (Or.inl (Or.inl ⟨by rfl, ?hy11_80⟩)) ?rest11_80
          case hy11_80 => (intro w hSw; (obtain ⟨⟨k0, k1⟩, ⟨p0, p1⟩, ⟨q0, q1⟩, ⟨r0, r1⟩⟩ := ST.out _ (Ext.trans X2 hSw); obtain ⟨c5, c6⟩ := A11.ext hSw; obtain ⟨c7, c8⟩ := A13.ext hSw); go_simp; (try with_reducible rfl))
          (try simp only [List.getElem_toArray, List.getElem_cons_zero, List.getElem_cons_succ, Act.put, List.setIfInBounds_toArray, List.set_cons_zero, List.set_cons_succ])
          refine' wpAnyR_take (i := 12) (v := ?v12_81) Ext.refl (fun _ _ _ => Ext.trans) rfl (by kernel_rfl) (by kernel_rfl) (by kernel_rfl) (fun _ _ _ h => h) (Or.inl (Or.inl ⟨by rfl, ?hy12_81⟩)) ?rest12_81
          case hy12_81 => (intro w hSw; (obtain ⟨⟨k0, k1⟩, ⟨p0, p1⟩, ⟨q0, q1⟩, ⟨r0, r1⟩⟩ := ST.out _ (Ext.trans X2 hSw); obtain ⟨c5, c6⟩ := A11.ext hSw; obtain ⟨c7, c8⟩ := A13.ext hSw); go_simp; (try with_reducible rfl))
          (try simp only [List.getElem_toArray, List.getElem_cons_zero, List.getElem_cons_succ, Act.put, List.setIfInBounds_toArray, List.set_cons_zero, List.set_cons_succ])
          refine' wpAnyR_take (i := 13) (v := ?v13_82) Ext.refl (fun _ _ _ => Ext.trans) rfl (by kernel_rfl) (by kernel_rfl) (by kernel_rfl) (fun _ _ _ h => h) (Or.inl (Or.inl ⟨by rfl, ?hy13_82⟩)) ?rest13_82
          case hy13_82 => (intro w hSw; (obtain ⟨⟨k0, k1⟩, ⟨p0, p1⟩, ⟨q0, q1⟩, ⟨r0, r1⟩⟩ := ST.out _ (Ext.trans X2 hSw); obtain ⟨c5, c6⟩ := A11.ext hSw; obtain ⟨c7, c8⟩ := A13.ext hSw); go_simp; (try with_reducible rfl))
          (try simp only [List.getElem_toArray, List.getElem_cons_zero, List.getElem_cons_succ, Act.put, List.setIfInBounds_toArray, List.set_cons_zero, List.set_cons_succ])
          refine' wpAnyR_take (i := 14) (v := ?v14_83) Ext.refl (fun _ _ _ => Ext.trans) rfl (by kernel_rfl) (by kernel_rfl) (by kernel_rfl) (fun _ _ _ h => h) (Or.inl (Or.inl ⟨by rfl, ?hy14_83⟩)) ?rest14_83
          case hy14_83 => (intro w hSw; (obtain ⟨⟨k0, k1⟩, ⟨p0, p1⟩, ⟨q0, q1⟩, ⟨r0, r1⟩⟩ := ST.out _ (Ext.trans X2 hSw); obtain ⟨c5, c6⟩ := A11.ext hSw; obtain ⟨c7, c8⟩ := A13.ext hSw); go_simp; (try with_reducible rfl))
          (try simp only [List.getElem_toArray, List.getElem_cons_zero, List.getElem_cons_succ, Act.put, List.setIfInBounds_toArray, List.set_cons_zero, List.set_cons_succ])
          refine' wpAnyR_take (i := 15) (v := ?v15_84) Ext.refl (fun _ _ _ => Ext.trans) rfl (by kernel_rfl) (by kernel_rfl) (by kernel_rfl) (fun _ _ _ h => h) (Or.inl (Or.inl ⟨by rfl, ?hy15_84⟩)) ?rest15_84
          case hy15_84 => (intro w hSw; (obtain ⟨⟨k0, k1⟩, ⟨p0, p1⟩, ⟨q0, q1⟩, ⟨r0, r1⟩⟩ := ST.out _ (Ext.trans X2 hSw); obtain ⟨c5, c6⟩ := A11.ext hSw; obtain ⟨c7, c8⟩ := A13.ext hSw); go_simp; (try with_reducible rfl))
          (try simp only [List.getElem_toArray, List.getElem_cons_zero, List.getElem_cons_succ, Act.put, List.setIfInBounds_toArray, List.set_cons_zero, List.set_cons_succ])
          refine' wpAnyR_take (i := 16) (v := ?v16_85) Ext.refl (fun _ _ _ => Ext.trans) rfl (by kernel_rfl) (by kernel_rfl) (by kernel_rfl) (fun _ _ _ h => h) (Or.inl (Or.inl ⟨by rfl, ?hy16_85⟩)) ?rest16_85
          case hy16_85 => (intro w hSw; (obtain ⟨⟨k0, k1⟩, ⟨p0, p1⟩, ⟨q0, q1⟩, ⟨r0, r1⟩⟩ := ST.out _ (Ext.trans X2 hSw); obtain ⟨c5, c6⟩ := A11.ext hSw; obtain ⟨c7, c8⟩ := A13.ext hSw); go_simp; (try with_reducible rfl))
          (try simp only [List.getElem_toArray, List.getElem_cons_zero, List.getElem_cons_succ, Act.put, List.setIfInBounds_toArray, List.set_cons_zero, List.set_cons_succ])
          refine' wpAnyR_take (i := 17) (v := ?v17_86) Ext.refl (fun _ _ _ => Ext.trans) rfl (by kernel_rfl) (by kernel_rfl) (by kernel_rfl) (fun _ _ _ h => h) (Or.inl (Or.inl ⟨by rfl, ?hy17_86⟩)) ?rest17_86
          case hy17_86 => (intro w hSw; (obtain ⟨⟨k0, k1⟩, ⟨p0, p1⟩, ⟨q0, q1⟩, ⟨r0, r1⟩⟩ := ST.out _ (Ext.trans X2 hSw); obtain ⟨c5, c6⟩ := A11.ext hSw; obtain ⟨c7, c8⟩ := A13.ext hSw); go_simp; (try with_reducible rfl))
          (try simp only [List.getElem_toArray, List.getElem_cons_zero, List.getElem_cons_succ, Act.put, List.setIfInBounds_toArray, List.set_cons_zero, List.set_cons_succ])
          refine' wpAnyR_take (i := 18) (v := ?v18_87) Ext.refl (fun _ _ _ => Ext.trans) rfl (by kernel_rfl) (by kernel_rfl) (by kernel_rfl) (fun _ _ _ h => h) (Or.inl (Or.inl ⟨by rfl, ?hy18_87⟩)) ?rest18_87
          case hy18_87 => (intro w hSw; (obtain ⟨⟨k0, k1⟩, ⟨p0, p1⟩, ⟨q0, q1⟩, ⟨r0, r1⟩⟩ := ST.out _ (Ext.trans X2 hSw); obtain ⟨c5, c6⟩ := A11.ext hSw; obtain ⟨c7, c8⟩ := A13.ext hSw); go_simp; (try with_reducible rfl))
          (try simp only [List.getElem_toArray, List.getElem_cons_zero, List.getElem_cons_succ, Act.put, List.setIfInBounds_toArray, List.set_cons_zero, List.set_cons_succ])
          refine' wpAnyR_take (i := 19) (v := ?v19_88) Ext.refl (fun _ _ _ => Ext.trans) rfl (by kernel_rfl) (by kernel_rfl) (by kernel_rfl) (fun _ _ _ h => h) (Or.inl (Or.inl ⟨by rfl, ?hy19_88⟩)) ?rest19_88
          case hy19_88 => (intro w hSw; (obtain ⟨⟨k0, k1⟩, ⟨p0, p1⟩, ⟨q0, q1⟩, ⟨r0, r1⟩⟩ := ST.out _ (Ext.trans X2 hSw); obtain ⟨c5, c6⟩ := A11.ext hSw; obtain ⟨c7, c8⟩ := A13.ext hSw); go_simp; (try with_reducible rfl))
          (try simp only [List.getElem_toArray, List.getElem_cons_zero, List.getElem_cons_succ, Act.put, List.setIfInBounds_toArray, List.set_cons_zero, List.set_cons_succ])
          refine' wpAnyR_take (i := 20) (v := ?v20_89) Ext.refl (fun _ _ _ => Ext.trans) rfl (by kernel_rfl) (by kernel_rfl) (by kernel_rfl) (fun _ _ _ h => h) (Or.inl (Or.inl ⟨by rfl, ?hy20_89⟩)) ?rest20_89
          case hy20_89 => (intro w hSw; (obtain ⟨⟨k0, k1⟩, ⟨p0, p1⟩, ⟨q0, q1⟩, ⟨r0, r1⟩⟩ := ST.out _ (Ext.trans X2 hSw); obtain ⟨c5, c6⟩ := A11.ext hSw; obtain ⟨c7, c8⟩ := A13.ext hSw); go_simp; (try with_reducible rfl))
          (try simp only [List.getElem_toArray, List.getElem_cons_zero, List.getElem_cons_succ, Act.put, List.setIfInBounds_toArray, List.set_cons_zero, List.set_cons_succ])
          refine' wpAnyR_take (i := 21) (v := ?v21_90) Ext.refl (fun _ _ _ => Ext.trans) rfl (by kernel_rfl) (by kernel_rfl) (by kernel_rfl) (fun _ _ _ h => h) (Or.inl (Or.inl ⟨by rfl, ?hy21_90⟩)) ?rest21_90
          case hy21_90 => (intro w hSw; (obtain ⟨⟨k0, k1⟩, ⟨p0, p1⟩, ⟨q0, q1⟩, ⟨r0, r1⟩⟩ := ST.out _ (Ext.trans X2 hSw); obtain ⟨c5, c6⟩ := A11.ext hSw; obtain ⟨c7, c8⟩ := A13.ext hSw); go_simp; (try with_reducible rfl))
          (try simp only [List.getElem_toArray, List.getElem_cons_zero, List.getElem_cons_succ, Act.put, List.setIfInBounds_toArray, List.set_cons_zero, List.set_cons_succ])
          refine' wpAnyR_take (i := 22) (v := ?v22_91) Ext.refl (fun _ _ _ => Ext.trans) rfl (by kernel_rfl) (by kernel_rfl) (by kernel_rfl) (fun _ _ _ h => h) (Or.inl (Or.inl ⟨by rfl, ?hy22_91⟩)) ?rest22_91
          case hy22_91 => (intro w hSw; (obtain ⟨⟨k0, k1⟩, ⟨p0, p1⟩, ⟨q0, q1⟩, ⟨r0, r1⟩⟩ := ST.out _ (Ext.trans X2 hSw); obtain ⟨c5, c6⟩ := A11.ext hSw; obtain ⟨c7, c8⟩ := A13.ext hSw); go_simp; (try with_reducible rfl))
          (try simp only [List.getElem_toArray, List.getElem_cons_zero, List.getElem_cons_succ, Act.put, List.setIfInBounds_toArray, List.set_cons_zero, List.set_cons_succ])
          refine' wpAnyR_take (i := 23) (v := ?v23_92) Ext.refl (fun _ _ _ => Ext.trans) rfl (by kernel_rfl) (by kernel_rfl) (by kernel_rfl) (fun _ _ _ h => h) (Or.inl (Or.inl ⟨by rfl, ?hy23_92⟩)) ?rest23_92
          case hy23_92 => (intro w hSw; (obtain ⟨⟨k0, k1⟩, ⟨p0, p1⟩, ⟨q0, q1⟩, ⟨r0, r1⟩⟩ := ST.out _ (Ext.trans X2 hSw); obtain ⟨c5, c6⟩ := A11.ext hSw; obtain ⟨c7, c8⟩ := A13.ext hSw); go_simp; (try with_reducible rfl))
          (try simp only [List.getElem_toArray, List.getElem_cons_zero, List.getElem_cons_succ, Act.put, List.setIfInBounds_toArray, List.set_cons_zero, List.set_cons_succ])
          refine' wpAnyR_take (i := 24) (v := ?v24_93) Ext.refl (fun _ _ _ => Ext.trans) rfl (by kernel_rfl) (by kernel_rfl) (by kernel_rfl) (fun _ _ _ h => h) (Or.inl (Or.inl ⟨by rfl, ?hy24_93⟩)) ?rest24_93
          case hy24_93 => (intro w hSw; (obtain ⟨⟨k0, k1⟩, ⟨p0, p1⟩, ⟨q0, q1⟩, ⟨r0, r1⟩⟩ := ST.out _ (Ext.trans X2 hSw); obtain ⟨c5, c6⟩ := A11.ext hSw; obtain ⟨c7, c8⟩ := A13.ext hSw); go_simp; (try with_reducible rfl))
          (try simp only [List.getElem_toArray, List.getElem_cons_zero, List.getElem_cons_succ, Act.put, List.setIfInBounds_toArray, List.set_cons_zero, List.set_cons_succ])
          refine' wpAnyR_take (i := 25) (v := ?v25_94) Ext.refl (fun _ _ _ => Ext.trans) rfl (by kernel_rfl) (by kernel_rfl) (by kernel_rfl) (fun _ _ _ h => h) (Or.inl (Or.inl ⟨by rfl, ?hy25_94⟩)) ?rest25_94
          case hy25_94 => (intro w hSw; (obtain ⟨⟨k0, k1⟩, ⟨p0, p1⟩, ⟨q0, q1⟩, ⟨r0, r1⟩⟩ := ST.out _ (Ext.trans X2 hSw); obtain ⟨c5, c6⟩ := A11.ext hSw; obtain ⟨c7, c8⟩ := A13.ext hSw); go_simp; (try with_reducible rfl))
          (try simp only [List.getElem_toArray, List.getElem_cons_zero, List.getElem_cons_succ, Act.put, List.setIfInBounds_toArray, List.set_cons_zero, List.set_cons_succ])
          refine' wpAnyR_take (i := 26) (v := ?v26_95) Ext.refl (fun _ _ _ => Ext.trans) rfl (by kernel_rfl) (by kernel_rfl) (by kernel_rfl) (fun _ _ _ h => h) (Or.inl (Or.inl ⟨by rfl, ?hy26_95⟩)) ?rest26_95
          case hy26_95 => (intro w hSw; (obtain ⟨⟨k0, k1⟩, ⟨p0, p1⟩, ⟨q0, q1⟩, ⟨r0, r1⟩⟩ := ST.out _ (Ext.trans X2 hSw); obtain ⟨c5, c6⟩ := A11.ext hSw; obtain ⟨c7, c8⟩ := A13.ext hSw); go_simp; (try with_reducible rfl))
          (try simp only [List.getElem_toArray, List.getElem_cons_zero, List.getElem_cons_succ, Act.put, List.setIfInBounds_toArray, List.set_cons_zero, List.set_cons_succ])
          refine' wpAnyR_take (i := 27) (v := ?v27_96) Ext.refl (fun _ _ _ => Ext.trans) rfl (by kernel_rfl) (by kernel_rfl) (by kernel_rfl) (fun _ _ _ h => h) (Or.inl (Or.inl ⟨by rfl, ?hy27_96⟩)) ?rest27_96
          case hy27_96 => (intro w hSw; (obtain ⟨⟨k0, k1⟩, ⟨p0, p1⟩, ⟨q0, q1⟩, ⟨r0, r1⟩⟩ := ST.out _ (Ext.trans X2 hSw); obtain ⟨c5, c6⟩ := A11.ext hSw; obtain ⟨c7, c8⟩ := A13.ext hSw); go_simp; (try with_reducible rfl))
          (try simp only [List.getElem_toArray, List.getElem_cons_zero, List.getElem_cons_succ, Act.put, List.setIfInBounds_toArray, List.set_cons_zero, List.set_cons_succ])
          refine' wpAnyR_take (i := 28) (v := ?v28_97) Ext.refl (fun _ _ _ => Ext.trans) rfl (by kernel_rfl) (by kernel_rfl) (by kernel_rfl) (fun _ _ _ h => h) (Or.inl (Or.inl ⟨by rfl, ?hy28_97⟩)) ?rest28_97
          case hy28_97 => (intro w hSw; (obtain ⟨⟨k0, k1⟩, ⟨p0, p1⟩, ⟨q0, q1⟩, ⟨r0, r1⟩⟩ := ST.out _ (Ext.trans X2 hSw); obtain ⟨c5, c6⟩ := A11.ext hSw; obtain ⟨c7, c8⟩ := A13.ext hSw); go_simp; (try with_reducible rfl))
          (try simp only [List.getElem_toArray, List.getElem_cons_zero, List.getElem_cons_succ, Act.put, List.setIfInBounds_toArray, List.set_cons_zero, List.set_cons_succ])
          refine' wpAnyR_take (i := 29) (v := ?v29_98) Ext.refl (fun _ _ _ => Ext.trans) rfl (by kernel_rfl) (by kernel_rfl) (by kernel_rfl) (fun _ _ _ h => h) (Or.inl (Or.inl ⟨by rfl, ?hy29_98⟩)) ?rest29_98
          case hy29_98 => (intro w hSw; (obtain ⟨⟨k0, k1⟩, ⟨p0, p1⟩, ⟨q0, q1⟩, ⟨r0, r1⟩⟩ := ST.out _ (Ext.trans X2 hSw); obtain ⟨c5, c6⟩ := A11.ext hSw; obtain ⟨c7, c8⟩ := A13.ext hSw); go_simp; (try with_reducible rfl))
          (try simp only [List.getElem_toArray, List.getElem_cons_zero, List.getElem_cons_succ, Act.put, List.setIfInBounds_toArray, List.set_cons_zero, List.set_cons_succ])
          refine' wpAnyR_take (i := 30) (v := ?v30_99) Ext.refl (fun _ _ _ => Ext.trans) rfl (by kernel_rfl) (by kernel_rfl) (by kernel_rfl) (fun _ _ _ h => h) (Or.inl (Or.inl ⟨by rfl, ?hy30_99⟩)) ?rest30_99
          case hy30_99 => (intro w hSw; (obtain ⟨⟨k0, k1⟩, ⟨p0, p1⟩, ⟨q0, q1⟩, ⟨r0, r1⟩⟩ := ST.out _ (Ext.trans X2 hSw); obtain ⟨c5, c6⟩ := A11.ext hSw; obtain ⟨c7, c8⟩ := A13.ext hSw); go_simp; (try with_reducible rfl))
          (try simp only [List.getElem_toArray, List.getElem_cons_zero, List.getElem_cons_succ, Act.put, List.setIfInBounds_toArray, List.set_cons_zero, List.set_cons_succ])
          refine' wpAnyR_take (i := 31) (v := undef) Ext.refl (fun _ _ _ => Ext.trans) rfl (by kernel_rfl) (by kernel_rfl) (by kernel_rfl) (fun _ _ _ h => h) (Or.inl (Or.inr ⟨by rfl, rfl⟩)) ?rest31_100
          (try simp only [List.getElem_toArray, List.getElem_cons_zero, List.getElem_cons_succ, Act.put, List.setIfInBounds_toArray, List.set_cons_zero, List.set_cons_succ])
          refine' wpAnyR_take (i := 32) (v := undef) Ext.refl (fun _ _ _ => Ext.trans) rfl (by kernel_rfl) (by kernel_rfl) (by kernel_rfl) (fun _ _ _ h => h) (Or.inl (Or.inr ⟨by rfl, rfl⟩)) ?rest32_101
          (try simp only [List.getElem_toArray, List.getElem_cons_zero, List.getElem_cons_succ, Act.put, List.setIfInBounds_toArray, List.set_cons_zero, List.set_cons_succ])
          refine' wpAnyR_take (i := 33) (v := undef) Ext.refl (fun _ _ _ => Ext.trans) rfl (by kernel_rfl) (by kernel_rfl) (by kernel_rfl) (fun _ _ _ h => h) (Or.inl (Or.inr ⟨by rfl, rfl⟩)) ?rest33_102
          (try simp only [List.getElem_toArray, List.getElem_cons_zero, List.getElem_cons_succ, Act.put, List.setIfInBounds_toArray, List.set_cons_zero, List.set_cons_succ])
          refine' wpAnyR_take (i := 34) (v := undef) Ext.refl (fun _ _ _ => Ext.trans) rfl (by kernel_rfl) (by kernel_rfl) (by kernel_rfl) (fun _ _ _ h => h) (Or.inl (Or.inr ⟨by rfl, rfl⟩)) ?rest34_103
          (try simp only [List.getElem_toArray, List.getElem_cons_zero, List.getElem_cons_succ, Act.put, List.setIfInBounds_toArray, List.set_cons_zero, List.set_cons_succ])
          refine' wpAnyR_take (i := 35) (v := undef) Ext.refl (fun _ _ _ => Ext.trans) rfl (by kernel_rfl) (by kernel_rfl) (by kernel_rfl) (fun _ _ _ h => h) (Or.inl (Or.inr ⟨by rfl, rfl⟩)) ?rest35_104
          (try simp only [List.getElem_toArray, List.getElem_cons_zero, List.getElem_cons_succ, Act.put, List.setIfInBounds_toArray, List.set_cons_zero, List.set_cons_succ])
          refine' wpAnyR_take (i := 36) (v := undef) Ext.refl (fun _ _ _ => Ext.trans) rfl (by kernel_rfl) (by kernel_rfl) (by kernel_rfl) (fun _ _ _ h => h) (Or.inl (Or.inr ⟨by rfl, rfl⟩)) ?rest36_105
          (try simp only [List.getElem_toArray, List.getElem_cons_zero, List.getElem_cons_succ, Act.put, List.setIfInBounds_toArray, List.set_cons_zero, List.set_cons_succ])
          refine' wpAnyR_take (i := 37) (v := undef) Ext.refl (fun _ _ _ => Ext.trans) rfl (by kernel_rfl) (by kernel_rfl) (by kernel_rfl) (fun _ _ _ h => h) (Or.inl (Or.inr ⟨by rfl, rfl⟩)) ?rest37_106
          (try simp only [List.getElem_toArray, List.getElem_cons_zero, List.getElem_cons_succ, Act.put, List.setIfInBounds_toArray, List.set_cons_zero, List.set_cons_succ])
          refine' wpAnyR_take (i := 38) (v := undef) Ext.refl (fun _ _ _ => Ext.trans) rfl (by kernel_rfl) (by kernel_rfl) (by kernel_rfl) (fun _ _ _ h => h) (Or.inl (Or.inr ⟨by rfl, rfl⟩)) ?rest38_107
          (try simp only [List.getElem_toArray, List.getElem_cons_zero, List.getElem_cons_succ, Act.put, List.setIfInBounds_toArray, List.set_cons_zero, List.set_cons_succ])
          refine' wpAnyR_take (i := 39) (v := ?v39_108) Ext.refl (fun _ _ _ => Ext.trans) rfl (by kernel_rfl) (by kernel_rfl) (by kernel_rfl) (fun _ _ _ h => h) (Or.inl (Or.inl ⟨by rfl, ?hy39_108⟩)) ?rest39_108
          case hy39_108 => (intro w hSw; (obtain ⟨⟨k0, k1⟩, ⟨p0, p1⟩, ⟨q0, q1⟩, ⟨r0, r1⟩⟩ := ST.out _ (Ext.trans X2 hSw); obtain ⟨c5, c6⟩ := A11.ext hSw; obtain ⟨c7, c8⟩ := A13.ext hSw); go_simp; (try with_reducible rfl))
          (try simp only [List.getElem_toArray, List.getElem_cons_zero, List.getElem_cons_succ, Act.put, List.setIfInBounds_toArray, List.set_cons_zero, List.set_cons_succ])
          refine' wpAnyR_take (i := 40) (v := ?v40_109) Ext.refl (fun _ _ _ => Ext.trans) rfl (by kernel_rfl) (by kernel_rfl) (by kernel_rfl) (fun _ _ _ h => h) (Or.inl (Or.inl ⟨by rfl, ?hy40_109⟩)) ?rest40_109
          case hy40_109 => (intro w hSw; (obtain ⟨⟨k0, k1⟩, ⟨p0, p1⟩, ⟨q0, q1⟩, ⟨r0, r1⟩⟩ := ST.out _ (Ext.trans X2 hSw); obtain ⟨c5, c6⟩ := A11.ext hSw; obtain ⟨c7, c8⟩ := A13.ext hSw); go_simp; (try with_reducible rfl))
          (try simp only [List.getElem_toArray, List.getElem_cons_zero, List.getElem_cons_succ, Act.put, List.setIfInBounds_toArray, List.set_cons_zero, List.set_cons_succ])
          refine wpAnyR_done (by kernel_rfl) ?_ _
          intro wh _ Ewh
          obtain ⟨k0, k1⟩ := (ST.out _ (Ext.trans X2 Ewh)).1
          go_wp2_with (first | (go_at_call 17; refine (known_any _ (hg.out.ext (Ext.trans X2 Ewh))).mono ?_; rintro e x6 ⟨rfl, y6⟩))
          go_returns
          exact ⟨rfl, Ext.trans E0.out (Ext.trans X2 (Ext.trans Ewh y6))⟩
      · rcases hpro.out with hp | hp
        · clear hsum hpro H7
          obtain ⟨rfl, rfl, -⟩ := hs
          obtain ⟨rfl, rfl, m1, m2⟩ := hp
          have hw : IntKind.i64.wrap (a * b) = a * b := IntWalk.i64_in _ (by omega)
          generalize hpq : a * b = p at hw A13
          have hw2 : IntKind.i64.wrap (a * b) = p := by rw [hpq]; exact hw
          clear hw m1 m2 hpq
          refine wp_region_seq (S := fun W => Ext wc W) (R := Ext) (by kernel_rfl) Ext.refl ?_ ?_
          · exact (by repeat' (first | (with_reducible exact Ext.refl _) | (with_reducible assumption) | (with_reducible refine Ext.alloc ?_ _) | (with_reducible refine Ext.drew ?_) | (with_reducible refine Ext.drewN ?_ _) | (with_reducible refine Ext.setCell ?_ ?_ _) | (with_reducible refine Ext.trans ?_ (by assumption)) | go_size))
          refine' wpAnyR_take (i := 0) (v := ?v0_110) Ext.refl (fun _ _ _ => Ext.trans) rfl (by kernel_rfl) (by kernel_rfl) (by kernel_rfl) (fun _ _ _ h => h) (Or.inl (Or.inl ⟨by rfl, ?hy0_110⟩)) ?rest0_110
          case hy0_110 => (intro w hSw; (obtain ⟨⟨k0, k1⟩, ⟨p0, p1⟩, ⟨q0, q1⟩, ⟨r0, r1⟩⟩ := ST.out _ (Ext.trans X2 hSw); obtain ⟨c5, c6⟩ := A11.ext hSw; obtain ⟨c7, c8⟩ := A13.ext hSw); go_simp; (try with_reducible rfl))
          (try simp only [List.getElem_toArray, List.getElem_cons_zero, Act.put, List.setIfInBounds_toArray, List.set_cons_zero, List.set_cons_succ])
          refine' wpAnyR_take (i := 1) (v := ?v1_111) Ext.refl (fun _ _ _ => Ext.trans) rfl (by kernel_rfl) (by kernel_rfl) (by kernel_rfl) (fun _ _ _ h => h) (Or.inl (Or.inl ⟨by rfl, ?hy1_111⟩)) ?rest1_111
          case hy1_111 => (intro w hSw; (obtain ⟨⟨k0, k1⟩, ⟨p0, p1⟩, ⟨q0, q1⟩, ⟨r0, r1⟩⟩ := ST.out _ (Ext.trans X2 hSw); obtain ⟨c5, c6⟩ := A11.ext hSw; obtain ⟨c7, c8⟩ := A13.ext hSw); go_simp; (try with_reducible rfl))
          (try simp only [List.getElem_toArray, List.getElem_cons_zero, List.getElem_cons_succ, Act.put, List.setIfInBounds_toArray, List.set_cons_zero, List.set_cons_succ])
          refine' wpAnyR_take (i := 2) (v := ?v2_112) Ext.refl (fun _ _ _ => Ext.trans) rfl (by kernel_rfl) (by kernel_rfl) (by kernel_rfl) (fun _ _ _ h => h) (Or.inl (Or.inl ⟨by rfl, ?hy2_112⟩)) ?rest2_112
          case hy2_112 => (intro w hSw; (obtain ⟨⟨k0, k1⟩, ⟨p0, p1⟩, ⟨q0, q1⟩, ⟨r0, r1⟩⟩ := ST.out _ (Ext.trans X2 hSw); obtain ⟨c5, c6⟩ := A11.ext hSw; obtain ⟨c7, c8⟩ := A13.ext hSw); go_simp; (try with_reducible rfl))
          (try simp only [List.getElem_toArray, List.getElem_cons_zero, List.getElem_cons_succ, Act.put, List.setIfInBounds_toArray, List.set_cons_zero, List.set_cons_succ])
          refine' wpAnyR_take (i := 3) (v := ?v3_113) Ext.refl (fun _ _ _ => Ext.trans) rfl (by kernel_rfl) (by kernel_rfl) (by kernel_rfl) (fun _ _ _ h => h) (Or.inl (Or.inl ⟨by rfl, ?hy3_113⟩)) ?rest3_113
          case hy3_113 => (intro w hSw; (obtain ⟨⟨k0, k1⟩, ⟨p0, p1⟩, ⟨q0, q1⟩, ⟨r0, r1⟩⟩ := ST.out _ (Ext.trans X2 hSw); obtain ⟨c5, c6⟩ := A11.ext hSw; obtain ⟨c7, c8⟩ := A13.ext hSw); go_simp; (try with_reducible rfl))
          (try simp only [List.getElem_toArray, List.getElem_cons_zero, List.getElem_cons_succ, Act.put, List.setIfInBounds_toArray, List.set_cons_zero, List.set_cons_succ])
          refine' wpAnyR_take (i := 4) (v := undef) Ext.refl (fun _ _ _ => Ext.trans) rfl (by kernel_rfl) (by kernel_rfl) (by kernel_rfl) (fun _ _ _ h => h) (Or.inl (Or.inr ⟨by rfl, rfl⟩)) ?rest4_114
          (try simp only [List.getElem_toArray, List.getElem_cons_zero, List.getElem_cons_succ, Act.put, List.setIfInBounds_toArray, List.set_cons_zero, List.set_cons_succ])
          refine' wpAnyR_take (i := 5) (v := undef) Ext.refl (fun _ _ _ => Ext.trans) rfl (by kernel_rfl) (by kernel_rfl) (by kernel_rfl) (fun _ _ _ h => h) (Or.inl (Or.inr ⟨by rfl, rfl⟩)) ?rest5_115
          (try simp only [List.getElem_toArray, List.getElem_cons_zero, List.getElem_cons_succ, Act.put, List.setIfInBounds_toArray, List.set_cons_zero, List.set_cons_succ])
          refine' wpAnyR_take (i := 6) (v := undef) Ext.refl (fun _ _ _ => Ext.trans) rfl (by kernel_rfl) (by kernel_rfl) (by kernel_rfl) (fun _ _ _ h => h) (Or.inl (Or.inr ⟨by rfl, rfl⟩)) ?rest6_116
          (try simp only [List.getElem_toArray, List.getElem_cons_zero, List.getElem_cons_succ, Act.put, List.setIfInBounds_toArray, List.set_cons_zero, List.set_cons_succ])
          refine' wpAnyR_take (i := 7) (v := undef) Ext.refl (fun _ _ _ => Ext.trans) rfl (by kernel_rfl) (by kernel_rfl) (by kernel_rfl) (fun _ _ _ h => h) (Or.inl (Or.inr ⟨by rfl, rfl⟩)) ?rest7_117
          (try simp only [List.getElem_toArray, List.getElem_cons_zero, List.getElem_cons_succ, Act.put, List.setIfInBounds_toArray, List.set_cons_zero, List.set_cons_succ])
          refine' wpAnyR_take (i := 8) (v := undef) Ext.refl (fun _ _ _ => Ext.trans) rfl (by kernel_rfl) (by kernel_rfl) (by kernel_rfl) (fun _ _ _ h => h) (Or.inl (Or.inr ⟨by rfl, rfl⟩)) ?rest8_118
          (try simp only [List.getElem_toArray, List.getElem_cons_zero, List.getElem_cons_succ, Act.put, List.setIfInBounds_toArray, List.set_cons_zero, List.set_cons_succ])
          refine' wpAnyR_take (i := 9) (v := undef) Ext.refl (fun _ _ _ => Ext.trans) rfl (by kernel_rfl) (by kernel_rfl) (by kernel_rfl) (fun _ _ _ h => h) (Or.inl (Or.inr ⟨by rfl, rfl⟩)) ?rest9_119
          (try simp only [List.getElem_toArray, List.getElem_cons_zero, List.getElem_cons_succ, Act.put, List.setIfInBounds_toArray, List.set_cons_zero, List.set_cons_succ])
          refine' wpAnyR_take (i := 10) (v := ?v10_120) Ext.refl (fun _ _ _ => Ext.trans) rfl (by kernel_rfl) (by kernel_rfl) (by kernel_rfl) (fun _ _ _ h => h) (Or.inl (Or.inl ⟨by rfl, ?hy10_120⟩)) ?rest10_120
          case hy10_120 => (intro w hSw; (obtain ⟨⟨k0, k1⟩, ⟨p0, p1⟩, ⟨q0, q1⟩, ⟨r0, r1⟩⟩ := ST.out _ (Ext.trans X2 hSw); obtain ⟨c5, c6⟩ := A11.ext hSw; obtain ⟨c7, c8⟩ := A13.ext hSw); go_simp; (try with_reducible rfl))
          (try simp only [List.getElem_toArray, List.getElem_cons_zero, List.getElem_cons_succ, Act.put, List.setIfInBounds_toArray, List.set_cons_zero, List.set_cons_succ])
          refine' wpAnyR_take (i := 11) (v := ?v11_121) Ext.refl (fun _ _ _ => Ext.trans) rfl (by kernel_rfl) (by kernel_rfl) (by kernel_rfl) (fun _ _ _ h => h) (Or.inl (Or.inl ⟨by rfl, ?hy11_121⟩)) ?rest11_121
          case hy11_121 => (intro w hSw; (obtain ⟨⟨k0, k1⟩, ⟨p0, p1⟩, ⟨q0, q1⟩, ⟨r0, r1⟩⟩ := ST.out _ (Ext.trans X2 hSw); obtain ⟨c5, c6⟩ := A11.ext hSw; obtain ⟨c7, c8⟩ := A13.ext hSw); go_simp; (try with_reducible rfl))
          (try simp only [List.getElem_toArray, List.getElem_cons_zero, List.getElem_cons_succ, Act.put, List.setIfInBounds_toArray, List.set_cons_zero, List.set_cons_succ])
          refine' wpAnyR_take (i := 12) (v := ?v12_122) Ext.refl (fun _ _ _ => Ext.trans) rfl (by kernel_rfl) (by kernel_rfl) (by kernel_rfl) (fun _ _ _ h => h) (Or.inl (Or.inl ⟨by rfl, ?hy12_122⟩)) ?rest12_122
          case hy12_122 => (intro w hSw; (obtain ⟨⟨k0, k1⟩, ⟨p0, p1⟩, ⟨q0, q1⟩, ⟨r0, r1⟩⟩ := ST.out _ (Ext.trans X2 hSw); obtain ⟨c5, c6⟩ := A11.ext hSw; obtain ⟨c7, c8⟩ := A13.ext hSw); go_simp; (try with_reducible rfl))
          (try simp only [List.getElem_toArray, List.getElem_cons_zero, List.getElem_cons_succ, Act.put, List.setIfInBounds_toArray, List.set_cons_zero, List.set_cons_succ])
          refine' wpAnyR_take (i := 13) (v := ?v13_123) Ext.refl (fun _ _ _ => Ext.trans) rfl (by kernel_rfl) (by kernel_rfl) (by kernel_rfl) (fun _ _ _ h => h) (Or.inl (Or.inl ⟨by rfl, ?hy13_123⟩)) ?rest13_123
          case hy13_123 => (intro w hSw; (obtain ⟨⟨k0, k1⟩, ⟨p0, p1⟩, ⟨q0, q1⟩, ⟨r0, r1⟩⟩ := ST.out _ (Ext.trans X2 hSw); obtain ⟨c5, c6⟩ := A11.ext hSw; obtain ⟨c7, c8⟩ := A13.ext hSw); go_simp; (try with_reducible rfl))
          (try simp only [List.getElem_toArray, List.getElem_cons_zero, List.getElem_cons_succ, Act.put, List.setIfInBounds_toArray, List.set_cons_zero, List.set_cons_succ])
          refine' wpAnyR_take (i := 14) (v := ?v14_124) Ext.refl (fun _ _ _ => Ext.trans) rfl (by kernel_rfl) (by kernel_rfl) (by kernel_rfl) (fun _ _ _ h => h) (Or.inl (Or.inl ⟨by rfl, ?hy14_124⟩)) ?rest14_124
          case hy14_124 => (intro w hSw; (obtain ⟨⟨k0, k1⟩, ⟨p0, p1⟩, ⟨q0, q1⟩, ⟨r0, r1⟩⟩ := ST.out _ (Ext.trans X2 hSw); obtain ⟨c5, c6⟩ := A11.ext hSw; obtain ⟨c7, c8⟩ := A13.ext hSw); go_simp; (try with_reducible rfl))
          (try simp only [List.getElem_toArray, List.getElem_cons_zero, List.getElem_cons_succ, Act.put, List.setIfInBounds_toArray, List.set_cons_zero, List.set_cons_succ])
          refine' wpAnyR_take (i := 15) (v := ?v15_125) Ext.refl (fun _ _ _ => Ext.trans) rfl (by kernel_rfl) (by kernel_rfl) (by kernel_rfl) (fun _ _ _ h => h) (Or.inl (Or.inl ⟨by rfl, ?hy15_125⟩)) ?rest15_125
          case hy15_125 => (intro w hSw; (obtain ⟨⟨k0, k1⟩, ⟨p0, p1⟩, ⟨q0, q1⟩, ⟨r0, r1⟩⟩ := ST.out _ (Ext.trans X2 hSw); obtain ⟨c5, c6⟩ := A11.ext hSw; obtain ⟨c7, c8⟩ := A13.ext hSw); go_simp; (try with_reducible rfl))
          (try simp only [List.getElem_toArray, List.getElem_cons_zero, List.getElem_cons_succ, Act.put, List.setIfInBounds_toArray, List.set_cons_zero, List.set_cons_succ])
          refine' wpAnyR_take (i := 16) (v := undef) Ext.refl (fun _ _ _ => Ext.trans) rfl (by kernel_rfl) (by kernel_rfl) (by kernel_rfl) (fun _ _ _ h => h) (Or.inl (Or.inr ⟨by rfl, rfl⟩)) ?rest16_126
          (try simp only [List.getElem_toArray, List.getElem_cons_zero, List.getElem_cons_succ, Act.put, List.setIfInBounds_toArray, List.set_cons_zero, List.set_cons_succ])
          refine' wpAnyR_take (i := 17) (v := undef) Ext.refl (fun _ _ _ => Ext.trans) rfl (by kernel_rfl) (by kernel_rfl) (by kernel_rfl) (fun _ _ _ h => h) (Or.inl (Or.inr ⟨by rfl, rfl⟩)) ?rest17_127
          (try simp only [List.getElem_toArray, List.getElem_cons_zero, List.getElem_cons_succ, Act.put, List.setIfInBounds_toArray, List.set_cons_zero, List.set_cons_succ])
          refine' wpAnyR_take (i := 18) (v := undef) Ext.refl (fun _ _ _ => Ext.trans) rfl (by kernel_rfl) (by kernel_rfl) (by kernel_rfl) (fun _ _ _ h => h) (Or.inl (Or.inr ⟨by rfl, rfl⟩)) ?rest18_128
          (try simp only [List.getElem_toArray, List.getElem_cons_zero, List.getElem_cons_succ, Act.put, List.setIfInBounds_toArray, List.set_cons_zero, List.set_cons_succ])
          refine' wpAnyR_take (i := 19) (v := undef) Ext.refl (fun _ _ _ => Ext.trans) rfl (by kernel_rfl) (by kernel_rfl) (by kernel_rfl) (fun _ _ _ h => h) (Or.inl (Or.inr ⟨by rfl, rfl⟩)) ?rest19_129
          (try simp only [List.getElem_toArray, List.getElem_cons_zero, List.getElem_cons_succ, Act.put, List.setIfInBounds_toArray, List.set_cons_zero, List.set_cons_succ])
          refine' wpAnyR_take (i := 20) (v := undef) Ext.refl (fun _ _ _ => Ext.trans) rfl (by kernel_rfl) (by kernel_rfl) (by kernel_rfl) (fun _ _ _ h => h) (Or.inl (Or.inr ⟨by rfl, rfl⟩)) ?rest20_130
          (try simp only [List.getElem_toArray, List.getElem_cons_zero, List.getElem_cons_succ, Act.put, List.setIfInBounds_toArray, List.set_cons_zero, List.set_cons_succ])
          refine' wpAnyR_take (i := 21) (v := undef) Ext.refl (fun _ _ _ => Ext.trans) rfl (by kernel_rfl) (by kernel_rfl) (by kernel_rfl) (fun _ _ _ h => h) (Or.inl (Or.inr ⟨by rfl, rfl⟩)) ?rest21_131
          (try simp only [List.getElem_toArray, List.getElem_cons_zero, List.getElem_cons_succ, Act.put, List.setIfInBounds_toArray, List.set_cons_zero, List.set_cons_succ])
          refine' wpAnyR_take (i := 22) (v := undef) Ext.refl (fun _ _ _ => Ext.trans) rfl (by kernel_rfl) (by kernel_rfl) (by kernel_rfl) (fun _ _ _ h => h) (Or.inl (Or.inr ⟨by rfl, rfl⟩)) ?rest22_132
          (try simp only [List.getElem_toArray, List.getElem_cons_zero, List.getElem_cons_succ, Act.put, List.setIfInBounds_toArray, List.set_cons_zero, List.set_cons_succ])
          refine' wpAnyR_take (i := 23) (v := undef) Ext.refl (fun _ _ _ => Ext.trans) rfl (by kernel_rfl) (by kernel_rfl) (by kernel_rfl) (fun _ _ _ h => h) (Or.inl (Or.inr ⟨by rfl, rfl⟩)) ?rest23_133
          (try simp only [List.getElem_toArray, List.getElem_cons_zero, List.getElem_cons_succ, Act.put, List.setIfInBounds_toArray, List.set_cons_zero, List.set_cons_succ])
          refine' wpAnyR_take (i := 24) (v := ?v24_134) Ext.refl (fun _ _ _ => Ext.trans) rfl (by kernel_rfl) (by kernel_rfl) (by kernel_rfl) (fun _ _ _ h => h) (Or.inl (Or.inl ⟨by rfl, ?hy24_134⟩)) ?rest24_134
          case hy24_134 => (intro w hSw; (obtain ⟨⟨k0, k1⟩, ⟨p0, p1⟩, ⟨q0, q1⟩, ⟨r0, r1⟩⟩ := ST.out _ (Ext.trans X2 hSw); obtain ⟨c5, c6⟩ := A11.ext hSw; obtain ⟨c7, c8⟩ := A13.ext hSw); go_simp; (try with_reducible rfl))
          (try simp only [List.getElem_toArray, List.getElem_cons_zero, List.getElem_cons_succ, Act.put, List.setIfInBounds_toArray, List.set_cons_zero, List.set_cons_succ])
          refine' wpAnyR_take (i := 25) (v := ?v25_135) Ext.refl (fun _ _ _ => Ext.trans) rfl (by kernel_rfl) (by kernel_rfl) (by kernel_rfl) (fun _ _ _ h => h) (Or.inl (Or.inl ⟨by rfl, ?hy25_135⟩)) ?rest25_135
          case hy25_135 => (intro w hSw; (obtain ⟨⟨k0, k1⟩, ⟨p0, p1⟩, ⟨q0, q1⟩, ⟨r0, r1⟩⟩ := ST.out _ (Ext.trans X2 hSw); obtain ⟨c5, c6⟩ := A11.ext hSw; obtain ⟨c7, c8⟩ := A13.ext hSw); go_simp; (try with_reducible rfl))
          (try simp only [List.getElem_toArray, List.getElem_cons_zero, List.getElem_cons_succ, Act.put, List.setIfInBounds_toArray, List.set_cons_zero, List.set_cons_succ])
          refine' wpAnyR_take (i := 26) (v := ?v26_136) Ext.refl (fun _ _ _ => Ext.trans) rfl (by kernel_rfl) (by kernel_rfl) (by kernel_rfl) (fun _ _ _ h => h) (Or.inl (Or.inl ⟨by rfl, ?hy26_136⟩)) ?rest26_136
          case hy26_136 => (intro w hSw; (obtain ⟨⟨k0, k1⟩, ⟨p0, p1⟩, ⟨q0, q1⟩, ⟨r0, r1⟩⟩ := ST.out _ (Ext.trans X2 hSw); obtain ⟨c5, c6⟩ := A11.ext hSw; obtain ⟨c7, c8⟩ := A13.ext hSw); go_simp; (try with_reducible rfl))
          (try simp only [List.getElem_toArray, List.getElem_cons_zero, List.getElem_cons_succ, Act.put, List.setIfInBounds_toArray, List.set_cons_zero, List.set_cons_succ])
          refine' wpAnyR_take (i := 27) (v := ?v27_137) Ext.refl (fun _ _ _ => Ext.trans) rfl (by kernel_rfl) (by kernel_rfl) (by kernel_rfl) (fun _ _ _ h => h) (Or.inl (Or.inl ⟨by rfl, ?hy27_137⟩)) ?rest27_137
          case hy27_137 => (intro w hSw; (obtain ⟨⟨k0, k1⟩, ⟨p0, p1⟩, ⟨q0, q1⟩, ⟨r0, r1⟩⟩ := ST.out _ (Ext.trans X2 hSw); obtain ⟨c5, c6⟩ := A11.ext hSw; obtain ⟨c7, c8⟩ := A13.ext hSw); go_simp; (try with_reducible rfl))
          (try simp only [List.getElem_toArray, List.getElem_cons_zero, List.getElem_cons_succ, Act.put, List.setIfInBounds_toArray, List.set_cons_zero, List.set_cons_succ])
          refine' wpAnyR_take (i := 28) (v := ?v28_138) Ext.refl (fun _ _ _ => Ext.trans) rfl (by kernel_rfl) (by kernel_rfl) (by kernel_rfl) (fun _ _ _ h => h) (Or.inl (Or.inl ⟨by rfl, ?hy28_138⟩)) ?rest28_138
          case hy28_138 => (intro w hSw; (obtain ⟨⟨k0, k1⟩, ⟨p0, p1⟩, ⟨q0, q1⟩, ⟨r0, r1⟩⟩ := ST.out _ (Ext.trans X2 hSw); obtain ⟨c5, c6⟩ := A11.ext hSw; obtain ⟨c7, c8⟩ := A13.ext hSw); go_simp; (try with_reducible rfl))
          (try simp only [List.getElem_toArray, List.getElem_cons_zero, List.getElem_cons_succ, Act.put, List.setIfInBounds_toArray, List.set_cons_zero, List.set_cons_succ])
          refine' wpAnyR_take (i := 29) (v := ?v29_139) Ext.refl (fun _ _ _ => Ext.trans) rfl (by kernel_rfl) (by kernel_rfl) (by kernel_rfl) (fun _ _ _ h => h) (Or.inl (Or.inl ⟨by rfl, ?hy29_139⟩)) ?rest29_139
          case hy29_139 => (intro w hSw; (obtain ⟨⟨k0, k1⟩, ⟨p0, p1⟩, ⟨q0, q1⟩, ⟨r0, r1⟩⟩ := ST.out _ (Ext.trans X2 hSw); obtain ⟨c5, c6⟩ := A11.ext hSw; obtain ⟨c7, c8⟩ := A13.ext hSw); go_simp; (try with_reducible rfl))
          (try simp only [List.getElem_toArray, List.getElem_cons_zero, List.getElem_cons_succ, Act.put, List.setIfInBounds_toArray, List.set_cons_zero, List.set_cons_succ])
          refine' wpAnyR_take (i := 30) (v := ?v30_140) Ext.refl (fun _ _ _ => Ext.trans) rfl (by kernel_rfl) (by kernel_rfl) (by kernel_rfl) (fun _ _ _ h => h) (Or.inl (Or.inl ⟨by rfl, ?hy30_140⟩)) ?rest30_140
          case hy30_140 => (intro w hSw; (obtain ⟨⟨k0, k1⟩, ⟨p0, p1⟩, ⟨q0, q1⟩, ⟨r0, r1⟩⟩ := ST.out _ (Ext.trans X2 hSw); obtain ⟨c5, c6⟩ := A11.ext hSw; obtain ⟨c7, c8⟩ := A13.ext hSw); go_simp; (try with_reducible rfl))
          (try simp only [List.getElem_toArray, List.getElem_cons_zero, List.getElem_cons_succ, Act.put, List.setIfInBounds_toArray, List.set_cons_zero, List.set_cons_succ])
          refine' wpAnyR_take (i := 31) (v := ?v31_141) Ext.refl (fun _ _ _ => Ext.trans) rfl (by kernel_rfl) (by kernel_rfl) (by kernel_rfl) (fun _ _ _ h => h) (Or.inl (Or.inl ⟨by rfl, ?hy31_141⟩)) ?rest31_141
          case hy31_141 => (intro w hSw; (obtain ⟨⟨k0, k1⟩, ⟨p0, p1⟩, ⟨q0, q1⟩, ⟨r0, r1⟩⟩ := ST.out _ (Ext.trans X2 hSw); obtain ⟨c5, c6⟩ := A11.ext hSw; obtain ⟨c7, c8⟩ := A13.ext hSw); go_simp; (try with_reducible rfl))
          (try simp only [List.getElem_toArray, List.getElem_cons_zero, List.getElem_cons_succ, Act.put, List.setIfInBounds_toArray, List.set_cons_zero, List.set_cons_succ])
          refine' wpAnyR_take (i := 32) (v := ?v32_142) Ext.refl (fun _ _ _ => Ext.trans) rfl (by kernel_rfl) (by kernel_rfl) (by kernel_rfl) (fun _ _ _ h => h) (Or.inl (Or.inl ⟨by rfl, ?hy32_142⟩)) ?rest32_142
          case hy32_142 => (intro w hSw; (obtain ⟨⟨k0, k1⟩, ⟨p0, p1⟩, ⟨q0, q1⟩, ⟨r0, r1⟩⟩ := ST.out _ (Ext.trans X2 hSw); obtain ⟨c5, c6⟩ := A11.ext hSw; obtain ⟨c7, c8⟩ := A13.ext hSw); go_simp; (try with_reducible rfl))
          (try simp only [List.getElem_toArray, List.getElem_cons_zero, List.getElem_cons_succ, Act.put, List.setIfInBounds_toArray, List.set_cons_zero, List.set_cons_succ])
          refine' wpAnyR_take (i := 33) (v := ?v33_143) Ext.refl (fun _ _ _ => Ext.trans) rfl (by kernel_rfl) (by kernel_rfl) (by kernel_rfl) (fun _ _ _ h => h) (Or.inl (Or.inl ⟨by rfl, ?hy33_143⟩)) ?rest33_143
          case hy33_143 => (intro w hSw; (obtain ⟨⟨k0, k1⟩, ⟨p0, p1⟩, ⟨q0, q1⟩, ⟨r0, r1⟩⟩ := ST.out _ (Ext.trans X2 hSw); obtain ⟨c5, c6⟩ := A11.ext hSw; obtain ⟨c7, c8⟩ := A13.ext hSw); go_simp; (try with_reducible rfl))
          (try simp only [List.getElem_toArray, List.getElem_cons_zero, List.getElem_cons_succ, Act.put, List.setIfInBounds_toArray, List.set_cons_zero, List.set_cons_succ])
          refine' wpAnyR_take (i := 34) (v := ?v34_144) Ext.refl (fun _ _ _ => Ext.trans) rfl (by kernel_rfl) (by kernel_rfl) (by kernel_rfl) (fun _ _ _ h => h) (Or.inl (Or.inl ⟨by rfl, ?hy34_144⟩)) ?rest34_144
          case hy34_144 => (intro w hSw; (obtain ⟨⟨k0, k1⟩, ⟨p0, p1⟩, ⟨q0, q1⟩, ⟨r0, r1⟩⟩ := ST.out _ (Ext.trans X2 hSw); obtain ⟨c5, c6⟩ := A11.ext hSw; obtain ⟨c7, c8⟩ := A13.ext hSw); go_simp; (try with_reducible rfl))
          (try simp only [List.getElem_toArray, List.getElem_cons_zero, List.getElem_cons_succ, Act.put, List.setIfInBounds_toArray, List.set_cons_zero, List.set_cons_succ])
          refine' wpAnyR_take (i := 35) (v := ?v35_145) Ext.refl (fun _ _ _ => Ext.trans) rfl (by kernel_rfl) (by kernel_rfl) (by kernel_rfl) (fun _ _ _ h => h) (Or.inl (Or.inl ⟨by rfl, ?hy35_145⟩)) ?rest35_145
          case hy35_145 => (intro w hSw; (obtain ⟨⟨k0, k1⟩, ⟨p0, p1⟩, ⟨q0, q1⟩, ⟨r0, r1⟩⟩ := ST.out _ (Ext.trans X2 hSw); obtain ⟨c5, c6⟩ := A11.ext hSw; obtain ⟨c7, c8⟩ := A13.ext hSw); go_simp; (try with_reducible rfl))
          (try simp only [List.getElem_toArray, List.getElem_cons_zero, List.getElem_cons_succ, Act.put, List.setIfInBounds_toArray, List.set_cons_zero, List.set_cons_succ])
          refine' wpAnyR_take (i := 36) (v := ?v36_146) Ext.refl (fun _ _ _ => Ext.trans) rfl (by kernel_rfl) (by kernel_rfl) (by kernel_rfl) (fun _ _ _ h => h) (Or.inl (Or.inl ⟨by rfl, ?hy36_146⟩)) ?rest36_146
          case hy36_146 => (intro w hSw; (obtain ⟨⟨k0, k1⟩, ⟨p0, p1⟩, ⟨q0, q1⟩, ⟨r0, r1⟩⟩ := ST.out _ (Ext.trans X2 hSw); obtain ⟨c5, c6⟩ := A11.ext hSw; obtain ⟨c7, c8⟩ := A13.ext hSw); go_simp; (try with_reducible rfl))
          (try simp only [List.getElem_toArray, List.getElem_cons_zero, List.getElem_cons_succ, Act.put, List.setIfInBounds_toArray, List.set_cons_zero, List.set_cons_succ])
          refine' wpAnyR_take (i := 37) (v := ?v37_147) Ext.refl (fun _ _ _ => Ext.trans) rfl (by kernel_rfl) (by kernel_rfl) (by kernel_rfl) (fun _ _ _ h => h) (Or.inl (Or.inl ⟨by rfl, ?hy37_147⟩)) ?rest37_147
          case hy37_147 => (intro w hSw; (obtain ⟨⟨k0, k1⟩, ⟨p0, p1⟩, ⟨q0, q1⟩, ⟨r0, r1⟩⟩ := ST.out _ (Ext.trans X2 hSw); obtain ⟨c5, c6⟩ := A11.ext hSw; obtain ⟨c7, c8⟩ := A13.ext hSw); go_simp; (try with_reducible rfl))
          (try simp only [List.getElem_toArray, List.getElem_cons_zero, List.getElem_cons_succ, Act.put, List.setIfInBounds_toArray, List.set_cons_zero, List.set_cons_succ])
          refine' wpAnyR_take (i := 38) (v := ?v38_148) Ext.refl (fun _ _ _ => Ext.trans) rfl (by kernel_rfl) (by kernel_rfl) (by kernel_rfl) (fun _ _ _ h => h) (Or.inl (Or.inl ⟨by rfl, ?hy38_148⟩)) ?rest38_148
          case hy38_148 => (intro w hSw; (obtain ⟨⟨k0, k1⟩, ⟨p0, p1⟩, ⟨q0, q1⟩, ⟨r0, r1⟩⟩ := ST.out _ (Ext.trans X2 hSw); obtain ⟨c5, c6⟩ := A11.ext hSw; obtain ⟨c7, c8⟩ := A13.ext hSw); go_simp; (try with_reducible rfl))
          (try simp only [List.getElem_toArray, List.getElem_cons_zero, List.getElem_cons_succ, Act.put, List.setIfInBounds_toArray, List.set_cons_zero, List.set_cons_succ])
          refine' wpAnyR_take (i := 39) (v := ?v39_149) Ext.refl (fun _ _ _ => Ext.trans) rfl (by kernel_rfl) (by kernel_rfl) (by kernel_rfl) (fun _ _ _ h => h) (Or.inl (Or.inl ⟨by rfl, ?hy39_149⟩)) ?rest39_149
          case hy39_149 => (intro w hSw; (obtain ⟨⟨k0, k1⟩, ⟨p0, p1⟩, ⟨q0, q1⟩, ⟨r0, r1⟩⟩ := ST.out _ (Ext.trans X2 hSw); obtain ⟨c5, c6⟩ := A11.ext hSw; obtain ⟨c7, c8⟩ := A13.ext hSw); go_simp; (try with_reducible rfl))
          (try simp only [List.getElem_toArray, List.getElem_cons_zero, List.getElem_cons_succ, Act.put, List.setIfInBounds_toArray, List.set_cons_zero, List.set_cons_succ])
          refine' wpAnyR_take (i := 40) (v := ?v40_150) Ext.refl (fun _ _ _ => Ext.trans) rfl (by kernel_rfl) (by kernel_rfl) (by kernel_rfl) (fun _ _ _ h => h) (Or.inl (Or.inl ⟨by rfl, ?hy40_150⟩)) ?rest40_150
          case hy40_150 => (intro w hSw; (obtain ⟨⟨k0, k1⟩, ⟨p0, p1⟩, ⟨q0, q1⟩, ⟨r0, r1⟩⟩ := ST.out _ (Ext.trans X2 hSw); obtain ⟨c5, c6⟩ := A11.ext hSw; obtain ⟨c7, c8⟩ := A13.ext hSw); go_simp; (try with_reducible rfl))
          (try simp only [List.getElem_toArray, List.getElem_cons_zero, List.getElem_cons_succ, Act.put, List.setIfInBounds_toArray, List.set_cons_zero, List.set_cons_succ])
          refine wpAnyR_done (by kernel_rfl) ?_ _
          intro wh _ Ewh
          obtain ⟨k0, k1⟩ := (ST.out _ (Ext.trans X2 Ewh)).1
          go_wp2_with (first | (go_at_call 17; refine (known_any _ (hg.out.ext (Ext.trans X2 Ewh))).mono ?_; rintro e x6 ⟨rfl, y6⟩))
          go_returns
          exact ⟨rfl, Ext.trans E0.out (Ext.trans X2 (Ext.trans Ewh y6))⟩
        · clear hsum hpro H7
          obtain ⟨rfl, rfl, -⟩ := hs
          obtain ⟨rfl, rfl, -⟩ := hp
          refine wp_region_seq (S := fun W => Ext wc W) (R := Ext) (by kernel_rfl) Ext.refl ?_ ?_
          · exact (by repeat' (first | (with_reducible exact Ext.refl _) | (with_reducible assumption) | (with_reducible refine Ext.alloc ?_ _) | (with_reducible refine Ext.drew ?_) | (with_reducible refine Ext.drewN ?_ _) | (with_reducible refine Ext.setCell ?_ ?_ _) | (with_reducible refine Ext.trans ?_ (by assumption)) | go_size))
          refine' wpAnyR_take (i := 0) (v := ?v0_151) Ext.refl (fun _ _ _ => Ext.trans) rfl (by kernel_rfl) (by kernel_rfl) (by kernel_rfl) (fun _ _ _ h => h) (Or.inl (Or.inl ⟨by rfl, ?hy0_151⟩)) ?rest0_151
          case hy0_151 => (intro w hSw; (obtain ⟨⟨k0, k1⟩, ⟨p0, p1⟩, ⟨q0, q1⟩, ⟨r0, r1⟩⟩ := ST.out _ (Ext.trans X2 hSw); obtain ⟨c5, c6⟩ := A11.ext hSw; obtain ⟨c7, c8⟩ := A13.ext hSw); go_simp; (try with_reducible rfl))
          (try simp only [List.getElem_toArray, List.getElem_cons_zero, Act.put, List.setIfInBounds_toArray, List.set_cons_zero, List.set_cons_succ])
          refine' wpAnyR_take (i := 1) (v := ?v1_152) Ext.refl (fun _ _ _ => Ext.trans) rfl (by kernel_rfl) (by kernel_rfl) (by kernel_rfl) (fun _ _ _ h => h) (Or.inl (Or.inl ⟨by rfl, ?hy1_152⟩)) ?rest1_152
          case hy1_152 => (intro w hSw; (obtain ⟨⟨k0, k1⟩, ⟨p0, p1⟩, ⟨q0, q1⟩, ⟨r0, r1⟩⟩ := ST.out _ (Ext.trans X2 hSw); obtain ⟨c5, c6⟩ := A11.ext hSw; obtain ⟨c7, c8⟩ := A13.ext hSw); go_simp; (try with_reducible rfl))
          (try simp only [List.getElem_toArray, List.getElem_cons_zero, List.getElem_cons_succ, Act.put, List.setIfInBounds_toArray, List.set_cons_zero, List.set_cons_succ])
          refine' wpAnyR_take (i := 2) (v := ?v2_153) Ext.refl (fun _ _ _ => Ext.trans) rfl (by kernel_rfl) (by kernel_rfl) (by kernel_rfl) (fun _ _ _ h => h) (Or.inl (Or.inl ⟨by rfl, ?hy2_153⟩)) ?rest2_153
          case hy2_153 => (intro w hSw; (obtain ⟨⟨k0, k1⟩, ⟨p0, p1⟩, ⟨q0, q1⟩, ⟨r0, r1⟩⟩ := ST.out _ (Ext.trans X2 hSw); obtain ⟨c5, c6⟩ := A11.ext hSw; obtain ⟨c7, c8⟩ := A13.ext hSw); go_simp; (try with_reducible rfl))
          (try simp only [List.getElem_toArray, List.getElem_cons_zero, List.getElem_cons_succ, Act.put, List.setIfInBounds_toArray, List.set_cons_zero, List.set_cons_succ])
          refine' wpAnyR_take (i := 3) (v := ?v3_154) Ext.refl (fun _ _ _ => Ext.trans) rfl (by kernel_rfl) (by kernel_rfl) (by kernel_rfl) (fun _ _ _ h => h) (Or.inl (Or.inl ⟨by rfl, ?hy3_154⟩)) ?rest3_154
          case hy3_154 => (intro w hSw; (obtain ⟨⟨k0, k1⟩, ⟨p0, p1⟩, ⟨q0, q1⟩, ⟨r0, r1⟩⟩ := ST.out _ (Ext.trans X2 hSw); obtain ⟨c5, c6⟩ := A11.ext hSw; obtain ⟨c7, c8⟩ := A13.ext hSw); go_simp; (try with_reducible rfl))
          (try simp only [List.getElem_toArray, List.getElem_cons_zero, List.getElem_cons_succ, Act.put, List.setIfInBounds_toArray, List.set_cons_zero, List.set_cons_succ])
          refine' wpAnyR_take (i := 4) (v := undef) Ext.refl (fun _ _ _ => Ext.trans) rfl (by kernel_rfl) (by kernel_rfl) (by kernel_rfl) (fun _ _ _ h => h) (Or.inl (Or.inr ⟨by rfl, rfl⟩)) ?rest4_155
          (try simp only [List.getElem_toArray, List.getElem_cons_zero, List.getElem_cons_succ, Act.put, List.setIfInBounds_toArray, List.set_cons_zero, List.set_cons_succ])
          refine' wpAnyR_take (i := 5) (v := undef) Ext.refl (fun _ _ _ => Ext.trans) rfl (by kernel_rfl) (by kernel_rfl) (by kernel_rfl) (fun _ _ _ h => h) (Or.inl (Or.inr ⟨by rfl, rfl⟩)) ?rest5_156
          (try simp only [List.getElem_toArray, List.getElem_cons_zero, List.getElem_cons_succ, Act.put, List.setIfInBounds_toArray, List.set_cons_zero, List.set_cons_succ])
          refine' wpAnyR_take (i := 6) (v := undef) Ext.refl (fun _ _ _ => Ext.trans) rfl (by kernel_rfl) (by kernel_rfl) (by kernel_rfl) (fun _ _ _ h => h) (Or.inl (Or.inr ⟨by rfl, rfl⟩)) ?rest6_157
          (try simp only [List.getElem_toArray, List.getElem_cons_zero, List.getElem_cons_succ, Act.put, List.setIfInBounds_toArray, List.set_cons_zero, List.set_cons_succ])
          refine' wpAnyR_take (i := 7) (v := undef) Ext.refl (fun _ _ _ => Ext.trans) rfl (by kernel_rfl) (by kernel_rfl) (by kernel_rfl) (fun _ _ _ h => h) (Or.inl (Or.inr ⟨by rfl, rfl⟩)) ?rest7_158
          (try simp only [List.getElem_toArray, List.getElem_cons_zero, List.getElem_cons_succ, Act.put, List.setIfInBounds_toArray, List.set_cons_zero, List.set_cons_succ])
          refine' wpAnyR_take (i := 8) (v := undef) Ext.refl (fun _ _ _ => Ext.trans) rfl (by kernel_rfl) (by kernel_rfl) (by kernel_rfl) (fun _ _ _ h => h) (Or.inl (Or.inr ⟨by rfl, rfl⟩)) ?rest8_159
          (try simp only [List.getElem_toArray, List.getElem_cons_zero, List.getElem_cons_succ, Act.put, List.setIfInBounds_toArray, List.set_cons_zero, List.set_cons_succ])
          refine' wpAnyR_take (i := 9) (v := undef) Ext.refl (fun _ _ _ => Ext.trans) rfl (by kernel_rfl) (by kernel_rfl) (by kernel_rfl) (fun _ _ _ h => h) (Or.inl (Or.inr ⟨by rfl, rfl⟩)) ?rest9_160
          (try simp only [List.getElem_toArray, List.getElem_cons_zero, List.getElem_cons_succ, Act.put, List.setIfInBounds_toArray, List.set_cons_zero, List.set_cons_succ])
          refine' wpAnyR_take (i := 10) (v := ?v10_161) Ext.refl (fun _ _ _ => Ext.trans) rfl (by kernel_rfl) (by kernel_rfl) (by kernel_rfl) (fun _ _ _ h => h) (Or.inl (Or.inl ⟨by rfl, ?hy10_161⟩)) ?rest10_161
          case hy10_161 => (intro w hSw; (obtain ⟨⟨k0, k1⟩, ⟨p0, p1⟩, ⟨q0, q1⟩, ⟨r0, r1⟩⟩ := ST.out _ (Ext.trans X2 hSw); obtain ⟨c5, c6⟩ := A11.ext hSw; obtain ⟨c7, c8⟩ := A13.ext hSw); go_simp; (try with_reducible rfl))
          (try simp only [List.getElem_toArray, List.getElem_cons_zero, List.getElem_cons_succ, Act.put, List.setIfInBounds_toArray, List.set_cons_zero, List.set_cons_succ])
          refine' wpAnyR_take (i := 11) (v := ?v11_162) Ext.refl (fun _ _ _ => Ext.trans) rfl (by kernel_rfl) (by kernel_rfl) (by kernel_rfl) (fun _ _ _ h => h) (Or.inl (Or.inl ⟨by rfl, ?hy11_162⟩)) ?rest11_162
          case hy11_162 => (intro w hSw; (obtain ⟨⟨k0, k1⟩, ⟨p0, p1⟩, ⟨q0, q1⟩, ⟨r0, r1⟩⟩ := ST.out _ (Ext.trans X2 hSw); obtain ⟨c5, c6⟩ := A11.ext hSw; obtain ⟨c7, c8⟩ := A13.ext hSw); go_simp; (try with_reducible rfl))
          (try simp only [List.getElem_toArray, List.getElem_cons_zero, List.getElem_cons_succ, Act.put, List.setIfInBounds_toArray, List.set_cons_zero, List.set_cons_succ])
          refine' wpAnyR_take (i := 12) (v := ?v12_163) Ext.refl (fun _ _ _ => Ext.trans) rfl (by kernel_rfl) (by kernel_rfl) (by kernel_rfl) (fun _ _ _ h => h) (Or.inl (Or.inl ⟨by rfl, ?hy12_163⟩)) ?rest12_163
          case hy12_163 => (intro w hSw; (obtain ⟨⟨k0, k1⟩, ⟨p0, p1⟩, ⟨q0, q1⟩, ⟨r0, r1⟩⟩ := ST.out _ (Ext.trans X2 hSw); obtain ⟨c5, c6⟩ := A11.ext hSw; obtain ⟨c7, c8⟩ := A13.ext hSw); go_simp; (try with_reducible rfl))
          (try simp only [List.getElem_toArray, List.getElem_cons_zero, List.getElem_cons_succ, Act.put, List.setIfInBounds_toArray, List.set_cons_zero, List.set_cons_succ])
          refine' wpAnyR_take (i := 13) (v := ?v13_164) Ext.refl (fun _ _ _ => Ext.trans) rfl (by kernel_rfl) (by kernel_rfl) (by kernel_rfl) (fun _ _ _ h => h) (Or.inl (Or.inl ⟨by rfl, ?hy13_164⟩)) ?rest13_164
          case hy13_164 => (intro w hSw; (obtain ⟨⟨k0, k1⟩, ⟨p0, p1⟩, ⟨q0, q1⟩, ⟨r0, r1⟩⟩ := ST.out _ (Ext.trans X2 hSw); obtain ⟨c5, c6⟩ := A11.ext hSw; obtain ⟨c7, c8⟩ := A13.ext hSw); go_simp; (try with_reducible rfl))
          (try simp only [List.getElem_toArray, List.getElem_cons_zero, List.getElem_cons_succ, Act.put, List.setIfInBounds_toArray, List.set_cons_zero, List.set_cons_succ])
          refine' wpAnyR_take (i := 14) (v := ?v14_165) Ext.refl (fun _ _ _ => Ext.trans) rfl (by kernel_rfl) (by kernel_rfl) (by kernel_rfl) (fun _ _ _ h => h) (Or.inl (Or.inl ⟨by rfl, ?hy14_165⟩)) ?rest14_165
          case hy14_165 => (intro w hSw; (obtain ⟨⟨k0, k1⟩, ⟨p0, p1⟩, ⟨q0, q1⟩, ⟨r0, r1⟩⟩ := ST.out _ (Ext.trans X2 hSw); obtain ⟨c5, c6⟩ := A11.ext hSw; obtain ⟨c7, c8⟩ := A13.ext hSw); go_simp; (try with_reducible rfl))
          (try simp only [List.getElem_toArray, List.getElem_cons_zero, List.getElem_cons_succ, Act.put, List.setIfInBounds_toArray, List.set_cons_zero, List.set_cons_succ])
          refine' wpAnyR_take (i := 15) (v := ?v15_166) Ext.refl (fun _ _ _ => Ext.trans) rfl (by kernel_rfl) (by kernel_rfl) (by kernel_rfl) (fun _ _ _ h => h) (Or.inl (Or.inl ⟨by rfl, ?hy15_166⟩)) ?rest15_166
          case hy15_166 => (intro w hSw; (obtain ⟨⟨k0, k1⟩, ⟨p0, p1⟩, ⟨q0, q1⟩, ⟨r0, r1⟩⟩ := ST.out _ (Ext.trans X2 hSw); obtain ⟨c5, c6⟩ := A11.ext hSw; obtain ⟨c7, c8⟩ := A13.ext hSw); go_simp; (try with_reducible rfl))
          (try simp only [List.getElem_toArray, List.getElem_cons_zero, List.getElem_cons_succ, Act.put, List.setIfInBounds_toArray, List.set_cons_zero, List.set_cons_succ])
          refine' wpAnyR_take (i := 16) (v := undef) Ext.refl (fun _ _ _ => Ext.trans) rfl (by kernel_rfl) (by kernel_rfl) (by kernel_rfl) (fun _ _ _ h => h) (Or.inl (Or.inr ⟨by rfl, rfl⟩)) ?rest16_167
          (try simp only [List.getElem_toArray, List.getElem_cons_zero, List.getElem_cons_succ, Act.put, List.setIfInBounds_toArray, List.set_cons_zero, List.set_cons_succ])
          refine' wpAnyR_take (i := 17) (v := undef) Ext.refl (fun _ _ _ => Ext.trans) rfl (by kernel_rfl) (by kernel_rfl) (by kernel_rfl) (fun _ _ _ h => h) (Or.inl (Or.inr ⟨by rfl, rfl⟩)) ?rest17_168
          (try simp only [List.getElem_toArray, List.getElem_cons_zero, List.getElem_cons_succ, Act.put, List.setIfInBounds_toArray, List.set_cons_zero, List.set_cons_succ])
          refine' wpAnyR_take (i := 18) (v := undef) Ext.refl (fun _ _ _ => Ext.trans) rfl (by kernel_rfl) (by kernel_rfl) (by kernel_rfl) (fun _ _ _ h => h) (Or.inl (Or.inr ⟨by rfl, rfl⟩)) ?rest18_169
          (try simp only [List.getElem_toArray, List.getElem_cons_zero, List.getElem_cons_succ, Act.put, List.setIfInBounds_toArray, List.set_cons_zero, List.set_cons_succ])
          refine' wpAnyR_take (i := 19) (v := undef) Ext.refl (fun _ _ _ => Ext.trans) rfl (by kernel_rfl) (by kernel_rfl) (by kernel_rfl) (fun _ _ _ h => h) (Or.inl (Or.inr ⟨by rfl, rfl⟩)) ?rest19_170
          (try simp only [List.getElem_toArray, List.getElem_cons_zero, List.getElem_cons_succ, Act.put, List.setIfInBounds_toArray, List.set_cons_zero, List.set_cons_succ])
          refine' wpAnyR_take (i := 20) (v := undef) Ext.refl (fun _ _ _ => Ext.trans) rfl (by kernel_rfl) (by kernel_rfl) (by kernel_rfl) (fun _ _ _ h => h) (Or.inl (Or.inr ⟨by rfl, rfl⟩)) ?rest20_171
          (try simp only [List.getElem_toArray, List.getElem_cons_zero, List.getElem_cons_succ, Act.put, List.setIfInBounds_toArray, List.set_cons_zero, List.set_cons_succ])
          refine' wpAnyR_take (i := 21) (v := undef) Ext.refl (fun _ _ _ => Ext.trans) rfl (by kernel_rfl) (by kernel_rfl) (by kernel_rfl) (fun _ _ _ h => h) (Or.inl (Or.inr ⟨by rfl, rfl⟩)) ?rest21_172
          (try simp only [List.getElem_toArray, List.getElem_cons_zero, List.getElem_cons_succ, Act.put, List.setIfInBounds_toArray, List.set_cons_zero, List.set_cons_succ])
          refine' wpAnyR_take (i := 22) (v := undef) Ext.refl (fun _ _ _ => Ext.trans) rfl (by kernel_rfl) (by kernel_rfl) (by kernel_rfl) (fun _ _ _ h => h) (Or.inl (Or.inr ⟨by rfl, rfl⟩)) ?rest22_173
          (try simp only [List.getElem_toArray, List.getElem_cons_zero, List.getElem_cons_succ, Act.put, List.setIfInBounds_toArray, List.set_cons_zero, List.set_cons_succ])
          refine' wpAnyR_take (i := 23) (v := undef) Ext.refl (fun _ _ _ => Ext.trans) rfl (by kernel_rfl) (by kernel_rfl) (by kernel_rfl) (fun _ _ _ h => h) (Or.inl (Or.inr ⟨by rfl, rfl⟩)) ?rest23_174
          (try simp only [List.getElem_toArray, List.getElem_cons_zero, List.getElem_cons_succ, Act.put, List.setIfInBounds_toArray, List.set_cons_zero, List.set_cons_succ])
          refine' wpAnyR_take (i := 24) (v := ?v24_175) Ext.refl (fun _ _ _ => Ext.trans) rfl (by kernel_rfl) (by kernel_rfl) (by kernel_rfl) (fun _ _ _ h => h) (Or.inl (Or.inl ⟨by rfl, ?hy24_175⟩)) ?rest24_175
          case hy24_175 => (intro w hSw; (obtain ⟨⟨k0, k1⟩, ⟨p0, p1⟩, ⟨q0, q1⟩, ⟨r0, r1⟩⟩ := ST.out _ (Ext.trans X2 hSw); obtain ⟨c5, c6⟩ := A11.ext hSw; obtain ⟨c7, c8⟩ := A13.ext hSw); go_simp; (try with_reducible rfl))
          (try simp only [List.getElem_toArray, List.getElem_cons_zero, List.getElem_cons_succ, Act.put, List.setIfInBounds_toArray, List.set_cons_zero, List.set_cons_succ])
          refine' wpAnyR_take (i := 25) (v := ?v25_176) Ext.refl (fun _ _ _ => Ext.trans) rfl (by kernel_rfl) (by kernel_rfl) (by kernel_rfl) (fun _ _ _ h => h) (Or.inl (Or.inl ⟨by rfl, ?hy25_176⟩)) ?rest25_176
          case hy25_176 => (intro w hSw; (obtain ⟨⟨k0, k1⟩, ⟨p0, p1⟩, ⟨q0, q1⟩, ⟨r0, r1⟩⟩ := ST.out _ (Ext.trans X2 hSw); obtain ⟨c5, c6⟩ := A11.ext hSw; obtain ⟨c7, c8⟩ := A13.ext hSw); go_simp; (try with_reducible rfl))
          (try simp only [List.getElem_toArray, List.getElem_cons_zero, List.getElem_cons_succ, Act.put, List.setIfInBounds_toArray, List.set_cons_zero, List.set_cons_succ])
          refine' wpAnyR_take (i := 26) (v := ?v26_177) Ext.refl (fun _ _ _ => Ext.trans) rfl (by kernel_rfl) (by kernel_rfl) (by kernel_rfl) (fun _ _ _ h => h) (Or.inl (Or.inl ⟨by rfl, ?hy26_177⟩)) ?rest26_177
          case hy26_177 => (intro w hSw; (obtain ⟨⟨k0, k1⟩, ⟨p0, p1⟩, ⟨q0, q1⟩, ⟨r0, r1⟩⟩ := ST.out _ (Ext.trans X2 hSw); obtain ⟨c5, c6⟩ := A11.ext hSw; obtain ⟨c7, c8⟩ := A13.ext hSw); go_simp; (try with_reducible rfl))
          (try simp only [List.getElem_toArray, List.getElem_cons_zero, List.getElem_cons_succ, Act.put, List.setIfInBounds_toArray, List.set_cons_zero, List.set_cons_succ])
          refine' wpAnyR_take (i := 27) (v := ?v27_178) Ext.refl (fun _ _ _ => Ext.trans) rfl (by kernel_rfl) (by kernel_rfl) (by kernel_rfl) (fun _ _ _ h => h) (Or.inl (Or.inl ⟨by rfl, ?hy27_178⟩)) ?rest27_178
          case hy27_178 => (intro w hSw; (obtain ⟨⟨k0, k1⟩, ⟨p0, p1⟩, ⟨q0, q1⟩, ⟨r0, r1⟩⟩ := ST.out _ (Ext.trans X2 hSw); obtain ⟨c5, c6⟩ := A11.ext hSw; obtain ⟨c7, c8⟩ := A13.ext hSw); go_simp; (try with_reducible rfl))
          (try simp only [List.getElem_toArray, List.getElem_cons_zero, List.getElem_cons_succ, Act.put, List.setIfInBounds_toArray, List.set_cons_zero, List.set_cons_succ])
          refine' wpAnyR_take (i := 28) (v := ?v28_179) Ext.refl (fun _ _ _ => Ext.trans) rfl (by kernel_rfl) (by kernel_rfl) (by kernel_rfl) (fun _ _ _ h => h) (Or.inl (Or.inl ⟨by rfl, ?hy28_179⟩)) ?rest28_179
          case hy28_179 => (intro w hSw; (obtain ⟨⟨k0, k1⟩, ⟨p0, p1⟩, ⟨q0, q1⟩, ⟨r0, r1⟩⟩ := ST.out _ (Ext.trans X2 hSw); obtain ⟨c5, c6⟩ := A11.ext hSw; obtain ⟨c7, c8⟩ := A13.ext hSw); go_simp; (try with_reducible rfl))
          (try simp only [List.getElem_toArray, List.getElem_cons_zero, List.getElem_cons_succ, Act.put, List.setIfInBounds_toArray, List.set_cons_zero, List.set_cons_succ])
          refine' wpAnyR_take (i := 29) (v := ?v29_180) Ext.refl (fun _ _ _ => Ext.trans) rfl (by kernel_rfl) (by kernel_rfl) (by kernel_rfl) (fun _ _ _ h => h) (Or.inl (Or.inl ⟨by rfl, ?hy29_180⟩)) ?rest29_180
          case hy29_180 => (intro w hSw; (obtain ⟨⟨k0, k1⟩, ⟨p0, p1⟩, ⟨q0, q1⟩, ⟨r0, r1⟩⟩ := ST.out _ (Ext.trans X2 hSw); obtain ⟨c5, c6⟩ := A11.ext hSw; obtain ⟨c7, c8⟩ := A13.ext hSw); go_simp; (try with_reducible rfl))
          (try simp only [List.getElem_toArray, List.getElem_cons_zero, List.getElem_cons_succ, Act.put, List.setIfInBounds_toArray, List.set_cons_zero, List.set_cons_succ])
          refine' wpAnyR_take (i := 30) (v := ?v30_181) Ext.refl (fun _ _ _ => Ext.trans) rfl (by kernel_rfl) (by kernel_rfl) (by kernel_rfl) (fun _ _ _ h => h) (Or.inl (Or.inl ⟨by rfl, ?hy30_181⟩)) ?rest30_181
          case hy30_181 => (intro w hSw; (obtain ⟨⟨k0, k1⟩, ⟨p0, p1⟩, ⟨q0, q1⟩, ⟨r0, r1⟩⟩ := ST.out _ (Ext.trans X2 hSw); obtain ⟨c5, c6⟩ := A11.ext hSw; obtain ⟨c7, c8⟩ := A13.ext hSw); go_simp; (try with_reducible rfl))
          (try simp only [List.getElem_toArray, List.getElem_cons_zero, List.getElem_cons_succ, Act.put, List.setIfInBounds_toArray, List.set_cons_zero, List.set_cons_succ])
          refine' wpAnyR_take (i := 31) (v := undef) Ext.refl (fun _ _ _ => Ext.trans) rfl (by kernel_rfl) (by kernel_rfl) (by kernel_rfl) (fun _ _ _ h => h) (Or.inl (Or.inr ⟨by rfl, rfl⟩)) ?rest31_182
          (try simp only [List.getElem_toArray, List.getElem_cons_zero, List.getElem_cons_succ, Act.put, List.setIfInBounds_toArray, List.set_cons_zero, List.set_cons_succ])
          refine' wpAnyR_take (i := 32) (v := undef) Ext.refl (fun _ _ _ => Ext.trans) rfl (by kernel_rfl) (by kernel_rfl) (by kernel_rfl) (fun _ _ _ h => h) (Or.inl (Or.inr ⟨by rfl, rfl⟩)) ?rest32_183
          (try simp only [List.getElem_toArray, List.getElem_cons_zero, List.getElem_cons_succ, Act.put, List.setIfInBounds_toArray, List.set_cons_zero, List.set_cons_succ])
          refine' wpAnyR_take (i := 33) (v := undef) Ext.refl (fun _ _ _ => Ext.trans) rfl (by kernel_rfl) (by kernel_rfl) (by kernel_rfl) (fun _ _ _ h => h) (Or.inl (Or.inr ⟨by rfl, rfl⟩)) ?rest33_184
          (try simp only [List.getElem_toArray, List.getElem_cons_zero, List.getElem_cons_succ, Act.put, List.setIfInBounds_toArray, List.set_cons_zero, List.set_cons_succ])
          refine' wpAnyR_take (i := 34) (v := undef) Ext.refl (fun _ _ _ => Ext.trans) rfl (by kernel_rfl) (by kernel_rfl) (by kernel_rfl) (fun _ _ _ h => h) (Or.inl (Or.inr ⟨by rfl, rfl⟩)) ?rest34_185
          (try simp only [List.getElem_toArray, List.getElem_cons_zero, List.getElem_cons_succ, Act.put, List.setIfInBounds_toArray, List.set_cons_zero, List.set_cons_succ])
          refine' wpAnyR_take (i := 35) (v := undef) Ext.refl (fun _ _ _ => Ext.trans) rfl (by kernel_rfl) (by kernel_rfl) (by kernel_rfl) (fun _ _ _ h => h) (Or.inl (Or.inr ⟨by rfl, rfl⟩)) ?rest35_186
          (try simp only [List.getElem_toArray, List.getElem_cons_zero, List.getElem_cons_succ, Act.put, List.setIfInBounds_toArray, List.set_cons_zero, List.set_cons_succ])
          refine' wpAnyR_take (i := 36) (v := undef) Ext.refl (fun _ _ _ => Ext.trans) rfl (by kernel_rfl) (by kernel_rfl) (by kernel_rfl) (fun _ _ _ h => h) (Or.inl (Or.inr ⟨by rfl, rfl⟩)) ?rest36_187
          (try simp only [List.getElem_toArray, List.getElem_cons_zero, List.getElem_cons_succ, Act.put, List.setIfInBounds_toArray, List.set_cons_zero, List.set_cons_succ])
          refine' wpAnyR_take (i := 37) (v := undef) Ext.refl (fun _ _ _ => Ext.trans) rfl (by kernel_rfl) (by kernel_rfl) (by kernel_rfl) (fun _ _ _ h => h) (Or.inl (Or.inr ⟨by rfl, rfl⟩)) ?rest37_188
          (try simp only [List.getElem_toArray, List.getElem_cons_zero, List.getElem_cons_succ, Act.put, List.setIfInBounds_toArray, List.set_cons_zero, List.set_cons_succ])
          refine' wpAnyR_take (i := 38) (v := undef) Ext.refl (fun _ _ _ => Ext.trans) rfl (by kernel_rfl) (by kernel_rfl) (by kernel_rfl) (fun _ _ _ h => h) (Or.inl (Or.inr ⟨by rfl, rfl⟩)) ?rest38_189
          (try simp only [List.getElem_toArray, List.getElem_cons_zero, List.getElem_cons_succ, Act.put, List.setIfInBounds_toArray, List.set_cons_zero, List.set_cons_succ])
          refine' wpAnyR_take (i := 39) (v := ?v39_190) Ext.refl (fun _ _ _ => Ext.trans) rfl (by kernel_rfl) (by kernel_rfl) (by kernel_rfl) (fun _ _ _ h => h) (Or.inl (Or.inl ⟨by rfl, ?hy39_190⟩)) ?rest39_190
          case hy39_190 => (intro w hSw; (obtain ⟨⟨k0, k1⟩, ⟨p0, p1⟩, ⟨q0, q1⟩, ⟨r0, r1⟩⟩ := ST.out _ (Ext.trans X2 hSw); obtain ⟨c5, c6⟩ := A11.ext hSw; obtain ⟨c7, c8⟩ := A13.ext hSw); go_simp; (try with_reducible rfl))
          (try simp only [List.getElem_toArray, List.getElem_cons_zero, List.getElem_cons_succ, Act.put, List.setIfInBounds_toArray, List.set_cons_zero, List.set_cons_succ])
          refine' wpAnyR_take (i := 40) (v := ?v40_191) Ext.refl (fun _ _ _ => Ext.trans) rfl (by kernel_rfl) (by kernel_rfl) (by kernel_rfl) (fun _ _ _ h => h) (Or.inl (Or.inl ⟨by rfl, ?hy40_191⟩)) ?rest40_191
          case hy40_191 => (intro w hSw; (obtain ⟨⟨k0, k1⟩, ⟨p0, p1⟩, ⟨q0, q1⟩, ⟨r0, r1⟩⟩ := ST.out _ (Ext.trans X2 hSw); obtain ⟨c5, c6⟩ := A11.ext hSw; obtain ⟨c7, c8⟩ := A13.ext hSw); go_simp; (try with_reducible rfl))
          (try simp only [List.getElem_toArray, List.getElem_cons_zero, List.getElem_cons_succ, Act.put, List.setIfInBounds_toArray, List.set_cons_zero, List.set_cons_succ])
          refine wpAnyR_done (by kernel_rfl) ?_ _
          intro wh _ Ewh
          obtain ⟨k0, k1⟩ := (ST.out _ (Ext.trans X2 Ewh)).1
          go_wp2_with (first | (go_at_call 17; refine (known_any _ (hg.out.ext (Ext.trans X2 Ewh))).mono ?_; rintro e x6 ⟨rfl, y6⟩))
          go_returns
          exact ⟨rfl, Ext.trans E0.out (Ext.trans X2 (Ext.trans Ewh y6))⟩
end Go.Proofs.YtaddlhebhiehgaaDoor.lawSums
