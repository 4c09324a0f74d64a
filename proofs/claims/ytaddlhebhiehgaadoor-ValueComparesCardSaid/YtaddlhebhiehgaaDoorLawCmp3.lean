/-
  ValueCompares: the walk, part 3.
-/
import Derived.Test.YtaddlhebhiehgaaDoorLawKit
namespace Go.Proofs.YtaddlhebhiehgaaDoor.lawCompares
open Go.RowKit Go.Shelf Go.Proofs.YtaddlhebhiehgaaDoor.lawSums

theorem field1_3 (w : World) (f n : Int) : (Instr.field 23 (.agg #[.int .u8 f, .int .i64 n]) 1).run Tryd.prog w = .ok (.int .i64 n) w := by kernel_rfl
set_option maxRecDepth 100000 in
set_option maxHeartbeats 8000000 in
theorem walk_eq (x y z a c : Int) (hx1 : -32768 ≤ x) (hx2 : x ≤ 32767) (hy1 : -32768 ≤ y) (hy2 : y ≤ 32767) (hz1 : -32768 ≤ z) (hz2 : z ≤ 32767)
    (ha : a = x.tmod 10000) (hb : a = y.tmod 10000) (hc : c = z.tmod 10000) (w : World) (hg : Glob w)
    (HL : Hid (∀ w', Calls Tryd.prog 14 #[.int .u8 13, .agg #[.int .u8 0, .int .i64 a], .agg #[.int .u8 0, .int .i64 a]] w' fun e w'' => e = .returned (.tuple #[.agg #[.int .u8 0, .int .i64 0], .int .i64 0]) ∧ Ext w' w''))
    (HG : Hid (∀ w', Calls Tryd.prog 14 #[.int .u8 13, .agg #[.int .u8 0, .int .i64 a], .agg #[.int .u8 0, .int .i64 a]] w' fun e w'' => e = .returned (.tuple #[.agg #[.int .u8 0, .int .i64 0], .int .i64 0]) ∧ Ext w' w''))
    (HE : Hid (∀ w', Calls Tryd.prog 14 #[.int .u8 12, .agg #[.int .u8 0, .int .i64 a], .agg #[.int .u8 0, .int .i64 a]] w' fun e w'' => e = .returned (.tuple #[.agg #[.int .u8 0, .int .i64 1], .int .i64 0]) ∧ Ext w' w''))
    (HLE : Hid (∀ w', Calls Tryd.prog 14 #[.int .u8 14, .agg #[.int .u8 0, .int .i64 a], .agg #[.int .u8 0, .int .i64 a]] w' fun e w'' => e = .returned (.tuple #[.agg #[.int .u8 0, .int .i64 1], .int .i64 0]) ∧ Ext w' w''))
    (HN : Hid (∀ w', Calls Tryd.prog 41 #[.int .u8 6, .agg #[.int .u8 0, .int .i64 0]] w' fun e w'' => e = .returned (.tuple #[.agg #[.int .u8 0, .int .i64 1], .int .i64 0]) ∧ Ext w' w''))
    (HM : Hid (∀ w', Calls Tryd.prog 41 #[.int .u8 6, .agg #[.int .u8 0, .int .i64 1]] w' fun e w'' => e = .returned (.tuple #[.agg #[.int .u8 0, .int .i64 0], .int .i64 0]) ∧ Ext w' w''))
    : Calls Tryd.prog 10 #[.int .i16 x, .int .i16 y, .int .i16 z] w fun e w' => e = .returned (.bool true) ∧ Ext w w' := by
  have tok : True := trivial
  have HA := Lib.hid ha.symm
  have HB := Lib.hid hb.symm
  have HC := Lib.hid hc.symm
  clear ha hb hc
  go_enter Tryd.func10, Tryd.ntmps10
  go_upto_region 1 with fail
  go_cut [7, 8, 9, 10] (fun s7 s8 s9 s10 W => ∃ ga gb gc kb : Nat, s7 = .pointer (some ⟨ga, 0, none⟩) ∧ s8 = .pointer (some ⟨gb, 0, none⟩) ∧ s9 = .pointer (some ⟨gc, 0, none⟩) ∧ s10 = .pointer (some ⟨kb, 0, none⟩) ∧ StartAt W kb ga gb gc a a c ∧ Ext w W)
  case first =>
    clear HL HG HE HLE HN HM
    go_wp2_with (first | (go_at_call 16; rw [HA.out]; refine (num_any _ _).mono ?_; rintro e w1 ⟨rfl, h1⟩) | (go_at_call 16; rw [HB.out]; refine (num_any _ _).mono ?_; rintro e w2 ⟨rfl, h2⟩) | (go_at_call 16; rw [HC.out]; refine (num_any _ _).mono ?_; rintro e w3 ⟨rfl, h3⟩))
    go_meet
    exact ⟨_, _, _, _, rfl, rfl, rfl, rfl, ⟨⟨by simp [go_sem], by simp [go_sem]⟩, ⟨by simp [go_sem], by simp [go_sem]⟩, ⟨by simp [go_sem], by simp [go_sem]⟩, ⟨by simp [go_sem], by simp [go_sem]⟩⟩, (by repeat' (first | (with_reducible exact Ext.refl _) | (with_reducible assumption) | (with_reducible refine Ext.alloc ?_ _) | (with_reducible refine Ext.drew ?_) | (with_reducible refine Ext.drewN ?_ _) | (with_reducible refine Ext.setCell ?_ ?_ _) | (with_reducible refine Ext.trans ?_ (by assumption)) | go_size))⟩
  case rest =>
    obtain ⟨ga, gb, gc, kb, rfl, rfl, rfl, rfl, ST, E0⟩ := hcut
    clear HA HB HC hx1 hx2 hy1 hy2 hz1 hz2
    have hg := Lib.hid (hg.ext E0)
    replace E0 := Lib.hid E0
    replace ST := Lib.hid (fun (W : World) (h : Ext wc W) => ST.ext h)
    obtain ⟨⟨k0, k1⟩, ⟨p0, p1⟩, ⟨q0, q1⟩, ⟨r0, r1⟩⟩ := ST.out _ (Ext.refl _)
    have za := cell_lt p0
    have zb := cell_lt q0
    have zc := cell_lt r0
    have zk := cell_lt k0
    go_wp2_with fail
    refine wp_region_held_drew (S := fun W => Ext wc W) (by kernel_rfl) ?_ (fun hS => ?_)
    · exact (by repeat' (first | (with_reducible exact Ext.refl _) | (with_reducible assumption) | (with_reducible refine Ext.alloc ?_ _) | (with_reducible refine Ext.drew ?_) | (with_reducible refine Ext.drewN ?_ _) | (with_reducible refine Ext.setCell ?_ ?_ _) | (with_reducible refine Ext.trans ?_ (by assumption)) | go_size))
    refine' wpAnyH_take (i := 0) (v := ?v0_55) rfl (by kernel_rfl) (by kernel_rfl) (by kernel_rfl) (fun _ _ _ h => h) (Or.inl ⟨by rfl, ?hy0_55⟩) (by assumption) ?rest0_55
    case hy0_55 => (intro w hSw; (obtain ⟨⟨k0, k1⟩, ⟨p0, p1⟩, ⟨q0, q1⟩, ⟨r0, r1⟩⟩ := ST.out _ hSw); go_simp; (try with_reducible rfl))
    (try simp only [List.getElem_toArray, List.getElem_cons_zero, Act.put, List.setIfInBounds_toArray, List.set_cons_zero, List.set_cons_succ])
    refine' wpAnyH_take (i := 1) (v := ?v1_56) rfl (by kernel_rfl) (by kernel_rfl) (by kernel_rfl) (fun _ _ _ h => h) (Or.inl ⟨by rfl, ?hy1_56⟩) (by assumption) ?rest1_56
    case hy1_56 => (intro w hSw; (obtain ⟨⟨k0, k1⟩, ⟨p0, p1⟩, ⟨q0, q1⟩, ⟨r0, r1⟩⟩ := ST.out _ hSw); go_simp; (try with_reducible rfl))
    (try simp only [List.getElem_toArray, List.getElem_cons_zero, List.getElem_cons_succ, Act.put, List.setIfInBounds_toArray, List.set_cons_zero, List.set_cons_succ])
    refine' wpAnyH_take (i := 2) (v := ?v2_57) rfl (by kernel_rfl) (by kernel_rfl) (by kernel_rfl) (fun _ _ _ h => h) (Or.inl ⟨by rfl, ?hy2_57⟩) (by assumption) ?rest2_57
    case hy2_57 => (intro w hSw; (obtain ⟨⟨k0, k1⟩, ⟨p0, p1⟩, ⟨q0, q1⟩, ⟨r0, r1⟩⟩ := ST.out _ hSw); go_simp; (try with_reducible rfl))
    (try simp only [List.getElem_toArray, List.getElem_cons_zero, List.getElem_cons_succ, Act.put, List.setIfInBounds_toArray, List.set_cons_zero, List.set_cons_succ])
    refine' wpAnyH_take (i := 4) (v := ?v4_58) rfl (by kernel_rfl) (by kernel_rfl) (by kernel_rfl) (fun _ _ _ h => h) (Or.inl ⟨by rfl, ?hy4_58⟩) (by assumption) ?rest4_58
    case hy4_58 => (intro w hSw; (obtain ⟨⟨k0, k1⟩, ⟨p0, p1⟩, ⟨q0, q1⟩, ⟨r0, r1⟩⟩ := ST.out _ hSw); go_simp; (try with_reducible rfl))
    (try simp only [List.getElem_toArray, List.getElem_cons_zero, List.getElem_cons_succ, Act.put, List.setIfInBounds_toArray, List.set_cons_zero, List.set_cons_succ])
    refine' wpAnyH_take (i := 5) (v := ?v5_59) rfl (by kernel_rfl) (by kernel_rfl) (by kernel_rfl) (fun _ _ _ h => h) (Or.inl ⟨by rfl, ?hy5_59⟩) (by assumption) ?rest5_59
    case hy5_59 => (intro w hSw; (obtain ⟨⟨k0, k1⟩, ⟨p0, p1⟩, ⟨q0, q1⟩, ⟨r0, r1⟩⟩ := ST.out _ hSw); go_simp; (try with_reducible rfl))
    (try simp only [List.getElem_toArray, List.getElem_cons_zero, List.getElem_cons_succ, Act.put, List.setIfInBounds_toArray, List.set_cons_zero, List.set_cons_succ])
    refine' wpAnyH_take (i := 6) (v := ?v6_60) rfl (by kernel_rfl) (by kernel_rfl) (by kernel_rfl) (fun _ _ _ h => h) (Or.inl ⟨by rfl, ?hy6_60⟩) (by assumption) ?rest6_60
    case hy6_60 => (intro w hSw; (obtain ⟨⟨k0, k1⟩, ⟨p0, p1⟩, ⟨q0, q1⟩, ⟨r0, r1⟩⟩ := ST.out _ hSw); go_simp; (try with_reducible rfl))
    (try simp only [List.getElem_toArray, List.getElem_cons_zero, List.getElem_cons_succ, Act.put, List.setIfInBounds_toArray, List.set_cons_zero, List.set_cons_succ])
    refine' wpAnyH_take (i := 8) (v := ?v8_61) rfl (by kernel_rfl) (by kernel_rfl) (by kernel_rfl) (fun _ _ _ h => h) (Or.inl ⟨by rfl, ?hy8_61⟩) (by assumption) ?rest8_61
    case hy8_61 => (intro w hSw; (obtain ⟨⟨k0, k1⟩, ⟨p0, p1⟩, ⟨q0, q1⟩, ⟨r0, r1⟩⟩ := ST.out _ hSw); go_simp; (try with_reducible rfl))
    (try simp only [List.getElem_toArray, List.getElem_cons_zero, List.getElem_cons_succ, Act.put, List.setIfInBounds_toArray, List.set_cons_zero, List.set_cons_succ])
    refine' wpAnyH_take (i := 9) (v := ?v9_62) rfl (by kernel_rfl) (by kernel_rfl) (by kernel_rfl) (fun _ _ _ h => h) (Or.inl ⟨by rfl, ?hy9_62⟩) (by assumption) ?rest9_62
    case hy9_62 => (intro w hSw; (obtain ⟨⟨k0, k1⟩, ⟨p0, p1⟩, ⟨q0, q1⟩, ⟨r0, r1⟩⟩ := ST.out _ hSw); go_simp; (try with_reducible rfl))
    (try simp only [List.getElem_toArray, List.getElem_cons_zero, List.getElem_cons_succ, Act.put, List.setIfInBounds_toArray, List.set_cons_zero, List.set_cons_succ])
    refine' wpAnyH_take (i := 10) (v := ?v10_63) rfl (by kernel_rfl) (by kernel_rfl) (by kernel_rfl) (fun _ _ _ h => h) (Or.inl ⟨by rfl, ?hy10_63⟩) (by assumption) ?rest10_63
    case hy10_63 => (intro w hSw; (obtain ⟨⟨k0, k1⟩, ⟨p0, p1⟩, ⟨q0, q1⟩, ⟨r0, r1⟩⟩ := ST.out _ hSw); go_simp; (try with_reducible rfl))
    (try simp only [List.getElem_toArray, List.getElem_cons_zero, List.getElem_cons_succ, Act.put, List.setIfInBounds_toArray, List.set_cons_zero, List.set_cons_succ])
    refine wpAnyH_slots [3, 7, 11, 12, 13, 14, 15, 16, 17] [31, 35, 39, 11, 12, 13] (fun L vs W => ∃ v1 v2 v3 v4 v5 v6 : Value, vs = [v1, v2, v3, v4, v5, v6] ∧ Ext wc W ∧ (L 3 = true → v1 = .agg #[.int .u8 0, .int .i64 0]) ∧ (L 7 = true → v2 = .agg #[.int .u8 0, .int .i64 0]) ∧ (L 11 = true → v3 = .agg #[.int .u8 0, .int .i64 1]) ∧ Slot wc W v4 (L 12) (L 15) (0) (0) ∧ Slot wc W v5 (L 13) (L 16) (0) (0) ∧ Slot wc W v6 (L 14) (L 17) (0) (1) ∧ (L 12 = true → L 13 = true → v4 ≠ v5) ∧ (L 12 = true → L 14 = true → v4 ≠ v6) ∧ (L 13 = true → L 14 = true → v5 ≠ v6)) (by kernel_rfl) (by kernel_rfl) ?h0wd ?hstepswd ?hendwd
    case h0wd => exact ⟨_, _, _, _, _, _, rfl, hS, (fun h => by cases h), (fun h => by cases h), (fun h => by cases h), ⟨(fun h => by cases h), (fun h => by cases h)⟩, ⟨(fun h => by cases h), (fun h => by cases h)⟩, ⟨(fun h => by cases h), (fun h => by cases h)⟩, (fun h => by cases h), (fun h => by cases h), (fun h => by cases h)⟩
    case hstepswd =>
      refine StepsInv.cons rfl ?_ (StepsInv.cons rfl ?_ (StepsInv.cons rfl ?_ (StepsInv.cons rfl ?_ (StepsInv.cons rfl ?_ (StepsInv.cons rfl ?_ (StepsInv.cons rfl ?_ (StepsInv.cons rfl ?_ (StepsInv.cons rfl ?_ StepsInv.nil))))))))
      all_goals (try simp only [List.getElem_toArray, List.getElem_cons_zero, List.getElem_cons_succ])
      all_goals
        rintro L a w ⟨vs, ha, v1, v2, v3, v4, v5, v6, rfl, hE, J1, J2, J3, J4, J5, J6, D0_1, D0_2, D1_2⟩ hL hC
        obtain rfl := ha
        intro K' hK
        (try simp only [putAll, Act.put, List.setIfInBounds_toArray, List.set_cons_zero, List.set_cons_succ])
      · skip
        go_simp
        go_at_call 37
        refine (two_any _ 13 0 a 0 a 0 0 _ ((ST.out _ (hE)).1) HL).mono ?_
        rintro e x ⟨rfl, y⟩
        go_wp2_with fail
        exact hK.out _ _ (hE.trans y) ⟨[.agg #[.int .u8 0, .int .i64 0], v2, v3, v4, v5, v6], rfl, _, _, _, _, _, _, rfl, hE.trans y, fun _ => rfl, J2, J3, J4.ext y, J5.ext y, J6.ext y, D0_1, D0_2, D1_2⟩
      · skip
        go_simp
        go_at_call 37
        refine (two_any _ 13 0 a 0 a 0 0 _ ((ST.out _ (hE)).1) HG).mono ?_
        rintro e x ⟨rfl, y⟩
        go_wp2_with fail
        exact hK.out _ _ (hE.trans y) ⟨[v1, .agg #[.int .u8 0, .int .i64 0], v3, v4, v5, v6], rfl, _, _, _, _, _, _, rfl, hE.trans y, J1, fun _ => rfl, J3, J4.ext y, J5.ext y, J6.ext y, D0_1, D0_2, D1_2⟩
      · skip
        go_simp
        go_at_call 37
        refine (two_any _ 12 0 a 0 a 0 1 _ ((ST.out _ (hE)).1) HE).mono ?_
        rintro e x ⟨rfl, y⟩
        go_wp2_with fail
        exact hK.out _ _ (hE.trans y) ⟨[v1, v2, .agg #[.int .u8 0, .int .i64 1], v4, v5, v6], rfl, _, _, _, _, _, _, rfl, hE.trans y, J1, J2, fun _ => rfl, J4.ext y, J5.ext y, J6.ext y, D0_1, D0_2, D1_2⟩
      · go_simp
        exact hK.out _ _ (hE.alloc _) ⟨[v1, v2, v3, .pointer (some ⟨w.heap.size, 0, none⟩), v5, v6], rfl, _, _, _, _, _, _, rfl, hE.alloc _, J1, J2, J3, J4.make _ hE hL rfl rfl, J5.ext (Ext.alloc (Ext.refl _) _), J6.ext (Ext.alloc (Ext.refl _) _), fun _ h => J5.fresh h, fun _ h => J6.fresh h, D1_2⟩
      · go_simp
        exact hK.out _ _ (hE.alloc _) ⟨[v1, v2, v3, v4, .pointer (some ⟨w.heap.size, 0, none⟩), v6], rfl, _, _, _, _, _, _, rfl, hE.alloc _, J1, J2, J3, J4.ext (Ext.alloc (Ext.refl _) _), J5.make _ hE hL rfl rfl, J6.ext (Ext.alloc (Ext.refl _) _), fun h _ => (J4.fresh h).symm, D0_2, fun _ h => J6.fresh h⟩
      · go_simp
        exact hK.out _ _ (hE.alloc _) ⟨[v1, v2, v3, v4, v5, .pointer (some ⟨w.heap.size, 0, none⟩)], rfl, _, _, _, _, _, _, rfl, hE.alloc _, J1, J2, J3, J4.ext (Ext.alloc (Ext.refl _) _), J5.ext (Ext.alloc (Ext.refl _) _), J6.make _ hE hL rfl rfl, D0_1, fun h _ => (J4.fresh h).symm, fun h _ => (J5.fresh h).symm⟩
      · have ca : L 12 = true := hC ⟨12, .data⟩ (by simp) rfl
        have cc : L 3 = true := hC ⟨3, .data⟩ (by simp) rfl
        obtain ⟨g, x, y, rfl, hg, ho, -⟩ := J4.2 ca
        obtain ⟨⟨d0, d1⟩, f0, f1⟩ := id ho
        obtain rfl := J1 cc
        go_simp
        exact hK.out _ _ (Ext.setCell (Ext.setCell hE hg _) hg _) ⟨[_, v2, v3, _, v5, v6], rfl, _, _, _, _, _, _, rfl, Ext.setCell (Ext.setCell hE hg _) hg _, J1, J2, J3, ⟨fun _ => ca, fun _ => ⟨g, _, _, rfl, hg, ho.set, fun _ => ⟨rfl, rfl⟩⟩⟩, J5.far (fun h => D0_1 ca h), J6.far (fun h => D0_2 ca h), D0_1, D0_2, D1_2⟩
      · have ca : L 13 = true := hC ⟨13, .data⟩ (by simp) rfl
        have cc : L 7 = true := hC ⟨7, .data⟩ (by simp) rfl
        obtain ⟨g, x, y, rfl, hg, ho, -⟩ := J5.2 ca
        obtain ⟨⟨d0, d1⟩, f0, f1⟩ := id ho
        obtain rfl := J2 cc
        go_simp
        exact hK.out _ _ (Ext.setCell (Ext.setCell hE hg _) hg _) ⟨[v1, _, v3, v4, _, v6], rfl, _, _, _, _, _, _, rfl, Ext.setCell (Ext.setCell hE hg _) hg _, J1, J2, J3, J4.far (fun h => (D0_1 h ca).symm), ⟨fun _ => ca, fun _ => ⟨g, _, _, rfl, hg, ho.set, fun _ => ⟨rfl, rfl⟩⟩⟩, J6.far (fun h => D1_2 ca h), D0_1, D0_2, D1_2⟩
      · have ca : L 14 = true := hC ⟨14, .data⟩ (by simp) rfl
        have cc : L 11 = true := hC ⟨11, .data⟩ (by simp) rfl
        obtain ⟨g, x, y, rfl, hg, ho, -⟩ := J6.2 ca
        obtain ⟨⟨d0, d1⟩, f0, f1⟩ := id ho
        obtain rfl := J3 cc
        go_simp
        exact hK.out _ _ (Ext.setCell (Ext.setCell hE hg _) hg _) ⟨[v1, v2, _, v4, v5, _], rfl, _, _, _, _, _, _, rfl, Ext.setCell (Ext.setCell hE hg _) hg _, J1, J2, J3, J4.far (fun h => (D0_2 h ca).symm), J5.far (fun h => (D1_2 h ca).symm), ⟨fun _ => ca, fun _ => ⟨g, _, _, rfl, hg, ho.set, fun _ => ⟨rfl, rfl⟩⟩⟩, D0_1, D0_2, D1_2⟩
    rintro L _ wd ⟨v1, v2, v3, v4, v5, v6, rfl, Ewd, J1, J2, J3, J4, J5, J6, D0_1, D0_2, D1_2⟩ hall
    obtain rfl := J1 (hall 3 (by simp))
    obtain rfl := J2 (hall 7 (by simp))
    obtain rfl := J3 (hall 11 (by simp))
    obtain ⟨g11, x1, y1, rfl, -, ⟨B11, -⟩, ho⟩ := J4.2 (hall 12 (by simp))
    rw [(ho (hall 15 (by simp))).1, (ho (hall 15 (by simp))).2] at B11
    clear ho x1 y1
    obtain ⟨g12, x1, y1, rfl, -, ⟨B12, -⟩, ho⟩ := J5.2 (hall 13 (by simp))
    rw [(ho (hall 16 (by simp))).1, (ho (hall 16 (by simp))).2] at B12
    clear ho x1 y1
    obtain ⟨g13, x1, y1, rfl, -, ⟨B13, -⟩, ho⟩ := J6.2 (hall 14 (by simp))
    rw [(ho (hall 17 (by simp))).1, (ho (hall 17 (by simp))).2] at B13
    clear ho x1 y1
    clear hall J1 J2 J3 J4 J5 J6 D0_1 D0_2 D1_2
    simp only [putAll, Act.put, List.setIfInBounds_toArray, List.set_cons_zero, List.set_cons_succ]
    clear k0 k1 p0 p1 q0 q1 r0 r1
    obtain ⟨⟨k0, k1⟩, ⟨p0, p1⟩, ⟨q0, q1⟩, ⟨r0, r1⟩⟩ := ST.out _ Ewd
    obtain ⟨b1', b2'⟩ := id B11
    obtain ⟨b3', b4'⟩ := id B12
    obtain ⟨b5', b6'⟩ := id B13
    go_wp2_with fail
    clear k0 k1 p0 p1 q0 q1 r0 r1 b1' b2' b3' b4' b5' b6' 
    refine wp_region_seq (S := fun W => Ext wd W) (R := Ext) (by kernel_rfl) Ext.refl ?_ ?_
    · exact (by repeat' (first | (with_reducible exact Ext.refl _) | (with_reducible assumption) | (with_reducible refine Ext.alloc ?_ _) | (with_reducible refine Ext.drew ?_) | (with_reducible refine Ext.drewN ?_ _) | (with_reducible refine Ext.setCell ?_ ?_ _) | (with_reducible refine Ext.trans ?_ (by assumption)) | go_size))
    refine' wpAnyR_take (i := 0) (v := ?v0_64) Ext.refl (fun _ _ _ => Ext.trans) rfl (by kernel_rfl) (by kernel_rfl) (by kernel_rfl) (fun _ _ _ h => h) (Or.inl (Or.inl ⟨by rfl, ?hy0_64⟩)) ?rest0_64
    case hy0_64 => (intro w hSw; (obtain ⟨⟨k0, k1⟩, ⟨p0, p1⟩, ⟨q0, q1⟩, ⟨r0, r1⟩⟩ := ST.out _ (Ext.trans Ewd hSw); obtain ⟨b3', b4'⟩ := B12.ext hSw); go_simp; (try with_reducible rfl))
    (try simp only [List.getElem_toArray, List.getElem_cons_zero, Act.put, List.setIfInBounds_toArray, List.set_cons_zero, List.set_cons_succ])
    refine' wpAnyR_take (i := 1) (v := ?v1_65) Ext.refl (fun _ _ _ => Ext.trans) rfl (by kernel_rfl) (by kernel_rfl) (by kernel_rfl) (fun _ _ _ h => h) (Or.inl (Or.inl ⟨by rfl, ?hy1_65⟩)) ?rest1_65
    case hy1_65 => (intro w hSw; (obtain ⟨⟨k0, k1⟩, ⟨p0, p1⟩, ⟨q0, q1⟩, ⟨r0, r1⟩⟩ := ST.out _ (Ext.trans Ewd hSw); obtain ⟨b3', b4'⟩ := B12.ext hSw); go_simp; (try with_reducible rfl))
    (try simp only [List.getElem_toArray, List.getElem_cons_zero, List.getElem_cons_succ, Act.put, List.setIfInBounds_toArray, List.set_cons_zero, List.set_cons_succ])
    refine' wpAnyR_take (i := 2) (v := ?v2_66) Ext.refl (fun _ _ _ => Ext.trans) rfl (by kernel_rfl) (by kernel_rfl) (by kernel_rfl) (fun _ _ _ h => h) (Or.inl (Or.inl ⟨by rfl, ?hy2_66⟩)) ?rest2_66
    case hy2_66 => (intro w hSw; (obtain ⟨⟨k0, k1⟩, ⟨p0, p1⟩, ⟨q0, q1⟩, ⟨r0, r1⟩⟩ := ST.out _ (Ext.trans Ewd hSw); obtain ⟨b3', b4'⟩ := B12.ext hSw); go_simp; (try with_reducible rfl))
    (try simp only [List.getElem_toArray, List.getElem_cons_zero, List.getElem_cons_succ, Act.put, List.setIfInBounds_toArray, List.set_cons_zero, List.set_cons_succ])
    refine' wpAnyR_take (i := 3) (v := .agg #[.int .u8 0, .int .i64 1]) Ext.refl (fun _ _ _ => Ext.trans) rfl (by kernel_rfl) (by kernel_rfl) (by kernel_rfl) (fun _ _ _ h => h) (Or.inr ⟨by rfl, 37, _, ?hx3_67, ?hy3_67⟩) ?rest3_67
    case hx3_67 => (intro w hSw; go_simp; (try with_reducible rfl))
    case hy3_67 => exact fun w hE => (two_any _ 14 0 a 0 a 0 1 _ ((ST.out _ (Ext.trans Ewd hE)).1) HLE).mono (fun _ _ h => ⟨h.1, h.2, Ext.trans hE h.2⟩)
    (try simp only [List.getElem_toArray, List.getElem_cons_zero, List.getElem_cons_succ, Act.put, List.setIfInBounds_toArray, List.set_cons_zero, List.set_cons_succ])
    refine' wpAnyR_take (i := 4) (v := ?v4_68) Ext.refl (fun _ _ _ => Ext.trans) rfl (by kernel_rfl) (by kernel_rfl) (by kernel_rfl) (fun _ _ _ h => h) (Or.inl (Or.inl ⟨by rfl, ?hy4_68⟩)) ?rest4_68
    case hy4_68 => (intro w hSw; (obtain ⟨⟨k0, k1⟩, ⟨p0, p1⟩, ⟨q0, q1⟩, ⟨r0, r1⟩⟩ := ST.out _ (Ext.trans Ewd hSw); obtain ⟨b3', b4'⟩ := B12.ext hSw); go_simp; (try with_reducible rfl))
    (try simp only [List.getElem_toArray, List.getElem_cons_zero, List.getElem_cons_succ, Act.put, List.setIfInBounds_toArray, List.set_cons_zero, List.set_cons_succ])
    refine' wpAnyR_take (i := 5) (v := ?v5_69) Ext.refl (fun _ _ _ => Ext.trans) rfl (by kernel_rfl) (by kernel_rfl) (by kernel_rfl) (fun _ _ _ h => h) (Or.inl (Or.inl ⟨by rfl, ?hy5_69⟩)) ?rest5_69
    case hy5_69 => (intro w hSw; (obtain ⟨⟨k0, k1⟩, ⟨p0, p1⟩, ⟨q0, q1⟩, ⟨r0, r1⟩⟩ := ST.out _ (Ext.trans Ewd hSw); obtain ⟨b3', b4'⟩ := B12.ext hSw); go_simp; (try with_reducible rfl))
    (try simp only [List.getElem_toArray, List.getElem_cons_zero, List.getElem_cons_succ, Act.put, List.setIfInBounds_toArray, List.set_cons_zero, List.set_cons_succ])
    refine' wpAnyR_take (i := 6) (v := .agg #[.int .u8 0, .int .i64 1]) Ext.refl (fun _ _ _ => Ext.trans) rfl (by kernel_rfl) (by kernel_rfl) (by kernel_rfl) (fun _ _ _ h => h) (Or.inr ⟨by rfl, 35, _, ?hx6_70, ?hy6_70⟩) ?rest6_70
    case hx6_70 => (intro w hSw; go_simp; (try with_reducible rfl))
    case hy6_70 => exact fun w hE => (one_any _ 6 0 0 0 1 _ ((ST.out _ (Ext.trans Ewd hE)).1) HN).mono (fun _ _ h => ⟨h.1, h.2, Ext.trans hE h.2⟩)
    (try simp only [List.getElem_toArray, List.getElem_cons_zero, List.getElem_cons_succ, Act.put, List.setIfInBounds_toArray, List.set_cons_zero, List.set_cons_succ])
    refine' wpAnyR_take (i := 7) (v := ?v7_71) Ext.refl (fun _ _ _ => Ext.trans) rfl (by kernel_rfl) (by kernel_rfl) (by kernel_rfl) (fun _ _ _ h => h) (Or.inl (Or.inl ⟨by rfl, ?hy7_71⟩)) ?rest7_71
    case hy7_71 => (intro w hSw; (obtain ⟨⟨k0, k1⟩, ⟨p0, p1⟩, ⟨q0, q1⟩, ⟨r0, r1⟩⟩ := ST.out _ (Ext.trans Ewd hSw); obtain ⟨b3', b4'⟩ := B12.ext hSw); go_simp; (try with_reducible rfl))
    (try simp only [List.getElem_toArray, List.getElem_cons_zero, List.getElem_cons_succ, Act.put, List.setIfInBounds_toArray, List.set_cons_zero, List.set_cons_succ])
    refine' wpAnyR_take (i := 8) (v := ?v8_72) Ext.refl (fun _ _ _ => Ext.trans) rfl (by kernel_rfl) (by kernel_rfl) (by kernel_rfl) (fun _ _ _ h => h) (Or.inl (Or.inl ⟨by rfl, ?hy8_72⟩)) ?rest8_72
    case hy8_72 => (intro w hSw; (obtain ⟨⟨k0, k1⟩, ⟨p0, p1⟩, ⟨q0, q1⟩, ⟨r0, r1⟩⟩ := ST.out _ (Ext.trans Ewd hSw); obtain ⟨b3', b4'⟩ := B12.ext hSw); go_simp; (try with_reducible rfl))
    (try simp only [List.getElem_toArray, List.getElem_cons_zero, List.getElem_cons_succ, Act.put, List.setIfInBounds_toArray, List.set_cons_zero, List.set_cons_succ])
    refine' wpAnyR_take (i := 9) (v := ?v9_73) Ext.refl (fun _ _ _ => Ext.trans) rfl (by kernel_rfl) (by kernel_rfl) (by kernel_rfl) (fun _ _ _ h => h) (Or.inl (Or.inl ⟨by rfl, ?hy9_73⟩)) ?rest9_73
    case hy9_73 => (intro w hSw; (obtain ⟨⟨k0, k1⟩, ⟨p0, p1⟩, ⟨q0, q1⟩, ⟨r0, r1⟩⟩ := ST.out _ (Ext.trans Ewd hSw); obtain ⟨b3', b4'⟩ := B12.ext hSw); go_simp; (try with_reducible rfl))
    (try simp only [List.getElem_toArray, List.getElem_cons_zero, List.getElem_cons_succ, Act.put, List.setIfInBounds_toArray, List.set_cons_zero, List.set_cons_succ])
    refine' wpAnyR_take (i := 10) (v := ?v10_74) Ext.refl (fun _ _ _ => Ext.trans) rfl (by kernel_rfl) (by kernel_rfl) (by kernel_rfl) (fun _ _ _ h => h) (Or.inl (Or.inl ⟨by rfl, ?hy10_74⟩)) ?rest10_74
    case hy10_74 => (intro w hSw; (obtain ⟨⟨k0, k1⟩, ⟨p0, p1⟩, ⟨q0, q1⟩, ⟨r0, r1⟩⟩ := ST.out _ (Ext.trans Ewd hSw); obtain ⟨b3', b4'⟩ := B12.ext hSw); go_simp; (try with_reducible rfl))
    (try simp only [List.getElem_toArray, List.getElem_cons_zero, List.getElem_cons_succ, Act.put, List.setIfInBounds_toArray, List.set_cons_zero, List.set_cons_succ])
    refine' wpAnyR_take (i := 11) (v := ?v11_75) Ext.refl (fun _ _ _ => Ext.trans) rfl (by kernel_rfl) (by kernel_rfl) (by kernel_rfl) (fun _ _ _ h => h) (Or.inl (Or.inl ⟨by rfl, ?hy11_75⟩)) ?rest11_75
    case hy11_75 => (intro w hSw; (obtain ⟨⟨k0, k1⟩, ⟨p0, p1⟩, ⟨q0, q1⟩, ⟨r0, r1⟩⟩ := ST.out _ (Ext.trans Ewd hSw); obtain ⟨b3', b4'⟩ := B12.ext hSw); go_simp; (try with_reducible rfl))
    (try simp only [List.getElem_toArray, List.getElem_cons_zero, List.getElem_cons_succ, Act.put, List.setIfInBounds_toArray, List.set_cons_zero, List.set_cons_succ])
    refine' wpAnyR_take (i := 12) (v := ?v12_76) Ext.refl (fun _ _ _ => Ext.trans) rfl (by kernel_rfl) (by kernel_rfl) (by kernel_rfl) (fun _ _ _ h => h) (Or.inl (Or.inl ⟨by rfl, ?hy12_76⟩)) ?rest12_76
    case hy12_76 => (intro w hSw; (obtain ⟨⟨k0, k1⟩, ⟨p0, p1⟩, ⟨q0, q1⟩, ⟨r0, r1⟩⟩ := ST.out _ (Ext.trans Ewd hSw); obtain ⟨b3', b4'⟩ := B12.ext hSw); go_simp; (try with_reducible rfl))
    (try simp only [List.getElem_toArray, List.getElem_cons_zero, List.getElem_cons_succ, Act.put, List.setIfInBounds_toArray, List.set_cons_zero, List.set_cons_succ])
    refine' wpAnyR_take (i := 13) (v := .agg #[.int .u8 0, .int .i64 1]) Ext.refl (fun _ _ _ => Ext.trans) rfl (by kernel_rfl) (by kernel_rfl) (by kernel_rfl) (fun _ _ _ h => h) (Or.inr ⟨by rfl, 37, _, ?hx13_77, ?hy13_77⟩) ?rest13_77
    case hx13_77 => (intro w hSw; go_simp; (try with_reducible rfl))
    case hy13_77 => exact fun w hE => (two_any _ 14 0 a 0 a 0 1 _ ((ST.out _ (Ext.trans Ewd hE)).1) HLE).mono (fun _ _ h => ⟨h.1, h.2, Ext.trans hE h.2⟩)
    (try simp only [List.getElem_toArray, List.getElem_cons_zero, List.getElem_cons_succ, Act.put, List.setIfInBounds_toArray, List.set_cons_zero, List.set_cons_succ])
    refine' wpAnyR_take (i := 14) (v := .agg #[.int .u8 0, .int .i64 0]) Ext.refl (fun _ _ _ => Ext.trans) rfl (by kernel_rfl) (by kernel_rfl) (by kernel_rfl) (fun _ _ _ h => h) (Or.inr ⟨by rfl, 35, _, ?hx14_78, ?hy14_78⟩) ?rest14_78
    case hx14_78 => (intro w hSw; go_simp; (try with_reducible rfl))
    case hy14_78 => exact fun w hE => (one_any _ 6 0 1 0 0 _ ((ST.out _ (Ext.trans Ewd hE)).1) HM).mono (fun _ _ h => ⟨h.1, h.2, Ext.trans hE h.2⟩)
    (try simp only [List.getElem_toArray, List.getElem_cons_zero, List.getElem_cons_succ, Act.put, List.setIfInBounds_toArray, List.set_cons_zero, List.set_cons_succ])
    refine' wpAnyR_take (i := 15) (v := ?v15_79) Ext.refl (fun _ _ _ => Ext.trans) rfl (by kernel_rfl) (by kernel_rfl) (by kernel_rfl) (fun _ _ _ h => h) (Or.inl (Or.inl ⟨by rfl, ?hy15_79⟩)) ?rest15_79
    case hy15_79 => (intro w hSw; (obtain ⟨⟨k0, k1⟩, ⟨p0, p1⟩, ⟨q0, q1⟩, ⟨r0, r1⟩⟩ := ST.out _ (Ext.trans Ewd hSw); obtain ⟨b3', b4'⟩ := B12.ext hSw); go_simp; (try with_reducible rfl))
    (try simp only [List.getElem_toArray, List.getElem_cons_zero, List.getElem_cons_succ, Act.put, List.setIfInBounds_toArray, List.set_cons_zero, List.set_cons_succ])
    refine' wpAnyR_take (i := 16) (v := ?v16_80) Ext.refl (fun _ _ _ => Ext.trans) rfl (by kernel_rfl) (by kernel_rfl) (by kernel_rfl) (fun _ _ _ h => h) (Or.inl (Or.inl ⟨by rfl, ?hy16_80⟩)) ?rest16_80
    case hy16_80 => (intro w hSw; (obtain ⟨⟨k0, k1⟩, ⟨p0, p1⟩, ⟨q0, q1⟩, ⟨r0, r1⟩⟩ := ST.out _ (Ext.trans Ewd hSw); obtain ⟨b3', b4'⟩ := B12.ext hSw); go_simp; (try with_reducible rfl))
    (try simp only [List.getElem_toArray, List.getElem_cons_zero, List.getElem_cons_succ, Act.put, List.setIfInBounds_toArray, List.set_cons_zero, List.set_cons_succ])
    refine' wpAnyR_take (i := 17) (v := ?v17_81) Ext.refl (fun _ _ _ => Ext.trans) rfl (by kernel_rfl) (by kernel_rfl) (by kernel_rfl) (fun _ _ _ h => h) (Or.inl (Or.inl ⟨by rfl, ?hy17_81⟩)) ?rest17_81
    case hy17_81 => (intro w hSw; (obtain ⟨⟨k0, k1⟩, ⟨p0, p1⟩, ⟨q0, q1⟩, ⟨r0, r1⟩⟩ := ST.out _ (Ext.trans Ewd hSw); obtain ⟨b3', b4'⟩ := B12.ext hSw); go_simp; (try with_reducible rfl))
    (try simp only [List.getElem_toArray, List.getElem_cons_zero, List.getElem_cons_succ, Act.put, List.setIfInBounds_toArray, List.set_cons_zero, List.set_cons_succ])
    refine wpAnyR_done (by kernel_rfl) ?_ _
    intro we _ Ewe
    have X1 : Ext wc we := Ext.trans Ewd Ewe
    have A11 := B11.ext Ewe
    have A13 := B13.ext Ewe
    clear B11 B12 B13 HL HG HE HLE HN HM
    obtain ⟨⟨k0, k1⟩, ⟨p0, p1⟩, ⟨q0, q1⟩, ⟨r0, r1⟩⟩ := ST.out _ X1
    obtain ⟨b1', b2'⟩ := id A11
    obtain ⟨b5', b6'⟩ := id A13
    have hfld := field1_3
    go_wp2_with (first | (go_at_call 17; refine (known_any _ (hg.out.ext (show Ext wc _ from by first | exact X1 | exact Ext.trans X1 y1 | exact Ext.trans X1 (Ext.trans y1 y2)))).mono ?_; rintro e x6 ⟨rfl, y6⟩))
    go_returns
    exact ⟨rfl, Ext.trans E0.out (Ext.trans X1 (by repeat' (first | (with_reducible exact Ext.refl _) | (with_reducible assumption) | (with_reducible refine Ext.alloc ?_ _) | (with_reducible refine Ext.drew ?_) | (with_reducible refine Ext.drewN ?_ _) | (with_reducible refine Ext.setCell ?_ ?_ _) | (with_reducible refine Ext.trans ?_ (by assumption)) | go_size)))⟩
end Go.Proofs.YtaddlhebhiehgaaDoor.lawCompares
