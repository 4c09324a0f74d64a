/-
  Part 36 of a proof: LH10.
-/
import Derived.Test.YtdokmmhjmclmnaaGreatM22
import Derived.Test.YtdokmmhjmclmnaaGreatM33
import Derived.Test.YtdokmmhjmclmnaaGreatM35
set_option linter.unusedSimpArgs false
set_option linter.unusedVariables false
set_option linter.unusedSectionVars false
set_option linter.unnecessarySimpa false
namespace Go.Proofs.YtdokmmhjmclmnaaGreat
open Go.RowKit Go.Maps
theorem At_end_f {w : World} {d : Hd} {S : Hp.Hs} {B : Nat} {L : List Hp.Tl} {ch : Nat → List Nat} {a f : Nat} (h : HAt w d S) (hw : Hp.Wf S B L ch) (ha : a ∈ S.taken) (hf : Hp.ow S.words a = 20 + f) (he : Hp.isEnd (Hp.ow S.words a) = true) :
    Calls Tryz.prog 22 #[.pointer (some ⟨d.hb, 0, none⟩), .int .i64 a] w fun e w' => e = .returned (.tuple #[.agg #[.int .i64 (-1), .slice none 0 0], .agg #[.int .u8 f, .int .i64 (Hp.ow S.words (a + 4))], .int .i64 0]) ∧ Ext w w' := by
  have pa := hw.part ha
  have := At_end h (Hp.has_of ha) (hw.tag_ ha) he (Hp.rd_ow (show a + 4 < S.words.length by omega))
  rw [show Hp.ow S.words a - 20 = (f : Int) by omega] at this
  exact this
theorem At_node_f {w : World} {d : Hd} {S : Hp.Hs} {B : Nat} {L : List Hp.Tl} {ch : Nat → List Nat} {a : Nat} (h : HAt w d S) (hw : Hp.Wf S B L ch) (ha : a ∈ S.taken) (he : Hp.isEnd (Hp.ow S.words a) = false) :
    Calls Tryz.prog 22 #[.pointer (some ⟨d.hb, 0, none⟩), .int .i64 a] w (NodePost w (Hp.ow S.words a) (Hp.fz (Hp.ow S.words) S.sizes a)) := by
  have ht := hw.tag_le ha
  refine At_node h (Hp.has_of ha) (hw.tag_ ha) he ?_ (by omega) (by omega)
  rw [hw.kids_ ha]
  simp [Hp.kz, he]
theorem cells_at {S : Hp.Hs} {j a : Nat} (h : S.taken[j]? = some a) : Hp.rd (cellsI S) j = some (a : Int) := by
 simp [Hp.rd, cellsI, h]
structure Lb (w0 W : World) (d : Hd) (g c : Nat) (V : List Int) (p : Option Addr) (cp : Nat) (l : List Int) : Prop where
 ext : Ext w0 W
 own : ∀ b ∈ d.own, w0.heap.size ≤ b
 ws : SliceAt W (some ⟨g, 0, none⟩) c V
 gown : g ∉ d.own
 ls : SliceAt W p cp l
 lown : ∀ b o, p = some ⟨b, o, none⟩ → b ∉ d.own
theorem Lb.but {w0 W W' : World} {d : Hd} {g c : Nat} {V : List Int} {p : Option Addr} {cp : Nat} {l : List Int} (h : Lb w0 W d g c V p cp l) (k : But d.own W W') : Lb w0 W' d g c V p cp l :=
 ⟨k.toExt h.ext h.own, h.own, h.ws.but k (fun b o e => by cases e; exact h.gown), h.gown, h.ls.but k h.lown, h.lown⟩
theorem Lb.ext' {w0 W W' : World} {d : Hd} {g c : Nat} {V : List Int} {p : Option Addr} {cp : Nat} {l : List Int} (h : Lb w0 W d g c V p cp l) (k : Ext W W') : Lb w0 W' d g c V p cp l :=
 h.but (But.ofExt k)
theorem SliceAt.cell_ {w : World} {b o c : Nat} {l : List Int} (h : SliceAt w (some ⟨b, o, none⟩) c l) {j : Nat} {x : Int} (hx : Hp.rd l j = some x) : w.cell? ⟨b, o + j, none⟩ = some (.int .i64 x) := by
 obtain ⟨b', o', e, _, hc⟩ := h.cells (by have := rd_lt hx; omega)
 cases e
 exact hc j x hx
def Rel (d : Hd) (S : Hp.Hs) (a b : World) : Prop := But d.own a b ∧ (HAt a d S → HAt b d S)
theorem Rel.refl (d : Hd) (S : Hp.Hs) (a : World) : Rel d S a a := ⟨But.refl _ _, id⟩
theorem Rel.trans {d : Hd} {S : Hp.Hs} {a b c : World} (h : Rel d S a b) (k : Rel d S b c) : Rel d S a c := ⟨h.1.trans k.1, fun x => k.2 (h.2 x)⟩
theorem Rel.ext {d : Hd} {S : Hp.Hs} {a b c : World} (h : Rel d S a b) (k : Ext b c) : Rel d S a c := ⟨h.1.ext k, fun x => (h.2 x).ext k⟩
theorem Rel.now {d : Hd} {S : Hp.Hs} {a b : World} (h : Now a b d S) : Rel d S a b := ⟨h.but, fun _ => h.toHAt⟩
theorem cut_world {P : Program} {c : Code} {Q : Exit → Act → World → Prop} {a : Act} {w : World} {F : World → Prop} (h : F w) (k : ∀ w', F w' → c.wp P Q a w') : c.wp P Q a w := k w h
set_option maxRecDepth 100000 in
set_option maxHeartbeats 16000000 in
theorem heapOne {w : World} {sp op pa : Option Addr} {sc oc ca : Nat} {z o : List Int} {n : Int} {acts : List Hp.Act'} (h : SAt w sp sc op oc pa ca z o acts) :
    Calls Tryz.prog 6 #[.agg #[.slice sp z.length sc, .slice op o.length oc, .int .i64 n, .slice pa acts.length ca]] w fun e w' => e = .returned (.bool true) ∧ Ext w w' := by
  have E0 : Ext w (w.alloc (.cells #[.slice sp z.length sc, .slice op o.length oc, .int .i64 n, .slice pa acts.length ca] 25)) := Ext.alloc (Ext.refl _) _
  have H := Lib.hid (h.ext E0)
  have RD := Lib.hid (lReady (n := n) (h.ext E0))
  cases hr : Hp.readyB z o n acts with
  | false =>
   rw [hr] at RD
   clear h hr H
   go_enter Tryz.func6, Tryz.ntmps6
   go_wp2_with (first
    | (go_at_call 40; refine (RD.out).mono ?_; rintro e w1 ⟨rfl, hb1⟩; obtain ⟨hc1, hf1, hs1⟩ := hb1.cells)
    | (go_at_call 15; refine (awake_any _).mono ?_; rintro e w2 ⟨rfl, hb2⟩))
   go_returns
   exact ⟨rfl, (E0.trans hb1).trans hb2⟩
  | true =>
   rw [hr] at RD
   obtain ⟨k, rfl, hrd⟩ := Hp.ready_ok hr
   have HR := Lib.hid hrd
   have HE0 := Lib.hid E0
   have HC := Lib.hid (show (w.alloc (.cells #[.slice sp z.length sc, .slice op o.length oc, .int .i64 k, .slice pa acts.length ca] 25)).cell? ⟨w.heap.size, 0, none⟩ = some (.slice sp z.length sc) ∧ (w.alloc (.cells #[.slice sp z.length sc, .slice op o.length oc, .int .i64 k, .slice pa acts.length ca] 25)).cell? ⟨w.heap.size, 1, none⟩ = some (.slice op o.length oc) ∧ (w.alloc (.cells #[.slice sp z.length sc, .slice op o.length oc, .int .i64 k, .slice pa acts.length ca] 25)).cell? ⟨w.heap.size, 2, none⟩ = some (.int .i64 k) ∧ (w.alloc (.cells #[.slice sp z.length sc, .slice op o.length oc, .int .i64 k, .slice pa acts.length ca] 25)).cell? ⟨w.heap.size, 3, none⟩ = some (.slice pa acts.length ca) by refine ⟨?_, ?_, ?_, ?_⟩ <;> go_simp)
   clear h hr hrd E0
   go_enter Tryz.func6, Tryz.ntmps6
   go_wp2_with fail
   generalize (w.alloc (.cells #[.slice sp z.length sc, .slice op o.length oc, .int .i64 k, .slice pa acts.length ca] 25)) = w0 at H HE0 HC RD ⊢
   generalize w.heap.size = gb at HC ⊢
   obtain ⟨c0, c1, c2, c3⟩ := HC.out
   have z0 := cell_lt c0
   clear HC
   go_upto_region 3 with (go_at_call 40; refine (RD.out).mono ?_; rintro e w1 ⟨rfl, hb1⟩; obtain ⟨hc1, hf1, hs1⟩ := hb1.cells)
   have b0 := (hb1.cell z0 0).trans c0
   have b1 := (hb1.cell z0 1).trans c1
   have b2 := (hb1.cell z0 2).trans c2
   have b3 := (hb1.cell z0 3).trans c3
   have PL := Lib.hid (lPlayed (H.out.ext hb1) HR.out)
   go_upto_region 6 with (go_at_call 41; refine PL.out.mono ?_; rintro e w2 ⟨d, S, g, c, L, ch, rfl, P, hw, rfl, rfl, rfl⟩)
   have E2 := hb1.trans P.ext
   have HP := Lib.hid P
   have HW := Lib.hid hw
   have d0 := (P.ext.cell (Nat.lt_of_lt_of_le z0 hb1.le) 0).trans b0
   have d1 := (P.ext.cell (Nat.lt_of_lt_of_le z0 hb1.le) 1).trans b1
   have d2 := (P.ext.cell (Nat.lt_of_lt_of_le z0 hb1.le) 2).trans b2
   have d3 := (P.ext.cell (Nat.lt_of_lt_of_le z0 hb1.le) 3).trans b3
   have CL := Lib.hid (lCells (pa := pa) (ca := ca) (na := acts.length) (n := (S.words.length : Int)) (H.out.ext E2).sizes (H.out.ext E2).order P.ws hw)
   have hcl : (cellsI S).length = S.taken.length := by simp [cellsI]
   clear P hw PL b0 b1 b2 b3
   go_upto_region 7 with (go_at_call 42; refine CL.out.mono ?_; rintro e w3 ⟨p1, cp, rfl, hR, hb3⟩)
   have LB : Hid (Lb w0 w3 d g c S.words p1 cp (cellsI S)) := Lib.hid ⟨E2.trans hb3, fun b hb => Nat.le_trans hb1.le (HP.out.own b hb), HP.out.ws.ext hb3, HP.out.gown, hR.at_, fun b o e hm => by have := hR.far e; have := HP.out.at_.own_lt b hm; omega⟩
   have HH := Lib.hid (HP.out.at_.ext hb3)
   clear hR CL d0 d1 d2 d3 HP H RD
   obtain ⟨m, hm⟩ : ∃ m, S.taken.length = m := ⟨_, rfl⟩
   have few := HW.out.few
   have hi := HW.out.hi
   have lo := HW.out.lo
   have HM := Lib.hid hm
   rw [hm] at few hcl
   rw [hm]
   have HCL := Lib.hid hcl
   clear hm hcl
   go_wp2_with fail
   go_loopg [7] m (fun g' i wr => ∃ j : Nat, j ≤ m ∧ m - j ≤ g' ∧ i = .int .i64 j ∧ Hid (Now w3 wr d S))
   case atStart => exact ⟨0, Nat.zero_le _, by omega, rfl, Lib.hid (Now.refl HH.out)⟩
   case round =>
    obtain ⟨j, hj, hg, rfl, N⟩ := hrel
    by_cases hlt : j < m
    · have tk : decide ((j : Int) < (m : Int)) = true := decide_eq_true (by omega)
      obtain ⟨a, ha⟩ : ∃ a, S.taken[j]? = some a := ⟨_, List.getElem?_eq_getElem (by rw [HM.out]; exact hlt)⟩
      have hat := List.mem_of_getElem? ha
      have LB1 := Lib.hid (LB.out.but N.out.but)
      obtain ⟨bb, oo, rfl, hbb, -⟩ := LB1.out.ls.cells (by rw [HCL.out]; omega)
      have HA := Lib.hid (cells_at ha)
      have lj := LB1.out.ls.cell_ HA.out
      have lle := LB1.out.ls.le
      have lcap := LB1.out.ls.cap
      have pa' := HW.out.part hat
      rw [HCL.out] at lle
      have OL := Lib.hid N.out.toHAt.own_lt
      clear ha
      cases he : Hp.isEnd (Hp.ow S.words a) with
      | true =>
       obtain ⟨f, hf, hf4⟩ : ∃ f : Nat, Hp.ow S.words a = 20 + f ∧ f ≤ 4 := by
        simp only [Hp.isEnd, Hp.within, Bool.and_eq_true, decide_eq_true_eq] at he
        exact ⟨(Hp.ow S.words a - 20).toNat, by omega, by omega⟩
       have AT := Lib.hid (At_end_f N.out.toHAt HW.out hat hf he)
       have hv := HW.out.cells.ends a hat he
       have en := HW.out.end_hit hat he
       rw [show Hp.ow S.words a - 20 = (f : Int) by omega] at en
       have EN := Lib.hid en
       obtain ⟨v, hvv⟩ : ∃ v, Hp.ow S.words (a + 4) = v := ⟨_, rfl⟩
       rw [hvv] at AT EN hv
       clear en hvv he hf pa'
       have hv1 := hv.1
       have hv2 := hv.2.1
       clear hv
       go_upto_region 14 with (go_at_call 22; refine AT.out.mono ?_; rintro e w4 ⟨rfl, hb4⟩)
       go_upto_region 15 with (go_at_call 43; refine (End_any (N.out.toHAt.ext (exx)) (by omega) (by omega) (by omega) EN.out).mono ?_; rintro e w6 ⟨rfl, N6⟩)
       have N7 := Lib.hid (⟨N6.toHAt, (N.out.but.ext (exx)).trans N6.but⟩ : Now w3 w6 d S)
       have lj6 := (LB.out.but N7.out.but).ls.cell_ HA.out
       clear N6 lj hb4
       go_wp2_with fail
       go_roundg (m - (j + 1))
       case measure => omega
       case rel => exact ⟨j + 1, by omega, Nat.le_refl _, by go_num, N7⟩
      | false =>
       have AT := Lib.hid (At_node_f N.out.toHAt HW.out hat he)
       have mk := HW.out.make_hit hat he
       have ht := HW.out.tag_le hat
       have hks : (Hp.fz (Hp.ow S.words) S.sizes a).length ≤ 12 := by rw [Hp.fz_length]; omega
       obtain ⟨t, htt⟩ : ∃ t, Hp.ow S.words a = t := ⟨_, rfl⟩
       obtain ⟨ks, hkk⟩ : ∃ ks, Hp.fz (Hp.ow S.words) S.sizes a = ks := ⟨_, rfl⟩
       rw [htt, hkk] at AT mk
       rw [htt] at ht
       rw [hkk] at hks
       have MK := Lib.hid mk.1
       have FD := Lib.hid mk.2
       have tv : decide (t - 1 < 0) = false := decide_eq_false (by omega)
       clear htt hkk mk he
       go_upto_region 17 with (go_at_call 22; refine AT.out.mono ?_; rintro e w4 ⟨g4, c4, rfl, R4, hb4⟩)
       have BN := Lib.hid (show w4.heap.size ∉ d.own from fun hm => by have := OL.out _ hm; have := hb4.le; omega)
       have R4' := Lib.hid R4.at_
       have R4far := R4.far rfl
       refine cut_world (F := fun W => Ext w4 W ∧ W.cell? ⟨w4.heap.size, 0, none⟩ = some (.int .i64 (t - 1)) ∧ W.cell? ⟨w4.heap.size, 1, none⟩ = some (.slice (some ⟨g4, 0, none⟩) ks.length c4)) ⟨exx, by go_simp, by go_simp⟩ ?_
       rintro w5 ⟨E5, b0, b1⟩
       have H5 := Lib.hid (N.out.toHAt.ext (hb4.trans E5))
       have K4 := Lib.hid (R4'.out.ext E5)
       have B5 := Lib.hid (N.out.but.ext (hb4.trans E5))
       clear R4 R4' lj
       refine wp_region_plan (S := (fun W : World => W.cell? ⟨w4.heap.size, 0, none⟩ = some (.int .i64 (t - 1)) ∧ W.cell? ⟨w4.heap.size, 1, none⟩ = some (.slice (some ⟨g4, 0, none⟩) ks.length c4))) (R := (Rel d S)) [false, false, false, false, false, true, true, false, false, false, false, false] (by kernel_rfl) ((fun _ => Rel.refl _ _ _)) ((fun _ _ _ h k => Rel.trans h k)) (by kernel_rfl) (fun _ _ d _ _ h => by cases d <;> exact h) (by kernel_rfl) (by exact ⟨b0, b1⟩) ?_
       intro ops hops'; have hops := Lib.hid hops'; clear hops'
       have Da : Ext w5 (World.drew w5) := Ext.drew (Ext.refl _)
       generalize World.drew w5 = wd at Da ⊢
       have ya0 := (Da.cell (cell_lt b0) 0).trans b0
       have ya1 := (Da.cell (cell_lt b1) 1).trans b1
       have Ka := Lib.hid (K4.out.ext Da)
       have HDa := Lib.hid (H5.out.ext Da)
       have OLa := Lib.hid HDa.out.own_lt
       have GFa := Lib.hid (show ∀ b o, (some ⟨g4, 0, none⟩ : Option Addr) = some ⟨b, o, none⟩ → b ∉ d.own from fun b o e hm => by cases e; have := OL.out _ hm; omega)
       refine' Plan.take (v := ?v0_1) (Or.inl (Or.inl ⟨by first | rfl | (rw [hops.out]; rfl), ?hy0_1⟩)) ?rest0_1
       case hy0_1 => (intro w hSw; (skip); go_simp; (try with_reducible rfl))
       (try simp only [Act.put, List.setIfInBounds_toArray, List.set_cons_zero, List.set_cons_succ])
       refine' Plan.take (v := ?v1_2) (Or.inl (Or.inl ⟨by first | rfl | (rw [hops.out]; rfl), ?hy1_2⟩)) ?rest1_2
       case hy1_2 => (intro w hSw; (skip); go_simp; (try with_reducible rfl))
       (try simp only [Act.put, List.setIfInBounds_toArray, List.set_cons_zero, List.set_cons_succ])
       refine' Plan.take (v := ?v2_3) (Or.inl (Or.inl ⟨by first | rfl | (rw [hops.out]; rfl), ?hy2_3⟩)) ?rest2_3
       case hy2_3 => (intro w hSw; (obtain ⟨q0, q1⟩ := hSw); go_simp; (try with_reducible rfl))
       (try simp only [Act.put, List.setIfInBounds_toArray, List.set_cons_zero, List.set_cons_succ])
       refine' Plan.take (v := ?v3_4) (Or.inl (Or.inl ⟨by first | rfl | (rw [hops.out]; rfl), ?hy3_4⟩)) ?rest3_4
       case hy3_4 => (intro w hSw; (skip); go_simp; (try with_reducible rfl))
       (try simp only [Act.put, List.setIfInBounds_toArray, List.set_cons_zero, List.set_cons_succ])
       refine' Plan.take (v := ?v4_5) (Or.inl (Or.inl ⟨by first | rfl | (rw [hops.out]; rfl), ?hy4_5⟩)) ?rest4_5
       case hy4_5 => (intro w hSw; (obtain ⟨q0, q1⟩ := hSw); go_simp; (try with_reducible rfl))
       (try simp only [Act.put, List.setIfInBounds_toArray, List.set_cons_zero, List.set_cons_succ])
       refine Plan.run (fun v W => ∃ p6 c6, v = .slice p6 ks.length c6 ∧ SliceAt W p6 c6 ks ∧ (∀ b o, p6 = some ⟨b, o, none⟩ → b ∉ d.own) ∧ Rel d S wd W) (by first | rfl | (rw [hops.out]; rfl)) ?run5a ?vs5a ?next5a
       case run5a =>
        intro w' e1 _
        refine .inl ⟨17, #[.slice (some ⟨g4, 0, none⟩) ks.length c4], ?_, (ints_any (Ka.out.but e1.1 GFa.out) (fun h => by cases h) (by omega)).mono ?_⟩
        · go_simp
        · rintro e' W ⟨p6, c6, rfl, R6, E6, _⟩
          exact ⟨_, rfl, p6, c6, rfl, R6.at_, fun b o e hm => by have := R6.far e; have := OLa.out b hm; have := e1.1.size; omega, e1.ext E6⟩
       case vs5a =>
        rintro v W ⟨p6, c6, rfl, R6, F6, E6⟩ W' e1
        have e2 := (E6.trans e1).1
        exact ⟨(e2.cell (cell_lt ya0) BN.out 0).trans ya0, (e2.cell (cell_lt ya1) BN.out 1).trans ya1⟩
       rintro v w6 ⟨p6, c6, rfl, R6a, F6a, E6a⟩
       (try simp only [Act.put, List.setIfInBounds_toArray, List.set_cons_zero, List.set_cons_succ])
       refine Plan.run (fun v W => v = .tuple #[.int .i64 a, .int .i64 0] ∧ Rel d S w6 W) (by first | rfl | (rw [hops.out]; rfl)) ?run6a ?vs6a ?next6a
       case run6a =>
        intro w' e1 _
        have R6' := R6a.but e1.1 F6a
        refine .inl ⟨44, #[.pointer (some ⟨d.hb, 0, none⟩), .int .i64 (t - 1), .slice p6 ks.length c6], ?_, (Make_any ((E6a.trans e1).2 HDa.out) R6' F6a (by omega) (by omega) MK.out).mono ?_⟩
        · go_simp
        · rintro e' W ⟨rfl, hN⟩
          exact ⟨_, rfl, rfl, e1.trans (Rel.now hN)⟩
       case vs6a =>
        rintro v W ⟨rfl, hN⟩ W' e1
        exact hN.trans e1
       rintro v w7 ⟨rfl, hNa⟩
       (try simp only [Act.put, List.setIfInBounds_toArray, List.set_cons_zero, List.set_cons_succ])
       clear R6a F6a
       refine' Plan.take (v := ?v7_6) (Or.inl (Or.inl ⟨by first | rfl | (rw [hops.out]; rfl), ?hy7_6⟩)) ?rest7_6
       case hy7_6 => (intro w hSw; (skip); go_simp; (try with_reducible rfl))
       (try simp only [Act.put, List.setIfInBounds_toArray, List.set_cons_zero, List.set_cons_succ])
       refine' Plan.take (v := ?v8_7) (Or.inl (Or.inl ⟨by first | rfl | (rw [hops.out]; rfl), ?hy8_7⟩)) ?rest8_7
       case hy8_7 => (intro w hSw; (skip); go_simp; (try with_reducible rfl))
       (try simp only [Act.put, List.setIfInBounds_toArray, List.set_cons_zero, List.set_cons_succ])
       refine' Plan.take (v := ?v9_8) (Or.inl (Or.inl ⟨by first | rfl | (rw [hops.out]; rfl), ?hy9_8⟩)) ?rest9_8
       case hy9_8 => (intro w hSw; (skip); go_simp; (try with_reducible rfl))
       (try simp only [Act.put, List.setIfInBounds_toArray, List.set_cons_zero, List.set_cons_succ])
       refine' Plan.take (v := ?v10_9) (Or.inl (Or.inl ⟨by first | rfl | (rw [hops.out]; rfl), ?hy10_9⟩)) ?rest10_9
       case hy10_9 => (intro w hSw; (skip); go_simp; (try with_reducible rfl))
       (try simp only [Act.put, List.setIfInBounds_toArray, List.set_cons_zero, List.set_cons_succ])
       refine' Plan.take (v := ?v11_10) (Or.inl (Or.inl ⟨by first | rfl | (rw [hops.out]; rfl), ?hy11_10⟩)) ?rest11_10
       case hy11_10 => (intro w hSw; (skip); go_simp; (try with_reducible rfl))
       (try simp only [Act.put, List.setIfInBounds_toArray, List.set_cons_zero, List.set_cons_succ])
       refine Plan.done ?_
       rintro w7' e1a _
       have Za := Lib.hid ((E6a.trans hNa).trans e1a)
       have va0 := (Za.out.1.cell (cell_lt ya0) BN.out 0).trans ya0
       have va1 := (Za.out.1.cell (cell_lt ya1) BN.out 1).trans ya1
       have KKa := Lib.hid (Ka.out.but Za.out.1 GFa.out)
       have HZa := Lib.hid (Za.out.2 HDa.out)
       clear ya0 ya1 e1a hNa E6a OLa HDa Ka
       go_upto_region 18 with fail
       refine wp_region_plan (S := (fun W : World => W.cell? ⟨w4.heap.size, 0, none⟩ = some (.int .i64 (t - 1)) ∧ W.cell? ⟨w4.heap.size, 1, none⟩ = some (.slice (some ⟨g4, 0, none⟩) ks.length c4))) (R := (Rel d S)) [false, false, false, false, false, true, true, false, false, false, false, false] (by kernel_rfl) ((fun _ => Rel.refl _ _ _)) ((fun _ _ _ h k => Rel.trans h k)) (by kernel_rfl) (fun _ _ d _ _ h => by cases d <;> exact h) (by kernel_rfl) (by exact ⟨va0, va1⟩) ?_
       intro ops hops'; have hops := Lib.hid hops'; clear hops'
       have Db : Ext w7' (World.drew w7') := Ext.drew (Ext.refl _)
       generalize World.drew w7' = we at Db ⊢
       have yb0 := (Db.cell (cell_lt va0) 0).trans va0
       have yb1 := (Db.cell (cell_lt va1) 1).trans va1
       have Kb := Lib.hid (KKa.out.ext Db)
       have HDb := Lib.hid (HZa.out.ext Db)
       have OLb := Lib.hid HDb.out.own_lt
       have GFb := Lib.hid (show ∀ b o, (some ⟨g4, 0, none⟩ : Option Addr) = some ⟨b, o, none⟩ → b ∉ d.own from fun b o e hm => by cases e; have := OL.out _ hm; omega)
       refine' Plan.take (v := ?v0_11) (Or.inl (Or.inl ⟨by first | rfl | (rw [hops.out]; rfl), ?hy0_11⟩)) ?rest0_11
       case hy0_11 => (intro w hSw; (skip); go_simp; (try with_reducible rfl))
       (try simp only [Act.put, List.setIfInBounds_toArray, List.set_cons_zero, List.set_cons_succ])
       refine' Plan.take (v := ?v1_12) (Or.inl (Or.inl ⟨by first | rfl | (rw [hops.out]; rfl), ?hy1_12⟩)) ?rest1_12
       case hy1_12 => (intro w hSw; (skip); go_simp; (try with_reducible rfl))
       (try simp only [Act.put, List.setIfInBounds_toArray, List.set_cons_zero, List.set_cons_succ])
       refine' Plan.take (v := ?v2_13) (Or.inl (Or.inl ⟨by first | rfl | (rw [hops.out]; rfl), ?hy2_13⟩)) ?rest2_13
       case hy2_13 => (intro w hSw; (obtain ⟨q0, q1⟩ := hSw); go_simp; (try with_reducible rfl))
       (try simp only [Act.put, List.setIfInBounds_toArray, List.set_cons_zero, List.set_cons_succ])
       refine' Plan.take (v := ?v3_14) (Or.inl (Or.inl ⟨by first | rfl | (rw [hops.out]; rfl), ?hy3_14⟩)) ?rest3_14
       case hy3_14 => (intro w hSw; (skip); go_simp; (try with_reducible rfl))
       (try simp only [Act.put, List.setIfInBounds_toArray, List.set_cons_zero, List.set_cons_succ])
       refine' Plan.take (v := ?v4_15) (Or.inl (Or.inl ⟨by first | rfl | (rw [hops.out]; rfl), ?hy4_15⟩)) ?rest4_15
       case hy4_15 => (intro w hSw; (obtain ⟨q0, q1⟩ := hSw); go_simp; (try with_reducible rfl))
       (try simp only [Act.put, List.setIfInBounds_toArray, List.set_cons_zero, List.set_cons_succ])
       refine Plan.run (fun v W => ∃ p6 c6, v = .slice p6 ks.length c6 ∧ SliceAt W p6 c6 ks ∧ (∀ b o, p6 = some ⟨b, o, none⟩ → b ∉ d.own) ∧ Rel d S we W) (by first | rfl | (rw [hops.out]; rfl)) ?run5b ?vs5b ?next5b
       case run5b =>
        intro w' e1 _
        refine .inl ⟨17, #[.slice (some ⟨g4, 0, none⟩) ks.length c4], ?_, (ints_any (Kb.out.but e1.1 GFb.out) (fun h => by cases h) (by omega)).mono ?_⟩
        · go_simp
        · rintro e' W ⟨p6, c6, rfl, R6, E6, _⟩
          exact ⟨_, rfl, p6, c6, rfl, R6.at_, fun b o e hm => by have := R6.far e; have := OLb.out b hm; have := e1.1.size; omega, e1.ext E6⟩
       case vs5b =>
        rintro v W ⟨p6, c6, rfl, R6, F6, E6⟩ W' e1
        have e2 := (E6.trans e1).1
        exact ⟨(e2.cell (cell_lt yb0) BN.out 0).trans yb0, (e2.cell (cell_lt yb1) BN.out 1).trans yb1⟩
       rintro v w8 ⟨p6, c6, rfl, R6b, F6b, E6b⟩
       (try simp only [Act.put, List.setIfInBounds_toArray, List.set_cons_zero, List.set_cons_succ])
       refine Plan.run (fun v W => v = .tuple #[.int .i64 a, .int .i64 0] ∧ Rel d S w8 W) (by first | rfl | (rw [hops.out]; rfl)) ?run6b ?vs6b ?next6b
       case run6b =>
        intro w' e1 _
        have R6' := R6b.but e1.1 F6b
        refine .inl ⟨45, #[.pointer (some ⟨d.hb, 0, none⟩), .int .i64 (t - 1), .slice p6 ks.length c6], ?_, (Find_any ((E6b.trans e1).2 HDb.out) R6' F6b (by omega) (by omega) FD.out).mono ?_⟩
        · go_simp
        · rintro e' W ⟨rfl, hN⟩
          exact ⟨_, rfl, rfl, e1.ext hN⟩
       case vs6b =>
        rintro v W ⟨rfl, hN⟩ W' e1
        exact hN.trans e1
       rintro v w9 ⟨rfl, hNb⟩
       (try simp only [Act.put, List.setIfInBounds_toArray, List.set_cons_zero, List.set_cons_succ])
       clear R6b F6b
       refine' Plan.take (v := ?v7_16) (Or.inl (Or.inl ⟨by first | rfl | (rw [hops.out]; rfl), ?hy7_16⟩)) ?rest7_16
       case hy7_16 => (intro w hSw; (skip); go_simp; (try with_reducible rfl))
       (try simp only [Act.put, List.setIfInBounds_toArray, List.set_cons_zero, List.set_cons_succ])
       refine' Plan.take (v := ?v8_17) (Or.inl (Or.inl ⟨by first | rfl | (rw [hops.out]; rfl), ?hy8_17⟩)) ?rest8_17
       case hy8_17 => (intro w hSw; (skip); go_simp; (try with_reducible rfl))
       (try simp only [Act.put, List.setIfInBounds_toArray, List.set_cons_zero, List.set_cons_succ])
       refine' Plan.take (v := ?v9_18) (Or.inl (Or.inl ⟨by first | rfl | (rw [hops.out]; rfl), ?hy9_18⟩)) ?rest9_18
       case hy9_18 => (intro w hSw; (skip); go_simp; (try with_reducible rfl))
       (try simp only [Act.put, List.setIfInBounds_toArray, List.set_cons_zero, List.set_cons_succ])
       refine' Plan.take (v := ?v10_19) (Or.inl (Or.inl ⟨by first | rfl | (rw [hops.out]; rfl), ?hy10_19⟩)) ?rest10_19
       case hy10_19 => (intro w hSw; (skip); go_simp; (try with_reducible rfl))
       (try simp only [Act.put, List.setIfInBounds_toArray, List.set_cons_zero, List.set_cons_succ])
       refine' Plan.take (v := ?v11_20) (Or.inl (Or.inl ⟨by first | rfl | (rw [hops.out]; rfl), ?hy11_20⟩)) ?rest11_20
       case hy11_20 => (intro w hSw; (skip); go_simp; (try with_reducible rfl))
       (try simp only [Act.put, List.setIfInBounds_toArray, List.set_cons_zero, List.set_cons_succ])
       refine Plan.done ?_
       rintro w9' e1b _
       have Zb := Lib.hid ((E6b.trans hNb).trans e1b)
       have vb0 := (Zb.out.1.cell (cell_lt yb0) BN.out 0).trans yb0
       have vb1 := (Zb.out.1.cell (cell_lt yb1) BN.out 1).trans yb1
       have KKb := Lib.hid (Kb.out.but Zb.out.1 GFb.out)
       have HZb := Lib.hid (Zb.out.2 HDb.out)
       clear yb0 yb1 e1b hNb E6b OLb HDb Kb
       have B9 := Lib.hid ((((B5.out.ext Da).trans Za.out.1).ext Db).trans Zb.out.1)
       have N9 := Lib.hid (⟨HZb.out, B9.out⟩ : Now w3 w9' d S)
       have lj9 := (LB.out.but B9.out).ls.cell_ HA.out
       go_wp2_with fail
       go_roundg (m - (j + 1))
       case measure => omega
       case rel => exact ⟨j + 1, by omega, Nat.le_refl _, by go_num, N9⟩
    · have : j = m := by omega
      subst this
      have tk : decide ((j : Int) < (j : Int)) = false := decide_eq_false (by omega)
      have LB1 := Lib.hid (LB.out.but N.out.but)
      go_wp2_with (first
       | (go_at_call 39; refine (lWordsOf N.out.toHAt (by omega)).mono ?_; rintro e w5 ⟨g5, c5, rfl, R5, E5⟩; have R5' := Lib.hid R5.at_)
       | (go_at_call 24; refine (dSame_is (b := true) (decide_eq_true rfl) R5'.out (LB1.out.ws.ext E5)).mono ?_; rintro e w6 ⟨rfl, E6⟩)
       | (go_at_call 15; refine (awake_any _).mono ?_; rintro e w7 ⟨rfl, E7⟩))
      go_returns
      exact ⟨rfl, HE0.out.trans (((LB1.out.ext.trans E5).trans E6).trans E7)⟩
end Go.Proofs.YtdokmmhjmclmnaaGreat
