/-
  Part 42 of a proof: LH15.
-/
import Derived.Test.YtdokmmhjmclmnaaGreatMP30
import Derived.Test.YtdokmmhjmclmnaaGreatMP39
import Derived.Test.YtdokmmhjmclmnaaGreatMP40
import Derived.Test.YtdokmmhjmclmnaaGreatMP41
set_option linter.unusedSimpArgs false
set_option linter.unusedVariables false
set_option linter.unusedSectionVars false
set_option linter.unnecessarySimpa false
namespace Go.Proofs.YtdokmmhjmclmnaaGreat
open Go.RowKit Go.Maps
def PlayIn2 (s' : Hp.Sc) (v : Value) (W : World) : Prop := ∃ p c g cap, v = .tuple #[.slice p s'.res.length c, .slice (some ⟨g, 0, none⟩) s'.S.words.length cap, .int .i64 0] ∧ SliceAt W p c s'.res ∧ SliceAt W (some ⟨g, 0, none⟩) cap s'.S.words
theorem PlayIn2.ext {W W' : World} {s' : Hp.Sc} {v : Value} (h : PlayIn2 s' v W) (e : Ext W W') : PlayIn2 s' v W' := by
 obtain ⟨p, c, g, cap, rfl, h1, h2⟩ := h
 exact ⟨p, c, g, cap, rfl, h1.ext e, h2.ext e⟩
theorem play_in2 {W : World} {p q pa : Option Addr} {c d ca n : Nat} {z o : List Int} {acts : List Hp.Act'} {S0 : Hp.Hs} {s' : Hp.Sc} (hs : SliceAt W p c z) (ho : SliceAt W q d o) (hp : 0 < z.length ∨ p = none) (hq : 0 < o.length ∨ q = none) (hr : Hp.Ready z o n acts)
    (hS : Hp.new z o n = some S0) (ha : ActsAt W pa ca acts) (hpl : Hp.Sc.play ⟨S0, [], []⟩ acts = some s') :
    Calls Tryz.prog 30 #[.slice p z.length c, .slice q o.length d, .int .i64 n, .slice pa acts.length ca] W fun e w' => ∃ v, e = .returned v ∧ PlayIn2 s' v w' ∧ Ext W w' := by
  have few := hr.fr.few; have hlen := hr.fr.len; refine (Play_any hs ho hp hq (by omega) few hr.n1 (by have := hr.n2; omega) hr.err hS hr.fr.pos ha (by have := hr.few; omega) hpl).mono ?_; rintro e w' ⟨p', c', g, cap, rfl, h1, h2, hE⟩; exact ⟨_, rfl, ⟨p', c', g, cap, rfl, h1, h2⟩, hE⟩
def PlayErr (fe : Int) (v : Value) (_ : World) : Prop := v = .tuple #[.slice none 0 0, .slice none 0 0, .int .i64 fe]
theorem PlayErr.ext {W W' : World} {fe : Int} {v : Value} (h : PlayErr fe v W) (_ : Ext W W') : PlayErr fe v W' := h
theorem play_err_in {W : World} {p q pa : Option Addr} {c d ca na : Nat} {z o : List Int} {n fe : Int} (hs : SliceAt W p c z) (ho : SliceAt W q d o) (hq : 0 < o.length ∨ q = none) (hol : o.length ≤ 1000000) (he : Hp.newErr z o n = fe) (h0 : fe ≠ 0) :
    Calls Tryz.prog 30 #[.slice p z.length c, .slice q o.length d, .int .i64 n, .slice pa na ca] W fun e w' => ∃ v, e = .returned v ∧ PlayErr fe v w' ∧ Ext W w' := by
  subst he; refine (Play_err (n := 0) hs ho hq hol h0).mono ?_; rintro e w' ⟨rfl, hE⟩; exact ⟨_, rfl, rfl, hE⟩
theorem Hp.thin_facts {z o : List Int} {n : Int} {acts : List Hp.Act'} (h : Hp.thinB z o n acts = true) : z.length ≤ 8 ∧ o.length ≤ 8 ∧ acts.length ≤ 60 ∧ ∀ x ∈ acts, x.list.length ≤ 14 := by
 simp only [Hp.thinB, Hp.slimB, Bool.and_eq_true, Bool.or_eq_true, decide_eq_true_eq, List.all_eq_true] at h
 obtain ⟨⟨h1, h2, _⟩, h3, h4, _⟩ := h
 exact ⟨h1, h2, h3, h4⟩
set_option maxRecDepth 100000 in
set_option maxHeartbeats 16000000 in
theorem heapPlays {w : World} {sp op pa : Option Addr} {sc oc ca : Nat} {z o : List Int} {n : Int} {acts : List Hp.Act'} (h : SAt w sp sc op oc pa ca z o acts) :
    Calls Tryz.prog 4 #[.agg #[.slice sp z.length sc, .slice op o.length oc, .int .i64 n, .slice pa acts.length ca]] w fun e w' => e = .returned (.bool true) ∧ Ext w w' := by
  have E0 : Ext w (w.alloc (.cells #[.slice sp z.length sc, .slice op o.length oc, .int .i64 n, .slice pa acts.length ca] 25)) := Ext.alloc (Ext.refl _) _; have H := Lib.hid (h.ext E0); have TH := Lib.hid (lThin (n := n) (h.ext E0))
  cases ht : Hp.thinB z o n acts with
  | false =>
   rw [ht] at TH; clear h ht H; go_enter Tryz.func4, Tryz.ntmps4
   go_wp2_with (first
    | (go_at_call 14; refine (TH.out).mono ?_; rintro e w1 ⟨rfl, hb1⟩; obtain ⟨hc1, hf1, hs1⟩ := hb1.cells)
    | (go_at_call 15; refine (awake_any _).mono ?_; rintro e w2 ⟨rfl, hb2⟩))
   go_returns; exact ⟨rfl, (E0.trans hb1).trans hb2⟩
  | true =>
   rw [ht] at TH; obtain ⟨zl, ol, few, short'⟩ := Hp.thin_facts ht; have short := Lib.hid short'; have HT := Lib.hid ht; have HE0 := Lib.hid E0; have HC := Lib.hid (show (w.alloc (.cells #[.slice sp z.length sc, .slice op o.length oc, .int .i64 n, .slice pa acts.length ca] 25)).cell? ⟨w.heap.size, 0, none⟩ = some (.slice sp z.length sc) ∧ (w.alloc (.cells #[.slice sp z.length sc, .slice op o.length oc, .int .i64 n, .slice pa acts.length ca] 25)).cell? ⟨w.heap.size, 1, none⟩ = some (.slice op o.length oc) ∧ (w.alloc (.cells #[.slice sp z.length sc, .slice op o.length oc, .int .i64 n, .slice pa acts.length ca] 25)).cell? ⟨w.heap.size, 2, none⟩ = some (.int .i64 n) ∧ (w.alloc (.cells #[.slice sp z.length sc, .slice op o.length oc, .int .i64 n, .slice pa acts.length ca] 25)).cell? ⟨w.heap.size, 3, none⟩ = some (.slice pa acts.length ca) by refine ⟨?_, ?_, ?_, ?_⟩ <;> go_simp); clear h ht E0 short'; go_enter Tryz.func4, Tryz.ntmps4
   go_wp2_with fail
   generalize (w.alloc (.cells #[.slice sp z.length sc, .slice op o.length oc, .int .i64 n, .slice pa acts.length ca] 25)) = w0 at H HE0 HC TH ⊢; generalize w.heap.size = gb at HC ⊢; obtain ⟨c0, c1, c2, c3⟩ := HC.out; have z0 := cell_lt c0; clear HC; go_upto_region 3 with (go_at_call 14; refine (TH.out).mono ?_; rintro e w1 ⟨rfl, hb1⟩; obtain ⟨hc1, hf1, hs1⟩ := hb1.cells)
   have b0 := (hb1.cell z0 0).trans c0; have b1 := (hb1.cell z0 1).trans c1; have b2 := (hb1.cell z0 2).trans c2; have b3 := (hb1.cell z0 3).trans c3; have y0 := cell_lt b0; have H1 := Lib.hid (H.out.ext hb1); have HE1 := Lib.hid (HE0.out.trans hb1); have FT := Lib.hid (fun (W : World) (E : Ext w1 W) => lFault (n := n) (H1.out.sizes.ext E) (H1.out.order.ext E)); obtain ⟨fe, hfe⟩ : ∃ fe, Hp.newErr z o n = fe := ⟨_, rfl⟩
   have HFE := Lib.hid hfe; rw [hfe] at FT; clear hfe TH H HE0 c0 c1 c2 c3 z0 hb1 hc1 hf1 hs1
   by_cases hf0 : fe = 0
   · subst hf0; have hrB : Hp.readyB z o n acts = true := by simp [Hp.readyB, HT.out, HFE.out]
     obtain ⟨k, rfl, hrd⟩ := Hp.ready_ok hrB; have HR := Lib.hid hrd; obtain ⟨S0, s', hS, hpl, hz, ho, hl, L, ch, hw⟩ := hrd.plays H1.out.acts.fault; obtain ⟨S0', hS', hz0, ho0, hl0, hw0⟩ := Hp.new_wf hrd.fr (n := k) (by have := hrd.n1; omega) (by have := hrd.n2; omega); rw [hS] at hS'; obtain rfl := Option.some.inj hS'; have n1 := hrd.n1; have n2 := hrd.n2; have HS := Lib.hid hS; have HPL := Lib.hid hpl; have HZ := Lib.hid (show S0.sizes = z ∧ S0.order = o from ⟨hz0, ho0⟩); have HG := Lib.hid (show Hp.Good S0 0 from ⟨_, _, hw0⟩); clear hrB hrd hS hpl hz ho hl hw hS' hz0 ho0 hl0 hw0 HT HFE; have PR52 := Lib.hid (fun (ww : World) (hSw : Ext w1 ww) => And.intro ((hSw.cell y0 0).trans b0) (And.intro ((hSw.cell y0 1).trans b1) (And.intro ((hSw.cell y0 2).trans b2) ((hSw.cell y0 3).trans b3)))); refine wp_region_held_drew (S := fun W => Ext w1 W) (by kernel_rfl) ?_ (fun hS => ?_)
     · exact exx
     refine' wpAnyH_take (i := 0) (v := ?v0_1) rfl (by kernel_rfl) (by kernel_rfl) (by kernel_rfl) (fun _ _ _ h => h) (Or.inl ⟨by rfl, ?hy0_1⟩) (by assumption) ?rest0_1
     case hy0_1 => (intro w q; obtain ⟨k0, k1, k2, k3⟩ := PR52.out w q; go_simp; try with_reducible rfl)
     refine layy ?_; refine' wpAnyH_take (i := 1) (v := ?v1_2) rfl (by kernel_rfl) (by kernel_rfl) (by kernel_rfl) (fun _ _ _ h => h) (Or.inl ⟨by rfl, ?hy1_2⟩) (by assumption) ?rest1_2
     case hy1_2 => (intro w q; obtain ⟨k0, k1, k2, k3⟩ := PR52.out w q; go_simp; try with_reducible rfl)
     refine layy ?_; refine' wpAnyH_take (i := 3) (v := ?v3_3) rfl (by kernel_rfl) (by kernel_rfl) (by kernel_rfl) (fun _ _ _ h => h) (Or.inl ⟨by rfl, ?hy3_3⟩) (by assumption) ?rest3_3
     case hy3_3 => (intro w q; obtain ⟨k0, k1, k2, k3⟩ := PR52.out w q; go_simp; try with_reducible rfl)
     refine layy ?_; refine' wpAnyH_take (i := 4) (v := ?v4_4) rfl (by kernel_rfl) (by kernel_rfl) (by kernel_rfl) (fun _ _ _ h => h) (Or.inl ⟨by rfl, ?hy4_4⟩) (by assumption) ?rest4_4
     case hy4_4 => (intro w q; obtain ⟨k0, k1, k2, k3⟩ := PR52.out w q; go_simp; try with_reducible rfl)
     refine layy ?_; refine' wpAnyH_take (i := 6) (v := ?v6_5) rfl (by kernel_rfl) (by kernel_rfl) (by kernel_rfl) (fun _ _ _ h => h) (Or.inl ⟨by rfl, ?hy6_5⟩) (by assumption) ?rest6_5
     case hy6_5 => (intro w q; obtain ⟨k0, k1, k2, k3⟩ := PR52.out w q; go_simp; try with_reducible rfl)
     refine layy ?_; refine' wpAnyH_take (i := 7) (v := ?v7_6) rfl (by kernel_rfl) (by kernel_rfl) (by kernel_rfl) (fun _ _ _ h => h) (Or.inl ⟨by rfl, ?hy7_6⟩) (by assumption) ?rest7_6
     case hy7_6 => (intro w q; obtain ⟨k0, k1, k2, k3⟩ := PR52.out w q; go_simp; try with_reducible rfl)
     refine layy ?_; refine' wpAnyH_take (i := 8) (v := ?v8_7) rfl (by kernel_rfl) (by kernel_rfl) (by kernel_rfl) (fun _ _ _ h => h) (Or.inl ⟨by rfl, ?hy8_7⟩) (by assumption) ?rest8_7
     case hy8_7 => (intro w q; obtain ⟨k0, k1, k2, k3⟩ := PR52.out w q; go_simp; try with_reducible rfl)
     refine layy ?_; refine' wpAnyH_take (i := 9) (v := ?v9_8) rfl (by kernel_rfl) (by kernel_rfl) (by kernel_rfl) (fun _ _ _ h => h) (Or.inl ⟨by rfl, ?hy9_8⟩) (by assumption) ?rest9_8
     case hy9_8 => (intro w q; obtain ⟨k0, k1, k2, k3⟩ := PR52.out w q; go_simp; try with_reducible rfl)
     refine layy ?_; refine wpAnyH_slots [2, 5, 10, 11, 12, 13, 14, 15, 16, 17, 18] [16, 19, 24, 25, 13, 26, 27, 28, 3, 4, 5] (fun L vs W => ∃ v1 v2 v3 v4 v5 v6 v7 v8 v9 v10 v11 : Value, vs = [v1, v2, v3, v4, v5, v6, v7, v8, v9, v10, v11] ∧ Ext w1 W ∧ Came (L 2) (IntsIn w1 z v1 W) ∧ Came (L 5) (IntsIn w1 o v2 W) ∧ Came (L 10) (ActsIn acts v3 W) ∧ Came (L 11) (PlayIn2 s' v4 W) ∧ Came (L 12) (L 11 = true ∧ v5 = ((fun v => v)) v4) ∧ Came (L 13) (L 11 = true ∧ v6 = ((fun v => tg v 0)) v4) ∧ Came (L 14) (L 11 = true ∧ v7 = ((fun v => tg v 1)) v4) ∧ Came (L 15) (L 11 = true ∧ v8 = ((fun v => tg v 2)) v4) ∧ Came (L 16) (L 11 = true ∧ v9 = ((fun v => tg v 0)) v4) ∧ Came (L 17) (L 11 = true ∧ v10 = ((fun v => tg v 1)) v4) ∧ Came (L 18) (L 11 = true ∧ v11 = ((fun v => tg v 2)) v4)) (by kernel_rfl) (by kernel_rfl) ?h0w2 ?hstepsw2 ?hendw2
     case h0w2 => exact ⟨_, _, _, _, _, _, _, _, _, _, _, rfl, hS, (fun h => by cases h), (fun h => by cases h), (fun h => by cases h), (fun h => by cases h), (fun h => by cases h), (fun h => by cases h), (fun h => by cases h), (fun h => by cases h), (fun h => by cases h), (fun h => by cases h), (fun h => by cases h)⟩
     case hstepsw2 =>
      refine StepsInv.cons rfl ?_ (StepsInv.cons rfl ?_ (StepsInv.cons rfl ?_ (StepsInv.cons rfl ?_ (StepsInv.cons rfl ?_ (StepsInv.cons rfl ?_ (StepsInv.cons rfl ?_ (StepsInv.cons rfl ?_ (StepsInv.cons rfl ?_ (StepsInv.cons rfl ?_ (StepsInv.cons rfl ?_ StepsInv.nil))))))))))
      all_goals (try simp only [List.getElem_toArray, List.getElem_cons_zero, List.getElem_cons_succ])
      all_goals
       rintro L a w ⟨vs, ha, v1, v2, v3, v4, v5, v6, v7, v8, v9, v10, v11, rfl, hE, J1, J2, J3, J4, J5, J6, J7, J8, J9, J10, J11⟩ hL hC; obtain rfl := ha; intro K' hK
       (try simp only [putAll, Act.put, List.setIfInBounds_toArray, List.set_cons_zero, List.set_cons_succ])
      · skip
        go_simp
        go_at_call 17
        refine (ints_in (w := w1) (H1.out.ext hE).sizes H1.out.n1 (by omega)).mono ?_; rintro e x ⟨v, rfl, hP, y⟩
        go_wp2_with fail
        exact hK.out _ _ (hE.trans y) ⟨[v, v2, v3, v4, v5, v6, v7, v8, v9, v10, v11], by simp only [putAll, Act.put, List.setIfInBounds_toArray, List.set_cons_zero, List.set_cons_succ, tg3_0, tg3_1, tg3_2, tg2_0, tg2_1], _, _, _, _, _, _, _, _, _, _, _, rfl, hE.trans y, (fun _ => hP), (fun h => IntsIn.ext (J2 h) y), (fun h => ActsIn.ext (J3 h) y), (fun h => PlayIn2.ext (J4 h) y), J5, J6, J7, J8, J9, J10, J11⟩
      · skip
        go_simp
        go_at_call 17
        refine (ints_in (w := w1) (H1.out.ext hE).order H1.out.n2 (by omega)).mono ?_; rintro e x ⟨v, rfl, hP, y⟩
        go_wp2_with fail
        exact hK.out _ _ (hE.trans y) ⟨[v1, v, v3, v4, v5, v6, v7, v8, v9, v10, v11], by simp only [putAll, Act.put, List.setIfInBounds_toArray, List.set_cons_zero, List.set_cons_succ, tg3_0, tg3_1, tg3_2, tg2_0, tg2_1], _, _, _, _, _, _, _, _, _, _, _, rfl, hE.trans y, (fun h => IntsIn.ext (J1 h) y), (fun _ => hP), (fun h => ActsIn.ext (J3 h) y), (fun h => PlayIn2.ext (J4 h) y), J5, J6, J7, J8, J9, J10, J11⟩
      · skip
        go_simp
        go_at_call 31
        refine (acts_in (H1.out.ext hE).acts few short.out (H1.out.ext hE).n3).mono ?_; rintro e x ⟨v, rfl, hP, y⟩
        go_wp2_with fail
        exact hK.out _ _ (hE.trans y) ⟨[v1, v2, v, v4, v5, v6, v7, v8, v9, v10, v11], by simp only [putAll, Act.put, List.setIfInBounds_toArray, List.set_cons_zero, List.set_cons_succ, tg3_0, tg3_1, tg3_2, tg2_0, tg2_1], _, _, _, _, _, _, _, _, _, _, _, rfl, hE.trans y, (fun h => IntsIn.ext (J1 h) y), (fun h => IntsIn.ext (J2 h) y), (fun _ => hP), (fun h => PlayIn2.ext (J4 h) y), J5, J6, J7, J8, J9, J10, J11⟩
      · skip
        (obtain ⟨p1, c1', rfl, s1, k1⟩ := J1 (hC ⟨2, .data⟩ (by simp) rfl); obtain ⟨p2, c2', rfl, s2, k2⟩ := J2 (hC ⟨5, .data⟩ (by simp) rfl); obtain ⟨p3, c3', rfl, s3⟩ := J3 (hC ⟨10, .data⟩ (by simp) rfl))
        go_simp
        go_at_call 30
        refine (play_in2 s1 s2 k1 k2 HR.out HS.out s3 HPL.out).mono ?_; rintro e x ⟨v, rfl, hP, y⟩
        go_wp2_with fail
        exact hK.out _ _ (hE.trans y) ⟨[.slice p1 z.length c1', .slice p2 o.length c2', .slice p3 acts.length c3', v, v5, v6, v7, v8, v9, v10, v11], by simp only [putAll, Act.put, List.setIfInBounds_toArray, List.set_cons_zero, List.set_cons_succ, tg3_0, tg3_1, tg3_2, tg2_0, tg2_1], _, _, _, _, _, _, _, _, _, _, _, rfl, hE.trans y, (fun h => IntsIn.ext (J1 h) y), (fun h => IntsIn.ext (J2 h) y), (fun h => ActsIn.ext (J3 h) y), (fun _ => hP), (fun h => absurd (J5 h).1 (by rw [hL]; exact Bool.false_ne_true)), (fun h => absurd (J6 h).1 (by rw [hL]; exact Bool.false_ne_true)), (fun h => absurd (J7 h).1 (by rw [hL]; exact Bool.false_ne_true)), (fun h => absurd (J8 h).1 (by rw [hL]; exact Bool.false_ne_true)), (fun h => absurd (J9 h).1 (by rw [hL]; exact Bool.false_ne_true)), (fun h => absurd (J10 h).1 (by rw [hL]; exact Bool.false_ne_true)), (fun h => absurd (J11 h).1 (by rw [hL]; exact Bool.false_ne_true))⟩
      · skip
        have hl : L 11 = true := hC ⟨11, .data⟩ (by simp) rfl; have q := J4 hl; obtain ⟨pp, pc, gg, pcap, rfl, sq⟩ := q; go_simp; exact hK.out _ _ hE ⟨[v1, v2, v3, .tuple #[.slice pp s'.res.length pc, .slice (some ⟨gg, 0, none⟩) s'.S.words.length pcap, .int .i64 0], .tuple #[.slice pp s'.res.length pc, .slice (some ⟨gg, 0, none⟩) s'.S.words.length pcap, .int .i64 0], v6, v7, v8, v9, v10, v11], by simp only [putAll, Act.put, List.setIfInBounds_toArray, List.set_cons_zero, List.set_cons_succ, tg3_0, tg3_1, tg3_2, tg2_0, tg2_1], _, _, _, _, _, _, _, _, _, _, _, rfl, hE, J1, J2, J3, J4, (fun _ => ⟨hl, rfl⟩), J6, J7, J8, J9, J10, J11⟩
      · skip
        obtain ⟨hl, rfl⟩ := J5 (hC ⟨12, .data⟩ (by simp) rfl); have q := J4 hl; obtain ⟨pp, pc, gg, pcap, rfl, sq⟩ := q; go_simp; exact hK.out _ _ hE ⟨[v1, v2, v3, .tuple #[.slice pp s'.res.length pc, .slice (some ⟨gg, 0, none⟩) s'.S.words.length pcap, .int .i64 0], .tuple #[.slice pp s'.res.length pc, .slice (some ⟨gg, 0, none⟩) s'.S.words.length pcap, .int .i64 0], .slice pp s'.res.length pc, v7, v8, v9, v10, v11], by simp only [putAll, Act.put, List.setIfInBounds_toArray, List.set_cons_zero, List.set_cons_succ, tg3_0, tg3_1, tg3_2, tg2_0, tg2_1], _, _, _, _, _, _, _, _, _, _, _, rfl, hE, J1, J2, J3, J4, J5, (fun _ => ⟨hl, rfl⟩), J7, J8, J9, J10, J11⟩
      · skip
        obtain ⟨hl, rfl⟩ := J5 (hC ⟨12, .data⟩ (by simp) rfl); have q := J4 hl; obtain ⟨pp, pc, gg, pcap, rfl, sq⟩ := q; go_simp; exact hK.out _ _ hE ⟨[v1, v2, v3, .tuple #[.slice pp s'.res.length pc, .slice (some ⟨gg, 0, none⟩) s'.S.words.length pcap, .int .i64 0], .tuple #[.slice pp s'.res.length pc, .slice (some ⟨gg, 0, none⟩) s'.S.words.length pcap, .int .i64 0], v6, .slice (some ⟨gg, 0, none⟩) s'.S.words.length pcap, v8, v9, v10, v11], by simp only [putAll, Act.put, List.setIfInBounds_toArray, List.set_cons_zero, List.set_cons_succ, tg3_0, tg3_1, tg3_2, tg2_0, tg2_1], _, _, _, _, _, _, _, _, _, _, _, rfl, hE, J1, J2, J3, J4, J5, J6, (fun _ => ⟨hl, rfl⟩), J8, J9, J10, J11⟩
      · skip
        obtain ⟨hl, rfl⟩ := J5 (hC ⟨12, .data⟩ (by simp) rfl); have q := J4 hl; obtain ⟨pp, pc, gg, pcap, rfl, sq⟩ := q; go_simp; exact hK.out _ _ hE ⟨[v1, v2, v3, .tuple #[.slice pp s'.res.length pc, .slice (some ⟨gg, 0, none⟩) s'.S.words.length pcap, .int .i64 0], .tuple #[.slice pp s'.res.length pc, .slice (some ⟨gg, 0, none⟩) s'.S.words.length pcap, .int .i64 0], v6, v7, .int .i64 0, v9, v10, v11], by simp only [putAll, Act.put, List.setIfInBounds_toArray, List.set_cons_zero, List.set_cons_succ, tg3_0, tg3_1, tg3_2, tg2_0, tg2_1], _, _, _, _, _, _, _, _, _, _, _, rfl, hE, J1, J2, J3, J4, J5, J6, J7, (fun _ => ⟨hl, rfl⟩), J9, J10, J11⟩
      · skip
        obtain ⟨hl, rfl⟩ := J6 (hC ⟨13, .data⟩ (by simp) rfl); have q := J4 hl; obtain ⟨pp, pc, gg, pcap, rfl, sq⟩ := q; go_simp; exact hK.out _ _ hE ⟨[v1, v2, v3, .tuple #[.slice pp s'.res.length pc, .slice (some ⟨gg, 0, none⟩) s'.S.words.length pcap, .int .i64 0], v5, .slice pp s'.res.length pc, v7, v8, .slice pp s'.res.length pc, v10, v11], by simp only [putAll, Act.put, List.setIfInBounds_toArray, List.set_cons_zero, List.set_cons_succ, tg3_0, tg3_1, tg3_2, tg2_0, tg2_1], _, _, _, _, _, _, _, _, _, _, _, rfl, hE, J1, J2, J3, J4, J5, J6, J7, J8, (fun _ => ⟨hl, rfl⟩), J10, J11⟩
      · skip
        obtain ⟨hl, rfl⟩ := J7 (hC ⟨14, .data⟩ (by simp) rfl); have q := J4 hl; obtain ⟨pp, pc, gg, pcap, rfl, sq⟩ := q; go_simp; exact hK.out _ _ hE ⟨[v1, v2, v3, .tuple #[.slice pp s'.res.length pc, .slice (some ⟨gg, 0, none⟩) s'.S.words.length pcap, .int .i64 0], v5, v6, .slice (some ⟨gg, 0, none⟩) s'.S.words.length pcap, v8, v9, .slice (some ⟨gg, 0, none⟩) s'.S.words.length pcap, v11], by simp only [putAll, Act.put, List.setIfInBounds_toArray, List.set_cons_zero, List.set_cons_succ, tg3_0, tg3_1, tg3_2, tg2_0, tg2_1], _, _, _, _, _, _, _, _, _, _, _, rfl, hE, J1, J2, J3, J4, J5, J6, J7, J8, J9, (fun _ => ⟨hl, rfl⟩), J11⟩
      · skip
        obtain ⟨hl, rfl⟩ := J8 (hC ⟨15, .data⟩ (by simp) rfl); have q := J4 hl; obtain ⟨pp, pc, gg, pcap, rfl, sq⟩ := q; go_simp; exact hK.out _ _ hE ⟨[v1, v2, v3, .tuple #[.slice pp s'.res.length pc, .slice (some ⟨gg, 0, none⟩) s'.S.words.length pcap, .int .i64 0], v5, v6, v7, .int .i64 0, v9, v10, .int .i64 0], by simp only [putAll, Act.put, List.setIfInBounds_toArray, List.set_cons_zero, List.set_cons_succ, tg3_0, tg3_1, tg3_2, tg2_0, tg2_1], _, _, _, _, _, _, _, _, _, _, _, rfl, hE, J1, J2, J3, J4, J5, J6, J7, J8, J9, J10, (fun _ => ⟨hl, rfl⟩)⟩
     rintro L _ w2 ⟨v1, v2, v3, v4, v5, v6, v7, v8, v9, v10, v11, rfl, Ew2, J1, J2, J3, J4, J5, J6, J7, J8, J9, J10, J11⟩ hall; replace J1 := J1 (hall 2 (by simp)); replace J2 := J2 (hall 5 (by simp)); replace J3 := J3 (hall 10 (by simp)); replace J4 := J4 (hall 11 (by simp)); replace J5 := J5 (hall 12 (by simp)); replace J6 := J6 (hall 13 (by simp)); replace J7 := J7 (hall 14 (by simp)); replace J8 := J8 (hall 15 (by simp)); replace J9 := J9 (hall 16 (by simp)); replace J10 := J10 (hall 17 (by simp)); replace J11 := J11 (hall 18 (by simp)); clear hall; obtain ⟨-, rfl⟩ := J5; obtain ⟨-, rfl⟩ := J6; obtain ⟨-, rfl⟩ := J7; obtain ⟨-, rfl⟩ := J8; obtain ⟨-, rfl⟩ := J9; obtain ⟨-, rfl⟩ := J10; obtain ⟨-, rfl⟩ := J11; simp only [putAll, Act.put, List.setIfInBounds_toArray, List.set_cons_zero, List.set_cons_succ]; obtain ⟨q1, d1, rfl, -⟩ := J1; obtain ⟨q2, d2, rfl, -⟩ := J2; obtain ⟨q3, d3, rfl, -⟩ := J3; obtain ⟨p4, d4, g, cap, rfl, SR, SW⟩ := J4; simp only [tg3_0, tg3_1, tg3_2]; have SRh := Lib.hid SR; have SWh := Lib.hid SW; have x0 := (Ew2.cell y0 0).trans b0; have x1 := (Ew2.cell y0 1).trans b1; have x2 := (Ew2.cell y0 2).trans b2; have x3 := (Ew2.cell y0 3).trans b3; have HEw := Lib.hid Ew2; clear SR SW b0 b1 b2 b3 y0; go_upto_region 7 with (go_at_call 18; refine (FT.out _ HEw.out).mono ?_; rintro e w3 ⟨rfl, hb3⟩)
     have E3 := Lib.hid (HEw.out.trans hb3); have H3 := Lib.hid (H1.out.ext E3.out); have NW := Lib.hid (rNew H3.out.sizes H3.out.order (by omega) (by omega) HS.out); have v0 := (hb3.cell (cell_lt x0) 0).trans x0; have v1 := (hb3.cell (cell_lt x0) 1).trans x1; have v2 := (hb3.cell (cell_lt x0) 2).trans x2; have v3 := (hb3.cell (cell_lt x0) 3).trans x3; clear x0 x1 x2 x3 Ew2; go_upto_region 8 with (go_at_call 32; refine NW.out.mono ?_; rintro e w4 ⟨r, rfl, hW4, own4, hE4, hs4, ho4⟩)
     have PL := Lib.hid (rPlay (wb := w3) hW4 HG.out (by omega) own4 hE4 (by rw [hs4, HZ.out.1]; intro h0 b o' e; obtain ⟨b', o'', e', hb', _⟩ := H3.out.sizes.cells h0; rw [e] at e'; cases e'; exact hb') (by rw [ho4, HZ.out.2]; intro h0 b o' e; obtain ⟨b', o'', e', hb', _⟩ := H3.out.order.cells h0; rw [e] at e'; cases e'; exact hb') (H3.out.acts.at_ short.out) (by omega) HPL.out); have u3 := (hE4.cell (cell_lt v0) 3).trans v3; clear v0 v1 v2 v3 NW hW4 own4 hE4 hs4 ho4; go_upto_region 9 with (go_at_call 33; refine PL.out.mono ?_; rintro e w5 ⟨p5, c5, r5, rfl, hR5, hW5, hb5, own5, hE5⟩)
     have DU := Lib.hid hR5; have HW5 := Lib.hid hW5.words; have SW5 := Lib.hid (hW5.words.slice hW5.le hW5.cap); have cw := hW5.c2; rw [hb5] at cw; have OU := Lib.hid (SRh.out.ext (hb3.trans hE5)); have OW := Lib.hid (SWh.out.ext (hb3.trans hE5)); have E5 := Lib.hid (HE1.out.trans (E3.out.trans hE5)); clear PL hR5 hW5 own5 hE5 hb5 u3 SRh SWh hb3
     go_wp2_with (first
      | (go_at_call 24; refine (dSame_is (b := true) (decide_eq_true rfl) (OW.out.ext hb6) (SW5.out.ext hb6)).mono ?_; rintro e w7 ⟨rfl, hb7⟩)
      | (go_at_call 24; refine (dSame_is (b := true) (decide_eq_true rfl) OU.out DU.out).mono ?_; rintro e w6 ⟨rfl, hb6⟩; have cw6 := (hb6.cell (cell_lt cw) 2).trans cw)
      | (go_at_call 15; refine (awake_any _).mono ?_; rintro e w8 ⟨rfl, hb8⟩))
     go_returns; exact ⟨rfl, E5.out.trans ((hb6.trans hb7).trans hb8)⟩
   · have t0 : (fe != 0) = true := by simpa using hf0
     have t1 : (fe == fe) = true := by simp
     clear HT; have PR53 := Lib.hid (fun (ww : World) (hSw : Ext w1 ww) => And.intro ((hSw.cell y0 0).trans b0) (And.intro ((hSw.cell y0 1).trans b1) (And.intro ((hSw.cell y0 2).trans b2) ((hSw.cell y0 3).trans b3)))); refine wp_region_held_drew (S := fun W => Ext w1 W) (by kernel_rfl) ?_ (fun hS => ?_)
     · exact exx
     refine' wpAnyH_take (i := 0) (v := ?v0_9) rfl (by kernel_rfl) (by kernel_rfl) (by kernel_rfl) (fun _ _ _ h => h) (Or.inl ⟨by rfl, ?hy0_9⟩) (by assumption) ?rest0_9
     case hy0_9 => (intro w q; obtain ⟨k0, k1, k2, k3⟩ := PR53.out w q; go_simp; try with_reducible rfl)
     refine layy ?_; refine' wpAnyH_take (i := 1) (v := ?v1_10) rfl (by kernel_rfl) (by kernel_rfl) (by kernel_rfl) (fun _ _ _ h => h) (Or.inl ⟨by rfl, ?hy1_10⟩) (by assumption) ?rest1_10
     case hy1_10 => (intro w q; obtain ⟨k0, k1, k2, k3⟩ := PR53.out w q; go_simp; try with_reducible rfl)
     refine layy ?_; refine' wpAnyH_take (i := 3) (v := ?v3_11) rfl (by kernel_rfl) (by kernel_rfl) (by kernel_rfl) (fun _ _ _ h => h) (Or.inl ⟨by rfl, ?hy3_11⟩) (by assumption) ?rest3_11
     case hy3_11 => (intro w q; obtain ⟨k0, k1, k2, k3⟩ := PR53.out w q; go_simp; try with_reducible rfl)
     refine layy ?_; refine' wpAnyH_take (i := 4) (v := ?v4_12) rfl (by kernel_rfl) (by kernel_rfl) (by kernel_rfl) (fun _ _ _ h => h) (Or.inl ⟨by rfl, ?hy4_12⟩) (by assumption) ?rest4_12
     case hy4_12 => (intro w q; obtain ⟨k0, k1, k2, k3⟩ := PR53.out w q; go_simp; try with_reducible rfl)
     refine layy ?_; refine' wpAnyH_take (i := 6) (v := ?v6_13) rfl (by kernel_rfl) (by kernel_rfl) (by kernel_rfl) (fun _ _ _ h => h) (Or.inl ⟨by rfl, ?hy6_13⟩) (by assumption) ?rest6_13
     case hy6_13 => (intro w q; obtain ⟨k0, k1, k2, k3⟩ := PR53.out w q; go_simp; try with_reducible rfl)
     refine layy ?_; refine' wpAnyH_take (i := 7) (v := ?v7_14) rfl (by kernel_rfl) (by kernel_rfl) (by kernel_rfl) (fun _ _ _ h => h) (Or.inl ⟨by rfl, ?hy7_14⟩) (by assumption) ?rest7_14
     case hy7_14 => (intro w q; obtain ⟨k0, k1, k2, k3⟩ := PR53.out w q; go_simp; try with_reducible rfl)
     refine layy ?_; refine' wpAnyH_take (i := 8) (v := ?v8_15) rfl (by kernel_rfl) (by kernel_rfl) (by kernel_rfl) (fun _ _ _ h => h) (Or.inl ⟨by rfl, ?hy8_15⟩) (by assumption) ?rest8_15
     case hy8_15 => (intro w q; obtain ⟨k0, k1, k2, k3⟩ := PR53.out w q; go_simp; try with_reducible rfl)
     refine layy ?_; refine' wpAnyH_take (i := 9) (v := ?v9_16) rfl (by kernel_rfl) (by kernel_rfl) (by kernel_rfl) (fun _ _ _ h => h) (Or.inl ⟨by rfl, ?hy9_16⟩) (by assumption) ?rest9_16
     case hy9_16 => (intro w q; obtain ⟨k0, k1, k2, k3⟩ := PR53.out w q; go_simp; try with_reducible rfl)
     refine layy ?_; refine wpAnyH_slots [2, 5, 10, 11, 12, 13, 14, 15, 16, 17, 18] [16, 19, 24, 25, 13, 26, 27, 28, 3, 4, 5] (fun L vs W => ∃ v1 v2 v3 v4 v5 v6 v7 v8 v9 v10 v11 : Value, vs = [v1, v2, v3, v4, v5, v6, v7, v8, v9, v10, v11] ∧ Ext w1 W ∧ Came (L 2) (IntsIn w1 z v1 W) ∧ Came (L 5) (IntsIn w1 o v2 W) ∧ Came (L 10) (ActsIn acts v3 W) ∧ Came (L 11) (PlayErr fe v4 W) ∧ Came (L 12) (L 11 = true ∧ v5 = ((fun v => v)) v4) ∧ Came (L 13) (L 11 = true ∧ v6 = ((fun v => tg v 0)) v4) ∧ Came (L 14) (L 11 = true ∧ v7 = ((fun v => tg v 1)) v4) ∧ Came (L 15) (L 11 = true ∧ v8 = ((fun v => tg v 2)) v4) ∧ Came (L 16) (L 11 = true ∧ v9 = ((fun v => tg v 0)) v4) ∧ Came (L 17) (L 11 = true ∧ v10 = ((fun v => tg v 1)) v4) ∧ Came (L 18) (L 11 = true ∧ v11 = ((fun v => tg v 2)) v4)) (by kernel_rfl) (by kernel_rfl) ?h0wq ?hstepswq ?hendwq
     case h0wq => exact ⟨_, _, _, _, _, _, _, _, _, _, _, rfl, hS, (fun h => by cases h), (fun h => by cases h), (fun h => by cases h), (fun h => by cases h), (fun h => by cases h), (fun h => by cases h), (fun h => by cases h), (fun h => by cases h), (fun h => by cases h), (fun h => by cases h), (fun h => by cases h)⟩
     case hstepswq =>
      refine StepsInv.cons rfl ?_ (StepsInv.cons rfl ?_ (StepsInv.cons rfl ?_ (StepsInv.cons rfl ?_ (StepsInv.cons rfl ?_ (StepsInv.cons rfl ?_ (StepsInv.cons rfl ?_ (StepsInv.cons rfl ?_ (StepsInv.cons rfl ?_ (StepsInv.cons rfl ?_ (StepsInv.cons rfl ?_ StepsInv.nil))))))))))
      all_goals (try simp only [List.getElem_toArray, List.getElem_cons_zero, List.getElem_cons_succ])
      all_goals
       rintro L a w ⟨vs, ha, v1, v2, v3, v4, v5, v6, v7, v8, v9, v10, v11, rfl, hE, J1, J2, J3, J4, J5, J6, J7, J8, J9, J10, J11⟩ hL hC; obtain rfl := ha; intro K' hK
       (try simp only [putAll, Act.put, List.setIfInBounds_toArray, List.set_cons_zero, List.set_cons_succ])
      · skip
        go_simp
        go_at_call 17
        refine (ints_in (w := w1) (H1.out.ext hE).sizes H1.out.n1 (by omega)).mono ?_; rintro e x ⟨v, rfl, hP, y⟩
        go_wp2_with fail
        exact hK.out _ _ (hE.trans y) ⟨[v, v2, v3, v4, v5, v6, v7, v8, v9, v10, v11], by simp only [putAll, Act.put, List.setIfInBounds_toArray, List.set_cons_zero, List.set_cons_succ, tg3_0, tg3_1, tg3_2, tg2_0, tg2_1], _, _, _, _, _, _, _, _, _, _, _, rfl, hE.trans y, (fun _ => hP), (fun h => IntsIn.ext (J2 h) y), (fun h => ActsIn.ext (J3 h) y), (fun h => PlayErr.ext (J4 h) y), J5, J6, J7, J8, J9, J10, J11⟩
      · skip
        go_simp
        go_at_call 17
        refine (ints_in (w := w1) (H1.out.ext hE).order H1.out.n2 (by omega)).mono ?_; rintro e x ⟨v, rfl, hP, y⟩
        go_wp2_with fail
        exact hK.out _ _ (hE.trans y) ⟨[v1, v, v3, v4, v5, v6, v7, v8, v9, v10, v11], by simp only [putAll, Act.put, List.setIfInBounds_toArray, List.set_cons_zero, List.set_cons_succ, tg3_0, tg3_1, tg3_2, tg2_0, tg2_1], _, _, _, _, _, _, _, _, _, _, _, rfl, hE.trans y, (fun h => IntsIn.ext (J1 h) y), (fun _ => hP), (fun h => ActsIn.ext (J3 h) y), (fun h => PlayErr.ext (J4 h) y), J5, J6, J7, J8, J9, J10, J11⟩
      · skip
        go_simp
        go_at_call 31
        refine (acts_in (H1.out.ext hE).acts few short.out (H1.out.ext hE).n3).mono ?_; rintro e x ⟨v, rfl, hP, y⟩
        go_wp2_with fail
        exact hK.out _ _ (hE.trans y) ⟨[v1, v2, v, v4, v5, v6, v7, v8, v9, v10, v11], by simp only [putAll, Act.put, List.setIfInBounds_toArray, List.set_cons_zero, List.set_cons_succ, tg3_0, tg3_1, tg3_2, tg2_0, tg2_1], _, _, _, _, _, _, _, _, _, _, _, rfl, hE.trans y, (fun h => IntsIn.ext (J1 h) y), (fun h => IntsIn.ext (J2 h) y), (fun _ => hP), (fun h => PlayErr.ext (J4 h) y), J5, J6, J7, J8, J9, J10, J11⟩
      · skip
        (obtain ⟨p1, c1', rfl, s1, k1⟩ := J1 (hC ⟨2, .data⟩ (by simp) rfl); obtain ⟨p2, c2', rfl, s2, k2⟩ := J2 (hC ⟨5, .data⟩ (by simp) rfl); obtain ⟨p3, c3', rfl, s3⟩ := J3 (hC ⟨10, .data⟩ (by simp) rfl))
        go_simp
        go_at_call 30
        refine (play_err_in s1 s2 k2 (by omega) HFE.out hf0).mono ?_; rintro e x ⟨v, rfl, hP, y⟩
        go_wp2_with fail
        exact hK.out _ _ (hE.trans y) ⟨[.slice p1 z.length c1', .slice p2 o.length c2', .slice p3 acts.length c3', v, v5, v6, v7, v8, v9, v10, v11], by simp only [putAll, Act.put, List.setIfInBounds_toArray, List.set_cons_zero, List.set_cons_succ, tg3_0, tg3_1, tg3_2, tg2_0, tg2_1], _, _, _, _, _, _, _, _, _, _, _, rfl, hE.trans y, (fun h => IntsIn.ext (J1 h) y), (fun h => IntsIn.ext (J2 h) y), (fun h => ActsIn.ext (J3 h) y), (fun _ => hP), (fun h => absurd (J5 h).1 (by rw [hL]; exact Bool.false_ne_true)), (fun h => absurd (J6 h).1 (by rw [hL]; exact Bool.false_ne_true)), (fun h => absurd (J7 h).1 (by rw [hL]; exact Bool.false_ne_true)), (fun h => absurd (J8 h).1 (by rw [hL]; exact Bool.false_ne_true)), (fun h => absurd (J9 h).1 (by rw [hL]; exact Bool.false_ne_true)), (fun h => absurd (J10 h).1 (by rw [hL]; exact Bool.false_ne_true)), (fun h => absurd (J11 h).1 (by rw [hL]; exact Bool.false_ne_true))⟩
      · skip
        have hl : L 11 = true := hC ⟨11, .data⟩ (by simp) rfl; have q := J4 hl; obtain rfl := q; go_simp; exact hK.out _ _ hE ⟨[v1, v2, v3, .tuple #[.slice none 0 0, .slice none 0 0, .int .i64 fe], .tuple #[.slice none 0 0, .slice none 0 0, .int .i64 fe], v6, v7, v8, v9, v10, v11], by simp only [putAll, Act.put, List.setIfInBounds_toArray, List.set_cons_zero, List.set_cons_succ, tg3_0, tg3_1, tg3_2, tg2_0, tg2_1], _, _, _, _, _, _, _, _, _, _, _, rfl, hE, J1, J2, J3, J4, (fun _ => ⟨hl, rfl⟩), J6, J7, J8, J9, J10, J11⟩
      · skip
        obtain ⟨hl, rfl⟩ := J5 (hC ⟨12, .data⟩ (by simp) rfl); have q := J4 hl; obtain rfl := q; go_simp; exact hK.out _ _ hE ⟨[v1, v2, v3, .tuple #[.slice none 0 0, .slice none 0 0, .int .i64 fe], .tuple #[.slice none 0 0, .slice none 0 0, .int .i64 fe], .slice none 0 0, v7, v8, v9, v10, v11], by simp only [putAll, Act.put, List.setIfInBounds_toArray, List.set_cons_zero, List.set_cons_succ, tg3_0, tg3_1, tg3_2, tg2_0, tg2_1], _, _, _, _, _, _, _, _, _, _, _, rfl, hE, J1, J2, J3, J4, J5, (fun _ => ⟨hl, rfl⟩), J7, J8, J9, J10, J11⟩
      · skip
        obtain ⟨hl, rfl⟩ := J5 (hC ⟨12, .data⟩ (by simp) rfl); have q := J4 hl; obtain rfl := q; go_simp; exact hK.out _ _ hE ⟨[v1, v2, v3, .tuple #[.slice none 0 0, .slice none 0 0, .int .i64 fe], .tuple #[.slice none 0 0, .slice none 0 0, .int .i64 fe], v6, .slice none 0 0, v8, v9, v10, v11], by simp only [putAll, Act.put, List.setIfInBounds_toArray, List.set_cons_zero, List.set_cons_succ, tg3_0, tg3_1, tg3_2, tg2_0, tg2_1], _, _, _, _, _, _, _, _, _, _, _, rfl, hE, J1, J2, J3, J4, J5, J6, (fun _ => ⟨hl, rfl⟩), J8, J9, J10, J11⟩
      · skip
        obtain ⟨hl, rfl⟩ := J5 (hC ⟨12, .data⟩ (by simp) rfl); have q := J4 hl; obtain rfl := q; go_simp; exact hK.out _ _ hE ⟨[v1, v2, v3, .tuple #[.slice none 0 0, .slice none 0 0, .int .i64 fe], .tuple #[.slice none 0 0, .slice none 0 0, .int .i64 fe], v6, v7, .int .i64 fe, v9, v10, v11], by simp only [putAll, Act.put, List.setIfInBounds_toArray, List.set_cons_zero, List.set_cons_succ, tg3_0, tg3_1, tg3_2, tg2_0, tg2_1], _, _, _, _, _, _, _, _, _, _, _, rfl, hE, J1, J2, J3, J4, J5, J6, J7, (fun _ => ⟨hl, rfl⟩), J9, J10, J11⟩
      · skip
        obtain ⟨hl, rfl⟩ := J6 (hC ⟨13, .data⟩ (by simp) rfl); have q := J4 hl; obtain rfl := q; go_simp; exact hK.out _ _ hE ⟨[v1, v2, v3, .tuple #[.slice none 0 0, .slice none 0 0, .int .i64 fe], v5, .slice none 0 0, v7, v8, .slice none 0 0, v10, v11], by simp only [putAll, Act.put, List.setIfInBounds_toArray, List.set_cons_zero, List.set_cons_succ, tg3_0, tg3_1, tg3_2, tg2_0, tg2_1], _, _, _, _, _, _, _, _, _, _, _, rfl, hE, J1, J2, J3, J4, J5, J6, J7, J8, (fun _ => ⟨hl, rfl⟩), J10, J11⟩
      · skip
        obtain ⟨hl, rfl⟩ := J7 (hC ⟨14, .data⟩ (by simp) rfl); have q := J4 hl; obtain rfl := q; go_simp; exact hK.out _ _ hE ⟨[v1, v2, v3, .tuple #[.slice none 0 0, .slice none 0 0, .int .i64 fe], v5, v6, .slice none 0 0, v8, v9, .slice none 0 0, v11], by simp only [putAll, Act.put, List.setIfInBounds_toArray, List.set_cons_zero, List.set_cons_succ, tg3_0, tg3_1, tg3_2, tg2_0, tg2_1], _, _, _, _, _, _, _, _, _, _, _, rfl, hE, J1, J2, J3, J4, J5, J6, J7, J8, J9, (fun _ => ⟨hl, rfl⟩), J11⟩
      · skip
        obtain ⟨hl, rfl⟩ := J8 (hC ⟨15, .data⟩ (by simp) rfl); have q := J4 hl; obtain rfl := q; go_simp; exact hK.out _ _ hE ⟨[v1, v2, v3, .tuple #[.slice none 0 0, .slice none 0 0, .int .i64 fe], v5, v6, v7, .int .i64 fe, v9, v10, .int .i64 fe], by simp only [putAll, Act.put, List.setIfInBounds_toArray, List.set_cons_zero, List.set_cons_succ, tg3_0, tg3_1, tg3_2, tg2_0, tg2_1], _, _, _, _, _, _, _, _, _, _, _, rfl, hE, J1, J2, J3, J4, J5, J6, J7, J8, J9, J10, (fun _ => ⟨hl, rfl⟩)⟩
     rintro L _ wq ⟨v1, v2, v3, v4, v5, v6, v7, v8, v9, v10, v11, rfl, Ewq, J1, J2, J3, J4, J5, J6, J7, J8, J9, J10, J11⟩ hall; replace J1 := J1 (hall 2 (by simp)); replace J2 := J2 (hall 5 (by simp)); replace J3 := J3 (hall 10 (by simp)); replace J4 := J4 (hall 11 (by simp)); replace J5 := J5 (hall 12 (by simp)); replace J6 := J6 (hall 13 (by simp)); replace J7 := J7 (hall 14 (by simp)); replace J8 := J8 (hall 15 (by simp)); replace J9 := J9 (hall 16 (by simp)); replace J10 := J10 (hall 17 (by simp)); replace J11 := J11 (hall 18 (by simp)); clear hall; obtain ⟨-, rfl⟩ := J5; obtain ⟨-, rfl⟩ := J6; obtain ⟨-, rfl⟩ := J7; obtain ⟨-, rfl⟩ := J8; obtain ⟨-, rfl⟩ := J9; obtain ⟨-, rfl⟩ := J10; obtain ⟨-, rfl⟩ := J11; simp only [putAll, Act.put, List.setIfInBounds_toArray, List.set_cons_zero, List.set_cons_succ]; obtain ⟨q1, d1, rfl, -⟩ := J1; obtain ⟨q2, d2, rfl, -⟩ := J2; obtain ⟨q3, d3, rfl, -⟩ := J3; obtain rfl := J4; simp only [tg3_0, tg3_1, tg3_2]; have x0 := (Ewq.cell y0 0).trans b0; have x1 := (Ewq.cell y0 1).trans b1; have x2 := (Ewq.cell y0 2).trans b2; have HEw := Lib.hid Ewq; clear b0 b1 b2 b3 y0
     go_wp2_with (first
      | (go_at_call 18; refine (FT.out _ HEw.out).mono ?_; rintro e w3 ⟨rfl, hb3⟩)
      | (go_at_call 15; refine (awake_any _).mono ?_; rintro e w4 ⟨rfl, hb4⟩))
     go_returns; exact ⟨rfl, HE1.out.trans ((HEw.out.trans hb3).trans hb4)⟩
end Go.Proofs.YtdokmmhjmclmnaaGreat
