/-
  Part 39 of a proof: LH13.
-/
import Derived.Test.YtdokmmhjmclmnaaGreatM38
set_option linter.unusedSimpArgs false
set_option linter.unusedVariables false
set_option linter.unusedSectionVars false
set_option linter.unnecessarySimpa false
namespace Go.Proofs.YtdokmmhjmclmnaaGreat
open Go.RowKit Go.Maps
set_option maxRecDepth 100000 in
set_option maxHeartbeats 16000000 in
theorem heapSums {w : World} {sp op pa : Option Addr} {sc oc ca : Nat} {z o : List Int} {n : Int} {acts : List Hp.Act'} (h : SAt w sp sc op oc pa ca z o acts) :
    Calls Tryz.prog 10 #[.agg #[.slice sp z.length sc, .slice op o.length oc, .int .i64 n, .slice pa acts.length ca]] w fun e w' => e = .returned (.bool true) ∧ Ext w w' := by
  have E0 : Ext w (w.alloc (.cells #[.slice sp z.length sc, .slice op o.length oc, .int .i64 n, .slice pa acts.length ca] 25)) := Ext.alloc (Ext.refl _) _
  have H := Lib.hid (h.ext E0)
  have RD := Lib.hid (lReady (n := n) (h.ext E0))
  cases hr : Hp.readyB z o n acts with
  | false =>
   rw [hr] at RD
   clear h hr H
   go_enter Tryz.func10, Tryz.ntmps10
   go_wp2_with (first
    | (go_at_call 40; refine (RD.out).mono ?_; rintro e w1 ⟨rfl, hb1⟩; obtain ⟨hc1, hf1, hs1⟩ := hb1.cells)
    | (go_at_call 15; refine (awake_any _).mono ?_; rintro e w2 ⟨rfl, hb2⟩))
   go_returns
   exact ⟨rfl, (E0.trans hb1).trans hb2⟩
  | true =>
   rw [hr] at RD
   obtain ⟨k, rfl, hrd⟩ := Hp.ready_ok hr
   have HR := Lib.hid hrd
   have HE0 := Lib.hid E0
   have HC := Lib.hid (show (w.alloc (.cells #[.slice sp z.length sc, .slice op o.length oc, .int .i64 k, .slice pa acts.length ca] 25)).cell? ⟨w.heap.size, 0, none⟩ = some (.slice sp z.length sc) ∧ (w.alloc (.cells #[.slice sp z.length sc, .slice op o.length oc, .int .i64 k, .slice pa acts.length ca] 25)).cell? ⟨w.heap.size, 1, none⟩ = some (.slice op o.length oc) ∧ (w.alloc (.cells #[.slice sp z.length sc, .slice op o.length oc, .int .i64 k, .slice pa acts.length ca] 25)).cell? ⟨w.heap.size, 2, none⟩ = some (.int .i64 k) ∧ (w.alloc (.cells #[.slice sp z.length sc, .slice op o.length oc, .int .i64 k, .slice pa acts.length ca] 25)).cell? ⟨w.heap.size, 3, none⟩ = some (.slice pa acts.length ca) by refine ⟨?_, ?_, ?_, ?_⟩ <;> go_simp)
   clear h hr hrd E0
   go_enter Tryz.func10, Tryz.ntmps10
   go_wp2_with fail
   generalize (w.alloc (.cells #[.slice sp z.length sc, .slice op o.length oc, .int .i64 k, .slice pa acts.length ca] 25)) = w0 at H HE0 HC RD ⊢
   generalize w.heap.size = gb at HC ⊢
   obtain ⟨c0, c1, c2, c3⟩ := HC.out
   have z0 := cell_lt c0
   clear HC
   go_upto_region 3 with (go_at_call 40; refine (RD.out).mono ?_; rintro e w1 ⟨rfl, hb1⟩; obtain ⟨hc1, hf1, hs1⟩ := hb1.cells)
   have b0 := (hb1.cell z0 0).trans c0
   have b1 := (hb1.cell z0 1).trans c1
   have b2 := (hb1.cell z0 2).trans c2
   have b3 := (hb1.cell z0 3).trans c3
   have PL := Lib.hid (lPlayed (H.out.ext hb1) HR.out)
   go_upto_region 4 with (go_at_call 41; refine PL.out.mono ?_; rintro e w2 ⟨d, S, g, c, L, ch, rfl, P, hw, hz, ho, hn⟩)
   have E2 := Lib.hid (hb1.trans P.ext)
   have HP := Lib.hid P
   have d0 := (E2.out.cell z0 0).trans c0
   have d1 := (E2.out.cell z0 1).trans c1
   have d2 := (E2.out.cell z0 2).trans c2
   have d3 := (E2.out.cell z0 3).trans c3
   have OW0 := Lib.hid (show ∀ b ∈ d.own, w0.heap.size ≤ b from fun b hb => Nat.le_trans hb1.le (P.own b hb))
   obtain ⟨l', S1, L1, ch1, hc1, hw1, hone, hlive, hz1, ho1, hn1⟩ := Hp.compact_wf hw
   have hco := Hp.collect_all hw1 hlive
   obtain ⟨T, hT, hTl⟩ := Hp.live_all hw1 hlive
   have hsum := Hp.one_sums hone
   have hgs := hw1.sums_
   have hpc := hw1.pieces_
   have AD := Lib.hid (lAdds' (pa := pa) (ca := ca) (na := acts.length) hz ho hn (H.out.ext E2.out).sizes (H.out.ext E2.out).order P.ws P.at_ hw)
   have CP := Lib.hid (fun (W : World) (E : Ext w2 W) => Compact_any (P.at_.ext E) hc1)
   have HW1 := Lib.hid hw1
   have HCO := Lib.hid hco
   have HT := Lib.hid hT
   have HGS := Lib.hid hgs
   have HPC := Lib.hid hpc
   have K1 := Lib.hid (show S1.sizes = z ∧ S1.order = o ∧ S1.words.length = k from ⟨hz1.trans hz, ho1.trans ho, hn1.trans hn⟩)
   generalize Hp.freeSum L1 = fs at hsum hgs HGS
   generalize Hp.freeMax 0 L1 = fm at hsum hgs HGS
   subst hsum
   obtain ⟨tl, htl⟩ : ∃ tl, T.length = tl := ⟨_, rfl⟩
   rw [htl] at hTl
   have HTL := Lib.hid htl
   have HTK := Lib.hid hTl.symm
   clear P hw PL hw1 hc1 hco hT hgs hpc hone hlive hz1 ho1 hn1 hz ho hn b0 b1 b2 b3 RD HP htl hTl
   go_upto_region 6 with (go_at_call 50; refine AD.out.mono ?_; rintro e w3 ⟨rfl, hb3⟩)
   have CP3 := Lib.hid (CP.out w3 hb3)
   have E3 := Lib.hid (E2.out.trans hb3)
   go_upto_region 7 with (go_at_call 51; refine CP3.out.mono ?_; rintro e w4 ⟨g4, p4, c4, rfl, hA4, hB4, hg4, hs4, hf4⟩)
   have E4 := Lib.hid (hB4.toExt E3.out OW0.out)
   have OW4 := Lib.hid (show ∀ b ∈ ({ d with gw := g4, cap := S1.words.length } : Hd).own, w0.heap.size ≤ b from fun b hb => by
    have h1 := OW0.out d.hb d.hb_own
    have h2 := OW0.out d.gm d.gm_own
    have h3 := E3.out.le
    simp only [Hd.own, List.mem_cons, List.not_mem_nil, or_false] at hb
    rcases hb with rfl | rfl | rfl <;> omega)
   have CO := Lib.hid (Collect_any hA4 HCO.out)
   go_upto_region 8 with (go_at_call 47; refine CO.out.mono ?_; rintro e w5 ⟨rfl, hA5, hB5⟩)
   have E5 := Lib.hid (hB5.toExt E4.out OW4.out)
   have ST := Lib.hid (Stats_any hA5 HT.out HPC.out)
   rw [HGS.out, HTL.out, HTK.out] at ST
   have H5 := Lib.hid hA5
   clear hA4 hB4 hA5 hB5 CO CP3 CP hs4 hf4 hb3
   go_upto_region 9 with (go_at_call 21; refine ST.out.mono ?_; rintro e w6 ⟨rfl, hb6⟩)
   refine cut_world (F := fun W => Ext w6 W ∧ W.cell? ⟨w6.heap.size, 0, none⟩ = some (.int .i64 tl) ∧ W.cell? ⟨w6.heap.size, 1, none⟩ = some (.int .i64 tl) ∧ W.cell? ⟨w6.heap.size, 2, none⟩ = some (.int .i64 fs) ∧ W.cell? ⟨w6.heap.size, 3, none⟩ = some (.int .i64 fs)) ⟨exx, by go_simp, by go_simp, by go_simp, by go_simp⟩ ?_
   rintro w7 ⟨E67, t0, t1, t2, t3⟩
   have E7 := Lib.hid (E5.out.trans (hb6.trans E67))
   have H7 := Lib.hid (H5.out.ext (hb6.trans E67))
   have e0 := (E7.out.cell z0 0).trans c0
   have e1 := (E7.out.cell z0 1).trans c1
   have e2 := (E7.out.cell z0 2).trans c2
   have e3 := (E7.out.cell z0 3).trans c3
   have WD := Lib.hid (lWords' (pa := pa) (ca := ca) (na := acts.length) K1.out.1 K1.out.2.1 K1.out.2.2 (H.out.ext E7.out).sizes (H.out.ext E7.out).order H7.out HW1.out)
   clear d0 d1 d2 d3 ST hb6 E67
   go_upto_region 10 with (go_at_call 52; refine WD.out.mono ?_; rintro e w8 ⟨g8, c8, rfl, R8, hb8⟩)
   have x0 := (hb8.cell (cell_lt e0) 0).trans e0
   have x1 := (hb8.cell (cell_lt e0) 1).trans e1
   have x2 := (hb8.cell (cell_lt e0) 2).trans e2
   have x3 := (hb8.cell (cell_lt e0) 3).trans e3
   have s0 := (hb8.cell (cell_lt t0) 0).trans t0
   have s1 := (hb8.cell (cell_lt t0) 1).trans t1
   have s2 := (hb8.cell (cell_lt t0) 2).trans t2
   have s3 := (hb8.cell (cell_lt t0) 3).trans t3
   have E8 := Lib.hid (E7.out.trans hb8)
   have AD2 := Lib.hid (lAdds' (pa := pa) (ca := ca) (na := acts.length) K1.out.1 K1.out.2.1 K1.out.2.2 (H.out.ext E8.out).sizes (H.out.ext E8.out).order R8.at_ (H7.out.ext hb8) HW1.out)
   clear R8 e0 e1 e2 e3 t0 t1 t2 t3 hb8
   go_wp2_with (first
    | (go_at_call 50; refine AD2.out.mono ?_; rintro e w9 ⟨rfl, hb9⟩)
    | (go_at_call 15; refine (awake_any _).mono ?_; rintro e wa ⟨rfl, hba⟩))
   go_returns
   exact ⟨rfl, HE0.out.trans ((E8.out.trans hb9).trans hba)⟩
end Go.Proofs.YtdokmmhjmclmnaaGreat
