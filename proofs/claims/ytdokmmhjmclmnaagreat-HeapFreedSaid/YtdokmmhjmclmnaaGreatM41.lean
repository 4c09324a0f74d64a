/-
  Part 41 of a proof: LH11.
-/
import Derived.ChangeKeysEq
import Derived.Test.YtdokmmhjmclmnaaGreatM22
import Derived.Test.YtdokmmhjmclmnaaGreatM36
set_option linter.unusedSimpArgs false
set_option linter.unusedVariables false
set_option linter.unusedSectionVars false
set_option linter.unnecessarySimpa false
namespace Go.Proofs.YtdokmmhjmclmnaaGreat
open Go.RowKit Go.Maps
theorem eq_ints4 (x : Int) (u : World) : Sem.run Tryz.prog (Op.equalIn 10000 37 (.agg #[.int .i64 0, .int .i64 0, .int .i64 x, .int .i64 x]) (.agg #[.int .i64 0, .int .i64 0, .int .i64 x, .int .i64 x])) u = .ok true u := by
 have hu : Tryz.prog.underlying 37 = some (.array 4 3) := by kernel_rfl
 have key : ∀ b : Bool, (decide (x = x)) = b → Sem.run Tryz.prog (Op.equalIn 10000 37 (.agg #[.int .i64 0, .int .i64 0, .int .i64 x, .int .i64 x]) (.agg #[.int .i64 0, .int .i64 0, .int .i64 x, .int .i64 x])) u = .ok true u := by
  intro b hb
  rw [show (10000 : Nat) = 9999 + 1 from rfl]
  cases hi : Tryz.prog.info? 3 with
  | none =>
   have : (Tryz.prog.info? 3).isSome = true := by kernel_rfl
   rw [hi] at this
   cases this
  | some i =>
   rw [run_equalIn_array u 9999 _ _ hu hi]
   have hc : Tryz.prog.cellsOf 3 = 1 := by kernel_rfl
   rw [hc]
   simp [Op.eqItems, List.range, List.range.loop]
   go_simp
 exact key _ rfl
set_option maxRecDepth 100000 in
set_option maxHeartbeats 16000000 in
theorem heapFreed {w : World} {sp op pa : Option Addr} {sc oc ca : Nat} {z o : List Int} {n : Int} {acts : List Hp.Act'} (h : SAt w sp sc op oc pa ca z o acts) :
    Calls Tryz.prog 7 #[.agg #[.slice sp z.length sc, .slice op o.length oc, .int .i64 n, .slice pa acts.length ca]] w fun e w' => e = .returned (.bool true) ∧ Ext w w' := by
  have E0 : Ext w (w.alloc (.cells #[.slice sp z.length sc, .slice op o.length oc, .int .i64 n, .slice pa acts.length ca] 25)) := Ext.alloc (Ext.refl _) _
  have H := Lib.hid (h.ext E0)
  have RD := Lib.hid (lReady (n := n) (h.ext E0))
  cases hr : Hp.readyB z o n acts with
  | false =>
   rw [hr] at RD
   clear h hr H
   go_enter Tryz.func7, Tryz.ntmps7
   go_wp2_with (first
    | (go_at_call 40; refine (RD.out).mono ?_; rintro e w1 ⟨rfl, hb1⟩; obtain ⟨hc1, hf1, hs1⟩ := hb1.cells)
    | (go_at_call 15; refine (awake_any _).mono ?_; rintro e w2 ⟨rfl, hb2⟩))
   go_returns
   exact ⟨rfl, (E0.trans hb1).trans hb2⟩
  | true =>
   rw [hr] at RD
   obtain ⟨k, rfl, hrd⟩ := Hp.ready_ok hr
   have HR := Lib.hid hrd
   have HE0 := Lib.hid E0
   have HC := Lib.hid (show (w.alloc (.cells #[.slice sp z.length sc, .slice op o.length oc, .int .i64 k, .slice pa acts.length ca] 25)).cell? ⟨w.heap.size, 0, none⟩ = some (.slice sp z.length sc) ∧ (w.alloc (.cells #[.slice sp z.length sc, .slice op o.length oc, .int .i64 k, .slice pa acts.length ca] 25)).cell? ⟨w.heap.size, 1, none⟩ = some (.slice op o.length oc) ∧ (w.alloc (.cells #[.slice sp z.length sc, .slice op o.length oc, .int .i64 k, .slice pa acts.length ca] 25)).cell? ⟨w.heap.size, 2, none⟩ = some (.int .i64 k) ∧ (w.alloc (.cells #[.slice sp z.length sc, .slice op o.length oc, .int .i64 k, .slice pa acts.length ca] 25)).cell? ⟨w.heap.size, 3, none⟩ = some (.slice pa acts.length ca) by refine ⟨?_, ?_, ?_, ?_⟩ <;> go_simp)
   clear h hr hrd E0
   go_enter Tryz.func7, Tryz.ntmps7
   go_wp2_with fail
   generalize (w.alloc (.cells #[.slice sp z.length sc, .slice op o.length oc, .int .i64 k, .slice pa acts.length ca] 25)) = w0 at H HE0 HC RD ⊢
   generalize w.heap.size = gb at HC ⊢
   obtain ⟨c0, c1, c2, c3⟩ := HC.out
   have z0 := cell_lt c0
   clear HC
   go_upto_region 3 with (go_at_call 40; refine (RD.out).mono ?_; rintro e w1 ⟨rfl, hb1⟩; obtain ⟨hc1, hf1, hs1⟩ := hb1.cells)
   have b0 := (hb1.cell z0 0).trans c0
   have b1 := (hb1.cell z0 1).trans c1
   have b2 := (hb1.cell z0 2).trans c2
   have b3 := (hb1.cell z0 3).trans c3
   have PL := Lib.hid (lPlayed (H.out.ext hb1) HR.out)
   go_upto_region 6 with (go_at_call 41; refine PL.out.mono ?_; rintro e w2 ⟨d, S, g, c, L, ch, rfl, P, hw, rfl, rfl, rfl⟩)
   have E2 := hb1.trans P.ext
   have HP := Lib.hid P
   have HW := Lib.hid hw
   have d0 := (P.ext.cell (Nat.lt_of_lt_of_le z0 hb1.le) 0).trans b0
   have d1 := (P.ext.cell (Nat.lt_of_lt_of_le z0 hb1.le) 1).trans b1
   have d2 := (P.ext.cell (Nat.lt_of_lt_of_le z0 hb1.le) 2).trans b2
   have d3 := (P.ext.cell (Nat.lt_of_lt_of_le z0 hb1.le) 3).trans b3
   have CL := Lib.hid (lCells (pa := pa) (ca := ca) (na := acts.length) (n := (S.words.length : Int)) (H.out.ext E2).sizes (H.out.ext E2).order P.ws hw)
   have hcl : (cellsI S).length = S.taken.length := by simp [cellsI]
   clear P hw PL b0 b1 b2 b3
   go_upto_region 7 with (go_at_call 42; refine CL.out.mono ?_; rintro e w3 ⟨p1, cp, rfl, hR, hb3⟩)
   have LB : Hid (Lb w0 w3 d g c S.words p1 cp (cellsI S)) := Lib.hid ⟨E2.trans hb3, fun b hb => Nat.le_trans hb1.le (HP.out.own b hb), HP.out.ws.ext hb3, HP.out.gown, hR.at_, fun b o e hm => by have := hR.far e; have := HP.out.at_.own_lt b hm; omega⟩
   have HH := Lib.hid (HP.out.at_.ext hb3)
   have O1 := Lib.hid HP.out.o1
   have O2 := Lib.hid HP.out.o2
   clear hR CL d0 d1 d2 d3 HP RD
   obtain ⟨m, hm⟩ : ∃ m, S.taken.length = m := ⟨_, rfl⟩
   have few := HW.out.few
   have hi := HW.out.hi
   have lo := HW.out.lo
   have HM := Lib.hid hm
   rw [hm] at few hcl
   rw [hm]
   have HCL := Lib.hid hcl
   clear hm hcl
   obtain ⟨nw, hnw⟩ : ∃ nw, S.words.length = nw := ⟨_, rfl⟩
   have HNW := Lib.hid hnw
   rw [hnw] at few hi lo c2
   simp only [hnw]
   clear hnw
   go_wp2_with fail
   go_loopg [7] m (fun g' i wr => ∃ (j : Nat) (S' : Hp.Hs), j ≤ m ∧ m - j ≤ g' ∧ i = .int .i64 j ∧ Hid (Now w3 wr d S') ∧ Hid (Hp.DropOk S S' L ch j))
   case atStart => exact ⟨0, S, Nat.zero_le _, by omega, rfl, Lib.hid (Now.refl HH.out), Lib.hid (Hp.DropOk.start HW.out)⟩
   case round =>
    obtain ⟨j, S', hj, hg, rfl, N, K⟩ := hrel
    by_cases hlt : j < m
    · have tk : decide ((j : Int) < (m : Int)) = true := decide_eq_true (by omega)
      obtain ⟨a, ha⟩ : ∃ a, S.taken[j]? = some a := ⟨_, List.getElem?_eq_getElem (by rw [HM.out]; exact hlt)⟩
      have hat := List.mem_of_getElem? ha
      have LB1 := Lib.hid (LB.out.but N.out.but)
      obtain ⟨bb, oo, rfl, hbb, -⟩ := LB1.out.ls.cells (by rw [HCL.out]; omega)
      have HA := Lib.hid (cells_at ha)
      have lj := LB1.out.ls.cell_ HA.out
      have lle := LB1.out.ls.le
      have lcap := LB1.out.ls.cap
      have wle := LB1.out.ws.le
      have wcap := LB1.out.ws.cap
      have pa' := HW.out.part hat
      rw [HCL.out] at lle
      rw [HNW.out] at wle
      have pa2 : a + 16 < nw + 14 := by have := HNW.out; omega
      have pa3 : 17 ≤ a ∧ a + 5 ≤ nw := by have := HNW.out; omega
      have lw := LB1.out.ws.cell_ (Hp.rd_ow (show a + 2 < S.words.length by omega))
      rw [Nat.zero_add] at lw
      have ia : IntKind.i64.wrap ((a : Int) + 2) = (a : Int) + 2 := IntWalk.i64_in _ (by omega)
      have K0 := Lib.hid (K.out.into ha)
      obtain ⟨v0, hv0⟩ : ∃ v0, Hp.ow S.words (a + 2) = v0 := ⟨_, rfl⟩
      rw [hv0] at lw K0
      have rg := K0.out.range
      obtain ⟨v1, rfl⟩ : ∃ v1 : Nat, v0 = v1 := ⟨v0.toNat, by omega⟩
      clear pa' ha hv0 hat
      go_wp2_with fail
      go_loopg [8] (v1 + 1) (fun g2 i wr2 => ∃ (v : Nat) (S2 : Hp.Hs), v + 1 ≤ g2 ∧ i = .int .i64 v ∧ v ≤ 100 ∧ Hid (Now w3 wr2 d S2) ∧ Hid (Hp.DropIn S S2 L ch j a v))
      case atStart => exact ⟨v1, S', Nat.le_refl _, rfl, by omega, N, K0⟩
      case round =>
       obtain ⟨v, S2, hv, rfl, hv100, N2, K2⟩ := hrel
       have LB2 := Lib.hid (LB.out.but N2.out.but)
       have lj2 := LB2.out.ls.cell_ HA.out
       by_cases h0 : 0 < v
       · have tk2 : decide (0 < (v : Int)) = true := decide_eq_true (by omega)
         have tk3 : decide (0 < v) = true := decide_eq_true h0
         obtain ⟨S3, e3, K3'⟩ := K2.out.step (by omega)
         have K3 := Lib.hid K3'
         have DR := Lib.hid (Drop_any N2.out.toHAt e3 (by omega) (by omega))
         clear e3 K3'
         go_wp2_with (go_at_call 46; refine DR.out.mono ?_; rintro e w4 ⟨rfl, hA4, hB4⟩)
         go_roundg v
         case measure => omega
         case rel => exact ⟨v - 1, S3, by omega, by go_num, by omega, Lib.hid ⟨hA4, N2.out.but.trans hB4⟩, Lib.hid (by rw [show ((v - 1 : Nat) : Int) = (v : Int) - 1 by omega]; exact K3.out)⟩
       · have : v = 0 := by omega
         subst this
         have tk2 : decide (0 < ((0 : Nat) : Int)) = false := decide_eq_false (by omega)
         obtain ⟨e3, K3'⟩ := K2.out.done rfl
         have K3 := Lib.hid K3'
         have DR := Lib.hid (Drop_any N2.out.toHAt e3 (by omega) (by omega))
         clear e3 K3'
         go_wp2_with (go_at_call 46; refine DR.out.mono ?_; rintro e w4 ⟨rfl, hA4, hB4⟩)
         go_roundg (m - (j + 1))
         case measure => omega
         case rel => exact ⟨j + 1, S2, by omega, Nat.le_refl _, by go_num, Lib.hid ⟨hA4, N2.out.but.trans hB4⟩, K3⟩
    · have : j = m := by omega
      subst this
      have tk : decide ((j : Int) < (j : Int)) = false := decide_eq_false (by omega)
      have LB1 := Lib.hid (LB.out.but N.out.but)
      obtain ⟨S1, L1, ch1, e1, hw1, ht1, hl1, hlv, hgs⟩ := (show Hp.DropOk S S' L ch S.taken.length from HM.out ▸ K.out).freed
      rw [HM.out] at e1
      have CO := Lib.hid (Collect_any N.out.toHAt e1)
      rw [HNW.out] at hgs
      have HGS := Lib.hid hgs
      have HLV := Lib.hid hlv
      have HW1 := Lib.hid hw1
      have HT1 := Lib.hid ht1
      have wt : IntKind.i64.wrap ((nw : Int) - 17) = (nw : Int) - 17 := IntWalk.i64_in _ (by omega)
      clear e1 hw1 ht1 hl1 hlv hgs
      go_upto_region 18 with (go_at_call 47; refine CO.out.mono ?_; rintro e w4 ⟨rfl, hA4, hB4⟩)
      have E4 := hB4.toExt LB1.out.ext LB1.out.own
      have ST := Lib.hid (Stats_any hA4 HLV.out HW1.out.pieces_)
      rw [HGS.out, HT1.out] at ST
      go_upto_region 19 with (go_at_call 21; refine ST.out.mono ?_; rintro e w5 ⟨rfl, hb5⟩)
      have c25 := ((E4.trans hb5).cell z0 2).trans c2
      have z5 := cell_lt c25
      have EQ : ∀ u : World, Sem.run Tryz.prog (Op.equalIn 10000 37 (.agg #[.int .i64 0, .int .i64 0, .int .i64 ((nw - 17 : Nat) : Int), .int .i64 ((nw - 17 : Nat) : Int)]) (.agg #[.int .i64 0, .int .i64 0, .int .i64 ((nw : Int) - 17), .int .i64 ((nw : Int) - 17)])) u = .ok true u := fun u => by rw [show ((nw - 17 : Nat) : Int) = (nw : Int) - 17 by omega]; exact eq_ints4 _ u
      go_wp2_with (go_at_call 15; refine (awake_any _).mono ?_; rintro e w7 ⟨rfl, E7⟩)
      go_returns
      exact ⟨rfl, HE0.out.trans (((E4.trans hb5).trans (exx)))⟩
end Go.Proofs.YtdokmmhjmclmnaaGreat
