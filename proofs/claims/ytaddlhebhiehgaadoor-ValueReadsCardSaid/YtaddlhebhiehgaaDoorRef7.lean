/-
  The walk of the reference's Faults; what an append leaves of a row of cells.
-/
import Derived.Test.YtaddlhebhiehgaaDoorRef5
import Derived.Test.YtaddlhebhiehgaaDoorRows2
import Derived.Deep.AppendLies
namespace Go.Proofs.YtaddlhebhiehgaaDoor
open Go.RowKit Go.Shelf

theorem Ext.grown {a w w' : World} {row : Option Nat} (h : Ext a w) (hg : w.grownBy w' row) (hr : ∀ r, row = some r → a.heap.size ≤ r) : Ext a w' :=
  ⟨hg.os.trans h.os, hg.tape.trans h.tape, hg.output.trans h.output, Nat.le_trans h.le hg.size, fun k hk => (hg.block k (Nat.lt_of_lt_of_le hk h.le) (fun e => by
    have := hr k e.symm
    omega)).trans (h.block k hk)⟩
theorem add_off (b o j : Nat) : (⟨b, o, none⟩ : Addr).add j = ⟨b, o + j, none⟩ := by
  unfold Addr.add
  split
  · next h => subst h; rfl
  · rfl
/-- What a row owns lies in memory. -/
theorem lies_of_own {w : World} {base e n g cap : Nat} {zs : List (Int × Int)} (h : w.ownsRow base e 2 (.slice (some ⟨g, 0, none⟩) n cap) n (cellsOf zs)) (h0 : ∀ j, j < zs.length → 0 ≤ (zs[j]!).1) : Lies w g 0 zs := by
  have hc := h.cells (g := g) rfl
  refine ⟨(h.lt g rfl).2, fun j hj => ?_⟩
  obtain ⟨e1, e2⟩ := cellsOf_get zs j hj
  have q1 := hc _ _ e1
  have q2 := hc _ _ e2
  rw [add_off] at q1 q2
  rw [Nat.add_assoc]
  exact ⟨h0 j hj, q1, q2⟩
/-- The cells of a row that lies in memory, one by one. -/
theorem news_of_lies {w : World} {b off : Nat} {zs : List (Int × Int)} (h : Lies w b off zs) : ∀ j u, (cellsOf zs)[j]? = some u → w.cell? ((⟨b, off, none⟩ : Addr).add j) = some u := by
  intro j u hu
  rw [add_off]
  have hj := (List.getElem?_eq_some_iff.1 hu).1
  rw [cellsOf_length] at hj
  obtain ⟨-, h1, h2⟩ := h.2 (j / 2) (by omega)
  obtain ⟨e1, e2⟩ := cellsOf_get zs (j / 2) (by omega)
  by_cases hp : j % 2 = 0
  · have e : j / 2 * 2 = j := by omega
    rw [e] at e1 h1
    rw [e1] at hu
    rw [h1, ← hu]
  · have e : j / 2 * 2 + 1 = j := by omega
    rw [e] at e2
    rw [Nat.add_assoc, e] at h2
    rw [e2] at hu
    rw [h2, ← hu]
theorem own_empty (w : World) (t : TypeId) (base : Nat) (hb : base ≤ w.heap.size) : (w.alloc (.cells #[] t)).ownsRow base t 2 (.slice (some ⟨w.heap.size, 0, none⟩) 0 0) 0 (cellsOf []) :=
  World.ownsRow_made w #[] 0 hb (by unfold maxLen; omega) rfl

set_option maxRecDepth 100000 in
set_option maxHeartbeats 4000000 in
theorem refFaults_some (b off n c : Nat) (zs : List (Int × Int)) (w : World) (hn : zs.length = n) (hbig : n ≤ 9223372036854775807) (h : Lies w b off zs) (ha : allB zs = true) :
    Calls Tryd.prog 33 #[.slice (some ⟨b, off, none⟩) n c] w fun e w' => e = .returned (.int .u8 (faultsOf zs)) ∧ Ext w w' := by
  have HL := Lib.hid h; clear h
  have HN := Lib.hid hn; clear hn
  have HA := Lib.hid ha; clear ha
  have hf0 := Lib.hid (show faultsOf (zs.take 0) = 0 by simp [faultsOf])
  go_enter Tryd.func33, Tryd.ntmps33
  go_wp2_with fail
  go_loopw [3, 4] (fun s3 s4 wr => ∃ kk : Nat, kk ≤ n ∧ s4 = .int .i64 kk ∧ s3 = .int .u8 (faultsOf (zs.take kk)) ∧ Hid (Ext w wr)) (fun _ s4 _ => n - (intOf s4).toNat)
  case atStart => exact ⟨0, Nat.zero_le _, rfl, by rw [hf0.out], Ext.refl _⟩
  case round =>
    obtain ⟨kk, hkk, rfl, rfl, BW⟩ := hrel
    by_cases hlt : kk < n
    · obtain ⟨h0, c0, c1⟩ := (HL.out.below BW.out).2 kk (by rw [HN.out]; exact hlt)
      have hcell : cellB (zs[kk]!).1 (zs[kk]!).2 = true := by
        have := HA.out
        unfold allB at this
        rw [List.all_eq_true] at this
        have hk : kk < zs.length := by rw [HN.out]; exact hlt
        have := this zs[kk] (List.getElem_mem hk)
        simpa [hk] using this
      have hst := Lib.hid (faults_snoc zs kk (by rw [HN.out]; exact hlt))
      generalize hy : zs[kk]! = y at h0 c0 c1 hcell hst
      clear hy
      obtain ⟨yf, yn⟩ := y
      simp only at h0 c0 c1 hcell
      generalize faultsOf (zs.take kk) = fb at hst
      have hi1 : (kk : Int) < (n : Int) := by omega
      rcases cellB_le h0 hcell with rfl | rfl | rfl | rfl | rfl
      all_goals
        clear hcell
        go_wp2_with fail
        go_rounds 5
        go_roundw
        case measure => simp [intOf]; omega
        case rel =>
          exact ⟨kk + 1, by omega, by go_num, by rw [hst.out]; rfl, BW.out⟩
    · have : kk = n := by omega
      subst this
      have he := Lib.hid (show faultsOf (zs.take zs.length) = faultsOf zs by rw [List.take_length])
      go_wp2_with fail
      go_returns
      refine ⟨?_, BW.out⟩
      rw [← he.out, HN.out]
      rfl
theorem refFaults_none (a : Option Addr) (c : Nat) (w : World) :
    Calls Tryd.prog 33 #[.slice a 0 c] w fun e w' => e = .returned (.int .u8 0) ∧ Ext w w' := by
  go_enter Tryd.func33, Tryd.ntmps33
  go_wp2
  go_rounds 1
  go_returns
  exact ⟨rfl, Ext.refl _⟩
end Go.Proofs.YtaddlhebhiehgaaDoor
