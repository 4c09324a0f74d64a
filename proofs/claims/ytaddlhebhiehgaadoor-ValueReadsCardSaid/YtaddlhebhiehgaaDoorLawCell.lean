/-
  The walk of mistlaw07.cell: a cell by an integer.
-/
import Derived.Test.YtaddlhebhiehgaaDoorLawKit
namespace Go.Proofs.YtaddlhebhiehgaaDoor.lawCell
open Go.RowKit Go.Shelf

/-- The cell that an integer is made into. -/
def cellF (x : Int) : Int := if x.tmod 25 = 0 then 1 + x % 4294967296 / 25 % 4 else 0
def cellN (x : Int) : Int := if x.tmod 25 = 0 then 0 else x.tmod 10000
theorem cellF_bd (x : Int) : 0 ≤ cellF x ∧ cellF x ≤ 4 := by
  unfold cellF
  split <;> omega
theorem cell_is (x : Int) : cellB (cellF x) (cellN x) = true := by
  unfold cellF cellN
  by_cases h : x.tmod 25 = 0
  · rw [if_pos h, if_pos h]; exact cellB_bad _ (by omega) (by omega)
  · rw [if_neg h, if_neg h]
    have := lawSums.tmod_bd x
    exact cellB_num _ this.1 this.2
set_option maxRecDepth 100000 in
set_option maxHeartbeats 1000000 in
theorem cell_any (x : Int) (h1 : -2147483648 ≤ x) (h2 : x ≤ 2147483647) (w : World) :
    Calls Tryd.prog 34 #[.int .i32 x] w fun e w' => e = .returned (.agg #[.int .u8 (cellF x), .int .i64 (cellN x)]) ∧ Ext w w' := by
  by_cases h : x.tmod 25 = 0
  · rw [cellF, cellN, if_pos h, if_pos h]
    have h' : (x.tmod 25 == 0) = true := beq_iff_eq.2 h
    clear h
    go_enter Tryd.func34, Tryd.ntmps34
    go_wp2_with (go_at_call 39; refine (bad_any _ _).mono ?_; rintro e w1 ⟨rfl, hb1⟩; obtain ⟨hc1, hf1, hs1⟩ := hb1.cells; have hz1_0 : w.heap.size < w1.heap.size := (by have h := hb1.le; (try simp at h); omega); have hc1_0 := hb1.cell (b := w.heap.size) (by first | omega | (simp; done) | (simp; omega)); have hf1_0 := hb1.frozen (b := w.heap.size) (by first | omega | (simp; done) | (simp; omega)))
    refine bodyPost_ret (v := .agg #[.int .u8 (1 + x % 4294967296 / 25 % 4), .int .i64 0]) (by simp [results, Tryd.results34, go_sem, *]) rfl ⟨rfl, (by repeat' (first | (with_reducible exact Ext.refl _) | (with_reducible assumption) | (with_reducible refine Ext.alloc ?_ _) | (with_reducible refine Ext.drew ?_) | (with_reducible refine Ext.drewN ?_ _) | (with_reducible refine Ext.setCell ?_ ?_ _) | (with_reducible refine Ext.trans ?_ (by assumption)) | go_size))⟩
  · rw [cellF, cellN, if_neg h, if_neg h]
    have h' : (x.tmod 25 == 0) = false := beq_eq_false_iff_ne.2 h
    clear h
    go_enter Tryd.func34, Tryd.ntmps34
    go_wp2_with (go_at_call 16; refine (num_any _ _).mono ?_; rintro e w1 ⟨rfl, hb1⟩; obtain ⟨hc1, hf1, hs1⟩ := hb1.cells; have hz1_0 : w.heap.size < w1.heap.size := (by have h := hb1.le; (try simp at h); omega); have hc1_0 := hb1.cell (b := w.heap.size) (by first | omega | (simp; done) | (simp; omega)); have hf1_0 := hb1.frozen (b := w.heap.size) (by first | omega | (simp; done) | (simp; omega)))
    refine bodyPost_ret (v := .agg #[.int .u8 0, .int .i64 (x.tmod 10000)]) (by simp [results, Tryd.results34, go_sem, *]) rfl ⟨rfl, (by repeat' (first | (with_reducible exact Ext.refl _) | (with_reducible assumption) | (with_reducible refine Ext.alloc ?_ _) | (with_reducible refine Ext.drew ?_) | (with_reducible refine Ext.drewN ?_ _) | (with_reducible refine Ext.setCell ?_ ?_ _) | (with_reducible refine Ext.trans ?_ (by assumption)) | go_size))⟩
end Go.Proofs.YtaddlhebhiehgaaDoor.lawCell
