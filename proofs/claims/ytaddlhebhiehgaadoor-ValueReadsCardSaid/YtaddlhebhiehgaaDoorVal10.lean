/-
  The walks of package value, tenth part: Less, Faults.
-/
import Derived.Test.YtaddlhebhiehgaaDoorVal9
namespace Go.Proofs.YtaddlhebhiehgaaDoor
open Go.RowKit Go.Shelf

theorem compareU_any (x y : Int) (w : World) : Calls Tryd.prog 62 #[.int .u8 x, .int .u8 y] w fun e w' => e = .returned (.int .i64 (Lib.compareInt x y)) ∧ Ext w w' := by
  by_cases h1 : x < y
  · have e : Lib.compareInt x y = -1 := by simp [Lib.compareInt, h1]
    rw [e]
    clear e
    go_enter Tryd.func62, Tryd.ntmps62
    go_wp2
    go_returns
    exact ⟨rfl, (by repeat' (first | (with_reducible exact Ext.refl _) | (with_reducible assumption) | (with_reducible refine Ext.alloc ?_ _) | (with_reducible refine Ext.drew ?_) | (with_reducible refine Ext.drewN ?_ _) | (with_reducible refine Ext.setCell ?_ ?_ _) | (with_reducible refine Ext.trans ?_ (by assumption)) | go_size))⟩
  · by_cases h2 : y < x
    · have e : Lib.compareInt x y = 1 := by simp [Lib.compareInt, h1, h2]
      rw [e]
      clear e
      go_enter Tryd.func62, Tryd.ntmps62
      go_wp2
      go_returns
      exact ⟨rfl, (by repeat' (first | (with_reducible exact Ext.refl _) | (with_reducible assumption) | (with_reducible refine Ext.alloc ?_ _) | (with_reducible refine Ext.drew ?_) | (with_reducible refine Ext.drewN ?_ _) | (with_reducible refine Ext.setCell ?_ ?_ _) | (with_reducible refine Ext.trans ?_ (by assumption)) | go_size))⟩
    · have e : Lib.compareInt x y = 0 := by simp [Lib.compareInt, h1, h2]
      rw [e]
      clear e
      go_enter Tryd.func62, Tryd.ntmps62
      go_wp2
      go_returns
      exact ⟨rfl, (by repeat' (first | (with_reducible exact Ext.refl _) | (with_reducible assumption) | (with_reducible refine Ext.alloc ?_ _) | (with_reducible refine Ext.drew ?_) | (with_reducible refine Ext.drewN ?_ _) | (with_reducible refine Ext.setCell ?_ ?_ _) | (with_reducible refine Ext.trans ?_ (by assumption)) | go_size))⟩
def orI (x y : Int) : Int := if x = 0 then y else x
theorem or2_any (x y : Int) (b : Nat) (w : World) (h1 : w.cell? ⟨b, 0, none⟩ = some (.int .i64 x)) (h2 : w.cell? ⟨b, 1, none⟩ = some (.int .i64 y)) :
    Calls Tryd.prog 61 #[.slice (some ⟨b, 0, none⟩) 2 2] w fun e w' => e = .returned (.int .i64 (orI x y)) ∧ Ext w w' := by
  by_cases hx : x = 0
  · subst hx
    have e : orI 0 y = y := by simp [orI]
    rw [e]
    clear e
    by_cases hy : y = 0
    · subst hy
      go_enter Tryd.func61, Tryd.ntmps61
      go_wp2
      go_rounds 3
      go_returns
      exact ⟨rfl, (by repeat' (first | (with_reducible exact Ext.refl _) | (with_reducible assumption) | (with_reducible refine Ext.alloc ?_ _) | (with_reducible refine Ext.drew ?_) | (with_reducible refine Ext.drewN ?_ _) | (with_reducible refine Ext.setCell ?_ ?_ _) | (with_reducible refine Ext.trans ?_ (by assumption)) | go_size))⟩
    · have hy' : (y != 0) = true := by simp [hy]
      go_enter Tryd.func61, Tryd.ntmps61
      go_wp2
      go_rounds 3
      go_returns
      exact ⟨rfl, (by repeat' (first | (with_reducible exact Ext.refl _) | (with_reducible assumption) | (with_reducible refine Ext.alloc ?_ _) | (with_reducible refine Ext.drew ?_) | (with_reducible refine Ext.drewN ?_ _) | (with_reducible refine Ext.setCell ?_ ?_ _) | (with_reducible refine Ext.trans ?_ (by assumption)) | go_size))⟩
  · have e : orI x y = x := by simp [orI, hx]
    have hx' : (x != 0) = true := by simp [hx]
    rw [e]
    clear e
    go_enter Tryd.func61, Tryd.ntmps61
    go_wp2
    go_rounds 3
    go_returns
    exact ⟨rfl, (by repeat' (first | (with_reducible exact Ext.refl _) | (with_reducible assumption) | (with_reducible refine Ext.alloc ?_ _) | (with_reducible refine Ext.drew ?_) | (with_reducible refine Ext.drewN ?_ _) | (with_reducible refine Ext.setCell ?_ ?_ _) | (with_reducible refine Ext.trans ?_ (by assumption)) | go_size))⟩
def lessB (fa na fb nb : Int) : Bool := decide (fa < fb) || (decide (fa = fb) && decide (na < nb))
theorem lessB_or (fa na fb nb : Int) : decide (orI (Lib.compareInt fa fb) (Lib.compareInt na nb) < 0) = lessB fa na fb nb := by
  unfold orI Lib.compareInt lessB
  by_cases h1 : fa < fb
  · simp [h1]
  · by_cases h2 : fb < fa
    · simp [h1, h2]; omega
    · have h3 : fa = fb := by omega
      subst h3
      by_cases h4 : na < nb
      · simp [h4]
      · by_cases h5 : nb < na <;> simp [h4, h5]
theorem less_err (fa na fb nb : Int) (g1 : 0 ≤ fa) (g2 : 0 ≤ fb) (hno : (cellB fa na && cellB fb nb) = false) (w : World) :
    Calls Tryd.prog 30 #[.agg #[.int .u8 fa, .int .i64 na], .agg #[.int .u8 fb, .int .i64 nb]] w fun e w' => e = .returned (.tuple #[.bool false, .int .i64 2]) ∧ Ext w w' := by
  have H2 := fun b w' h => areCells_some b 0 2 2 [(fa, na), (fb, nb)] w' rfl (by omega) h
  rw [show allB [(fa, na), (fb, nb)] = false by simpa [allB] using hno] at H2
  have H2 := Lib.hid H2
  clear hno
  go_enter Tryd.func30, Tryd.ntmps30
  go_wp2_with (first | (go_at_call 46; refine (H2.out _ _ (lies2 _ _ _ _ _ _ g1 g2 _ (by simp))).mono ?_; rintro e w2 ⟨rfl, hb2⟩; obtain ⟨hc2, hf2, hs2⟩ := hb2.cells; have hz2_0 : w.heap.size < w2.heap.size := (by have h := hb2.le; (try simp at h); omega); have hc2_0 := hb2.cell (b := w.heap.size) (by first | omega | (simp; done) | (simp; omega)); have hf2_0 := hb2.frozen (b := w.heap.size) (by first | omega | (simp; done) | (simp; omega)); have hz2_1 : w.heap.size + 1 < w2.heap.size := (by have h := hb2.le; (try simp at h); omega); have hc2_1 := hb2.cell (b := w.heap.size + 1) (by first | omega | (simp; done) | (simp; omega)); have hf2_1 := hb2.frozen (b := w.heap.size + 1) (by first | omega | (simp; done) | (simp; omega))))
  go_ret2
  exact ⟨rfl, (by repeat' (first | (with_reducible exact Ext.refl _) | (with_reducible assumption) | (with_reducible refine Ext.alloc ?_ _) | (with_reducible refine Ext.drew ?_) | (with_reducible refine Ext.drewN ?_ _) | (with_reducible refine Ext.setCell ?_ ?_ _) | (with_reducible refine Ext.trans ?_ (by assumption)) | go_size))⟩
theorem less_ok (fa na fb nb : Int) (g1 : 0 ≤ fa) (g2 : 0 ≤ fb) (c1 : cellB fa na = true) (c2 : cellB fb nb = true) (w : World) :
    Calls Tryd.prog 30 #[.agg #[.int .u8 fa, .int .i64 na], .agg #[.int .u8 fb, .int .i64 nb]] w fun e w' => e = .returned (.tuple #[.bool (lessB fa na fb nb), .int .i64 0]) ∧ Ext w w' := by
  rw [← lessB_or]
  have H2 := fun b w' h => areCells_some b 0 2 2 [(fa, na), (fb, nb)] w' rfl (by omega) h
  rw [show allB [(fa, na), (fb, nb)] = true by simp [allB, c1, c2]] at H2
  have H2 := Lib.hid H2
  clear c1 c2
  go_enter Tryd.func30, Tryd.ntmps30
  go_wp2_with (first | (go_at_call 46; refine (H2.out _ _ (lies2 _ _ _ _ _ _ g1 g2 _ (by simp))).mono ?_; rintro e w2 ⟨rfl, hb2⟩; obtain ⟨hc2, hf2, hs2⟩ := hb2.cells; have hz2_0 : w.heap.size < w2.heap.size := (by have h := hb2.le; (try simp at h); omega); have hc2_0 := hb2.cell (b := w.heap.size) (by first | omega | (simp; done) | (simp; omega)); have hf2_0 := hb2.frozen (b := w.heap.size) (by first | omega | (simp; done) | (simp; omega)); have hz2_1 : w.heap.size + 1 < w2.heap.size := (by have h := hb2.le; (try simp at h); omega); have hc2_1 := hb2.cell (b := w.heap.size + 1) (by first | omega | (simp; done) | (simp; omega)); have hf2_1 := hb2.frozen (b := w.heap.size + 1) (by first | omega | (simp; done) | (simp; omega))))
  go_region_held3 (fun W => W.cell? ⟨w.heap.size, 0, none⟩ = some (.int .u8 fa) ∧ W.cell? ⟨w.heap.size, 1, none⟩ = some (.int .i64 na) ∧ W.cell? ⟨w.heap.size + 1, 0, none⟩ = some (.int .u8 fb) ∧ W.cell? ⟨w.heap.size + 1, 1, none⟩ = some (.int .i64 nb))
    (first | exact cells_two (t := 23) (t' := 23) (by repeat' (first | (with_reducible exact Ext.refl _) | (with_reducible assumption) | (with_reducible refine Ext.alloc ?_ _) | (with_reducible refine Ext.drew ?_) | (with_reducible refine Ext.drewN ?_ _) | (with_reducible refine Ext.setCell ?_ ?_ _) | (with_reducible refine Ext.trans ?_ (by assumption)) | go_size)))
    (first | (go_at_call 62; refine (compareU_any _ _ _).mono ?_; rintro e w3 ⟨rfl, hb3⟩; obtain ⟨hc3, hf3, hs3⟩ := hb3.cells; have hz3_0 : w.heap.size < w3.heap.size := (by have h := hb3.le; (try simp at h); omega); have hc3_0 := hb3.cell (b := w.heap.size) (by first | omega | (simp; done) | (simp; omega)); have hf3_0 := hb3.frozen (b := w.heap.size) (by first | omega | (simp; done) | (simp; omega)); have hz3_1 : w.heap.size + 1 < w3.heap.size := (by have h := hb3.le; (try simp at h); omega); have hc3_1 := hb3.cell (b := w.heap.size + 1) (by first | omega | (simp; done) | (simp; omega)); have hf3_1 := hb3.frozen (b := w.heap.size + 1) (by first | omega | (simp; done) | (simp; omega))) | (go_at_call 63; refine (compare_any _ _ _).mono ?_; rintro e w4 ⟨rfl, hb4⟩; obtain ⟨hc4, hf4, hs4⟩ := hb4.cells; have hz4_0 : w.heap.size < w4.heap.size := (by have h := hb4.le; (try simp at h); omega); have hc4_0 := hb4.cell (b := w.heap.size) (by first | omega | (simp; done) | (simp; omega)); have hf4_0 := hb4.frozen (b := w.heap.size) (by first | omega | (simp; done) | (simp; omega)); have hz4_1 : w.heap.size + 1 < w4.heap.size := (by have h := hb4.le; (try simp at h); omega); have hc4_1 := hb4.cell (b := w.heap.size + 1) (by first | omega | (simp; done) | (simp; omega)); have hf4_1 := hb4.frozen (b := w.heap.size + 1) (by first | omega | (simp; done) | (simp; omega))) | (go_at_call 61; refine (or2_any (Lib.compareInt fa fb) (Lib.compareInt na nb) _ _ (by simp [go_sem]) (by simp [go_sem])).mono ?_; rintro e w5 ⟨rfl, hb5⟩; obtain ⟨hc5, hf5, hs5⟩ := hb5.cells; have hz5_0 : w.heap.size < w5.heap.size := (by have h := hb5.le; (try simp at h); omega); have hc5_0 := hb5.cell (b := w.heap.size) (by first | omega | (simp; done) | (simp; omega)); have hf5_0 := hb5.frozen (b := w.heap.size) (by first | omega | (simp; done) | (simp; omega)); have hz5_1 : w.heap.size + 1 < w5.heap.size := (by have h := hb5.le; (try simp at h); omega); have hc5_1 := hb5.cell (b := w.heap.size + 1) (by first | omega | (simp; done) | (simp; omega)); have hf5_1 := hb5.frozen (b := w.heap.size + 1) (by first | omega | (simp; done) | (simp; omega))))
  go_wp2
  go_ret2
  exact ⟨rfl, (by repeat' (first | (with_reducible exact Ext.refl _) | (with_reducible assumption) | (with_reducible refine Ext.alloc ?_ _) | (with_reducible refine Ext.drew ?_) | (with_reducible refine Ext.drewN ?_ _) | (with_reducible refine Ext.setCell ?_ ?_ _) | (with_reducible refine Ext.trans ?_ (by assumption)) | go_size))⟩
end Go.Proofs.YtaddlhebhiehgaaDoor
