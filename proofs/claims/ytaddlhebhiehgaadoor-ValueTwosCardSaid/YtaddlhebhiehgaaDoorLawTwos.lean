/-
  ValueTwos: the walk.
-/
import Derived.Test.YtaddlhebhiehgaaDoorKnown2
import Derived.Test.YtaddlhebhiehgaaDoorRef3
namespace Go.Proofs.YtaddlhebhiehgaaDoor.lawTwos
open Go.RowKit Go.Shelf

set_option maxRecDepth 100000
set_option maxHeartbeats 1000000
/-- The law's way where an error is due. -/
theorem walk_err (c f1 n1 f2 n2 : Int) (g1 : 0 ≤ f1) (g2 : 0 ≤ f2) (w : World) (hg : Glob w)
    (H : Hid (∀ w', Calls Tryd.prog 14 #[.int .u8 c, .agg #[.int .u8 f1, .int .i64 n1], .agg #[.int .u8 f2, .int .i64 n2]] w' fun e w'' => e = .returned (.tuple #[.agg #[.int .u8 0, .int .i64 0], .int .i64 2]) ∧ Ext w' w''))
    (hno : cellB f1 n1 = false ∨ cellB f2 n2 = false ∨ c < 7 ∨ 16 < c) :
    Calls Tryd.prog 3 #[.int .u8 c, .agg #[.int .u8 f1, .int .i64 n1], .agg #[.int .u8 f2, .int .i64 n2]] w fun e w' => e = .returned (.bool true) ∧ Ext w w' := by
  have HI1 := fun w' => refIs_any f1 n1 g1 w'
  have HI2 := fun w' => refIs_any f2 n2 g2 w'
  have tok : True := trivial
  cases e1 : cellB f1 n1 with
  | false =>
    rw [e1] at HI1
    have HI1 := Lib.hid HI1
    clear HI2 hno e1
    go_enter Tryd.func3, Tryd.ntmps3
    go_wp2_with (first | (go_at_call 14; refine (H.out _).mono ?_; rintro e w1 ⟨rfl, hb1⟩; obtain ⟨hc1, hf1, hs1⟩ := hb1.cells; have hz1_0 : w.heap.size < w1.heap.size := (by have h := hb1.le; (try simp at h); omega); have hc1_0 := hb1.cell (b := w.heap.size) (by first | omega | (simp; done) | (simp; omega)); have hf1_0 := hb1.frozen (b := w.heap.size) (by first | omega | (simp; done) | (simp; omega)); have hz1_1 : w.heap.size + 1 < w1.heap.size := (by have h := hb1.le; (try simp at h); omega); have hc1_1 := hb1.cell (b := w.heap.size + 1) (by first | omega | (simp; done) | (simp; omega)); have hf1_1 := hb1.frozen (b := w.heap.size + 1) (by first | omega | (simp; done) | (simp; omega))) | (go_at_call 15; refine (HI1.out _).mono ?_; rintro e w2 ⟨rfl, hb2⟩; obtain ⟨hc2, hf2, hs2⟩ := hb2.cells; have hz2_0 : w.heap.size < w2.heap.size := (by have h := hb2.le; (try simp at h); omega); have hc2_0 := hb2.cell (b := w.heap.size) (by first | omega | (simp; done) | (simp; omega)); have hf2_0 := hb2.frozen (b := w.heap.size) (by first | omega | (simp; done) | (simp; omega)); have hz2_1 : w.heap.size + 1 < w2.heap.size := (by have h := hb2.le; (try simp at h); omega); have hc2_1 := hb2.cell (b := w.heap.size + 1) (by first | omega | (simp; done) | (simp; omega)); have hf2_1 := hb2.frozen (b := w.heap.size + 1) (by first | omega | (simp; done) | (simp; omega))))
    have KS := Lib.hid (fun (W : World) (h : Ext (w1.alloc (.cells #[.int .u8 0, .int .i64 0] 23)) W) => cells_one h)
    have hfin := Lib.hid (show Ext w w2 from (by repeat' (first | (with_reducible exact Ext.refl _) | (with_reducible assumption) | (with_reducible refine Ext.alloc ?_ _) | (with_reducible refine Ext.drew ?_) | (with_reducible refine Ext.drewN ?_ _) | (with_reducible refine Ext.setCell ?_ ?_ _) | (with_reducible refine Ext.trans ?_ (by assumption)) | go_size)))
    go_region_held3 (fun W => W.cell? ⟨w1.heap.size, 0, none⟩ = some (.int .u8 0) ∧ W.cell? ⟨w1.heap.size, 1, none⟩ = some (.int .i64 0)) (first | exact KS.out _ (by repeat' (first | (with_reducible exact Ext.refl _) | (with_reducible assumption) | (with_reducible refine Ext.alloc ?_ _) | (with_reducible refine Ext.drew ?_) | (with_reducible refine Ext.drewN ?_ _) | (with_reducible refine Ext.setCell ?_ ?_ _) | (with_reducible refine Ext.trans ?_ (by assumption)) | go_size))) (first | (go_at_call 16; refine (num_any _ _).mono ?_; rintro e x1 ⟨rfl, y1⟩) | (go_at_call 17; refine (known_any _ (hg.ext (hfin.out.trans (by repeat' (first | (with_reducible exact Ext.refl _) | (with_reducible assumption) | (with_reducible refine Ext.alloc ?_ _) | (with_reducible refine Ext.drew ?_) | (with_reducible refine Ext.drewN ?_ _) | (with_reducible refine Ext.setCell ?_ ?_ _) | (with_reducible refine Ext.trans ?_ (by assumption)) | go_size))))).mono ?_; rintro e x2 ⟨rfl, y2⟩))
    go_wp2
    go_returns
    exact ⟨rfl, Ext.trans hfin.out (by repeat' (first | (with_reducible exact Ext.refl _) | (with_reducible assumption) | (with_reducible refine Ext.alloc ?_ _) | (with_reducible refine Ext.drew ?_) | (with_reducible refine Ext.drewN ?_ _) | (with_reducible refine Ext.setCell ?_ ?_ _) | (with_reducible refine Ext.trans ?_ (by assumption)) | go_size))⟩
  | true =>
    rw [e1] at HI1
    have HI1 := Lib.hid HI1
    cases e2 : cellB f2 n2 with
    | false =>
      rw [e2] at HI2
      have HI2 := Lib.hid HI2
      clear hno e1 e2
      go_enter Tryd.func3, Tryd.ntmps3
      go_wp2_with (first | (go_at_call 14; refine (H.out _).mono ?_; rintro e w1 ⟨rfl, hb1⟩; obtain ⟨hc1, hf1, hs1⟩ := hb1.cells; have hz1_0 : w.heap.size < w1.heap.size := (by have h := hb1.le; (try simp at h); omega); have hc1_0 := hb1.cell (b := w.heap.size) (by first | omega | (simp; done) | (simp; omega)); have hf1_0 := hb1.frozen (b := w.heap.size) (by first | omega | (simp; done) | (simp; omega)); have hz1_1 : w.heap.size + 1 < w1.heap.size := (by have h := hb1.le; (try simp at h); omega); have hc1_1 := hb1.cell (b := w.heap.size + 1) (by first | omega | (simp; done) | (simp; omega)); have hf1_1 := hb1.frozen (b := w.heap.size + 1) (by first | omega | (simp; done) | (simp; omega))) | (go_at_call 15; have _t := tok; refine (HI1.out _).mono ?_; rintro e w2 ⟨rfl, hb2⟩; obtain ⟨hc2, hf2, hs2⟩ := hb2.cells; have hz2_0 : w.heap.size < w2.heap.size := (by have h := hb2.le; (try simp at h); omega); have hc2_0 := hb2.cell (b := w.heap.size) (by first | omega | (simp; done) | (simp; omega)); have hf2_0 := hb2.frozen (b := w.heap.size) (by first | omega | (simp; done) | (simp; omega)); have hz2_1 : w.heap.size + 1 < w2.heap.size := (by have h := hb2.le; (try simp at h); omega); have hc2_1 := hb2.cell (b := w.heap.size + 1) (by first | omega | (simp; done) | (simp; omega)); have hf2_1 := hb2.frozen (b := w.heap.size + 1) (by first | omega | (simp; done) | (simp; omega)); clear tok) | (go_at_call 15; refine (HI2.out _).mono ?_; rintro e w3 ⟨rfl, hb3⟩; obtain ⟨hc3, hf3, hs3⟩ := hb3.cells; have hz3_0 : w.heap.size < w3.heap.size := (by have h := hb3.le; (try simp at h); omega); have hc3_0 := hb3.cell (b := w.heap.size) (by first | omega | (simp; done) | (simp; omega)); have hf3_0 := hb3.frozen (b := w.heap.size) (by first | omega | (simp; done) | (simp; omega)); have hz3_1 : w.heap.size + 1 < w3.heap.size := (by have h := hb3.le; (try simp at h); omega); have hc3_1 := hb3.cell (b := w.heap.size + 1) (by first | omega | (simp; done) | (simp; omega)); have hf3_1 := hb3.frozen (b := w.heap.size + 1) (by first | omega | (simp; done) | (simp; omega))))
      have KS := Lib.hid (fun (W : World) (h : Ext (w1.alloc (.cells #[.int .u8 0, .int .i64 0] 23)) W) => cells_one h)
      have hfin := Lib.hid (show Ext w w3 from (by repeat' (first | (with_reducible exact Ext.refl _) | (with_reducible assumption) | (with_reducible refine Ext.alloc ?_ _) | (with_reducible refine Ext.drew ?_) | (with_reducible refine Ext.drewN ?_ _) | (with_reducible refine Ext.setCell ?_ ?_ _) | (with_reducible refine Ext.trans ?_ (by assumption)) | go_size)))
      go_region_held3 (fun W => W.cell? ⟨w1.heap.size, 0, none⟩ = some (.int .u8 0) ∧ W.cell? ⟨w1.heap.size, 1, none⟩ = some (.int .i64 0)) (first | exact KS.out _ (by repeat' (first | (with_reducible exact Ext.refl _) | (with_reducible assumption) | (with_reducible refine Ext.alloc ?_ _) | (with_reducible refine Ext.drew ?_) | (with_reducible refine Ext.drewN ?_ _) | (with_reducible refine Ext.setCell ?_ ?_ _) | (with_reducible refine Ext.trans ?_ (by assumption)) | go_size))) (first | (go_at_call 16; refine (num_any _ _).mono ?_; rintro e x1 ⟨rfl, y1⟩) | (go_at_call 17; refine (known_any _ (hg.ext (hfin.out.trans (by repeat' (first | (with_reducible exact Ext.refl _) | (with_reducible assumption) | (with_reducible refine Ext.alloc ?_ _) | (with_reducible refine Ext.drew ?_) | (with_reducible refine Ext.drewN ?_ _) | (with_reducible refine Ext.setCell ?_ ?_ _) | (with_reducible refine Ext.trans ?_ (by assumption)) | go_size))))).mono ?_; rintro e x2 ⟨rfl, y2⟩))
      go_wp2
      go_returns
      exact ⟨rfl, Ext.trans hfin.out (by repeat' (first | (with_reducible exact Ext.refl _) | (with_reducible assumption) | (with_reducible refine Ext.alloc ?_ _) | (with_reducible refine Ext.drew ?_) | (with_reducible refine Ext.drewN ?_ _) | (with_reducible refine Ext.setCell ?_ ?_ _) | (with_reducible refine Ext.trans ?_ (by assumption)) | go_size))⟩
    | true =>
      rw [e2] at HI2
      have HI2 := Lib.hid HI2
      have hc : c < 7 ∨ 16 < c := by
        rcases hno with h | h | h
        · rw [e1] at h; cases h
        · rw [e2] at h; cases h
        · exact h
      clear hno e1 e2
      rcases hc with hc | hc
      · go_enter Tryd.func3, Tryd.ntmps3
        go_wp2_with (first | (go_at_call 14; refine (H.out _).mono ?_; rintro e w1 ⟨rfl, hb1⟩; obtain ⟨hc1, hf1, hs1⟩ := hb1.cells; have hz1_0 : w.heap.size < w1.heap.size := (by have h := hb1.le; (try simp at h); omega); have hc1_0 := hb1.cell (b := w.heap.size) (by first | omega | (simp; done) | (simp; omega)); have hf1_0 := hb1.frozen (b := w.heap.size) (by first | omega | (simp; done) | (simp; omega)); have hz1_1 : w.heap.size + 1 < w1.heap.size := (by have h := hb1.le; (try simp at h); omega); have hc1_1 := hb1.cell (b := w.heap.size + 1) (by first | omega | (simp; done) | (simp; omega)); have hf1_1 := hb1.frozen (b := w.heap.size + 1) (by first | omega | (simp; done) | (simp; omega))) | (go_at_call 15; have _t := tok; refine (HI1.out _).mono ?_; rintro e w2 ⟨rfl, hb2⟩; obtain ⟨hc2, hf2, hs2⟩ := hb2.cells; have hz2_0 : w.heap.size < w2.heap.size := (by have h := hb2.le; (try simp at h); omega); have hc2_0 := hb2.cell (b := w.heap.size) (by first | omega | (simp; done) | (simp; omega)); have hf2_0 := hb2.frozen (b := w.heap.size) (by first | omega | (simp; done) | (simp; omega)); have hz2_1 : w.heap.size + 1 < w2.heap.size := (by have h := hb2.le; (try simp at h); omega); have hc2_1 := hb2.cell (b := w.heap.size + 1) (by first | omega | (simp; done) | (simp; omega)); have hf2_1 := hb2.frozen (b := w.heap.size + 1) (by first | omega | (simp; done) | (simp; omega)); clear tok) | (go_at_call 15; refine (HI2.out _).mono ?_; rintro e w3 ⟨rfl, hb3⟩; obtain ⟨hc3, hf3, hs3⟩ := hb3.cells; have hz3_0 : w.heap.size < w3.heap.size := (by have h := hb3.le; (try simp at h); omega); have hc3_0 := hb3.cell (b := w.heap.size) (by first | omega | (simp; done) | (simp; omega)); have hf3_0 := hb3.frozen (b := w.heap.size) (by first | omega | (simp; done) | (simp; omega)); have hz3_1 : w.heap.size + 1 < w3.heap.size := (by have h := hb3.le; (try simp at h); omega); have hc3_1 := hb3.cell (b := w.heap.size + 1) (by first | omega | (simp; done) | (simp; omega)); have hf3_1 := hb3.frozen (b := w.heap.size + 1) (by first | omega | (simp; done) | (simp; omega))))
        have KS := Lib.hid (fun (W : World) (h : Ext (w1.alloc (.cells #[.int .u8 0, .int .i64 0] 23)) W) => cells_one h)
        have hfin := Lib.hid (show Ext w w3 from (by repeat' (first | (with_reducible exact Ext.refl _) | (with_reducible assumption) | (with_reducible refine Ext.alloc ?_ _) | (with_reducible refine Ext.drew ?_) | (with_reducible refine Ext.drewN ?_ _) | (with_reducible refine Ext.setCell ?_ ?_ _) | (with_reducible refine Ext.trans ?_ (by assumption)) | go_size)))
        go_region_held3 (fun W => W.cell? ⟨w1.heap.size, 0, none⟩ = some (.int .u8 0) ∧ W.cell? ⟨w1.heap.size, 1, none⟩ = some (.int .i64 0)) (first | exact KS.out _ (by repeat' (first | (with_reducible exact Ext.refl _) | (with_reducible assumption) | (with_reducible refine Ext.alloc ?_ _) | (with_reducible refine Ext.drew ?_) | (with_reducible refine Ext.drewN ?_ _) | (with_reducible refine Ext.setCell ?_ ?_ _) | (with_reducible refine Ext.trans ?_ (by assumption)) | go_size))) (first | (go_at_call 16; refine (num_any _ _).mono ?_; rintro e x1 ⟨rfl, y1⟩) | (go_at_call 17; refine (known_any _ (hg.ext (hfin.out.trans (by repeat' (first | (with_reducible exact Ext.refl _) | (with_reducible assumption) | (with_reducible refine Ext.alloc ?_ _) | (with_reducible refine Ext.drew ?_) | (with_reducible refine Ext.drewN ?_ _) | (with_reducible refine Ext.setCell ?_ ?_ _) | (with_reducible refine Ext.trans ?_ (by assumption)) | go_size))))).mono ?_; rintro e x2 ⟨rfl, y2⟩))
        go_wp2
        go_returns
        exact ⟨rfl, Ext.trans hfin.out (by repeat' (first | (with_reducible exact Ext.refl _) | (with_reducible assumption) | (with_reducible refine Ext.alloc ?_ _) | (with_reducible refine Ext.drew ?_) | (with_reducible refine Ext.drewN ?_ _) | (with_reducible refine Ext.setCell ?_ ?_ _) | (with_reducible refine Ext.trans ?_ (by assumption)) | go_size))⟩
      · have hc2 : ¬ c < 7 := by omega
        go_enter Tryd.func3, Tryd.ntmps3
        go_wp2_with (first | (go_at_call 14; refine (H.out _).mono ?_; rintro e w1 ⟨rfl, hb1⟩; obtain ⟨hc1, hf1, hs1⟩ := hb1.cells; have hz1_0 : w.heap.size < w1.heap.size := (by have h := hb1.le; (try simp at h); omega); have hc1_0 := hb1.cell (b := w.heap.size) (by first | omega | (simp; done) | (simp; omega)); have hf1_0 := hb1.frozen (b := w.heap.size) (by first | omega | (simp; done) | (simp; omega)); have hz1_1 : w.heap.size + 1 < w1.heap.size := (by have h := hb1.le; (try simp at h); omega); have hc1_1 := hb1.cell (b := w.heap.size + 1) (by first | omega | (simp; done) | (simp; omega)); have hf1_1 := hb1.frozen (b := w.heap.size + 1) (by first | omega | (simp; done) | (simp; omega))) | (go_at_call 15; have _t := tok; refine (HI1.out _).mono ?_; rintro e w2 ⟨rfl, hb2⟩; obtain ⟨hc2, hf2, hs2⟩ := hb2.cells; have hz2_0 : w.heap.size < w2.heap.size := (by have h := hb2.le; (try simp at h); omega); have hc2_0 := hb2.cell (b := w.heap.size) (by first | omega | (simp; done) | (simp; omega)); have hf2_0 := hb2.frozen (b := w.heap.size) (by first | omega | (simp; done) | (simp; omega)); have hz2_1 : w.heap.size + 1 < w2.heap.size := (by have h := hb2.le; (try simp at h); omega); have hc2_1 := hb2.cell (b := w.heap.size + 1) (by first | omega | (simp; done) | (simp; omega)); have hf2_1 := hb2.frozen (b := w.heap.size + 1) (by first | omega | (simp; done) | (simp; omega)); clear tok) | (go_at_call 15; refine (HI2.out _).mono ?_; rintro e w3 ⟨rfl, hb3⟩; obtain ⟨hc3, hf3, hs3⟩ := hb3.cells; have hz3_0 : w.heap.size < w3.heap.size := (by have h := hb3.le; (try simp at h); omega); have hc3_0 := hb3.cell (b := w.heap.size) (by first | omega | (simp; done) | (simp; omega)); have hf3_0 := hb3.frozen (b := w.heap.size) (by first | omega | (simp; done) | (simp; omega)); have hz3_1 : w.heap.size + 1 < w3.heap.size := (by have h := hb3.le; (try simp at h); omega); have hc3_1 := hb3.cell (b := w.heap.size + 1) (by first | omega | (simp; done) | (simp; omega)); have hf3_1 := hb3.frozen (b := w.heap.size + 1) (by first | omega | (simp; done) | (simp; omega))))
        have KS := Lib.hid (fun (W : World) (h : Ext (w1.alloc (.cells #[.int .u8 0, .int .i64 0] 23)) W) => cells_one h)
        have hfin := Lib.hid (show Ext w w3 from (by repeat' (first | (with_reducible exact Ext.refl _) | (with_reducible assumption) | (with_reducible refine Ext.alloc ?_ _) | (with_reducible refine Ext.drew ?_) | (with_reducible refine Ext.drewN ?_ _) | (with_reducible refine Ext.setCell ?_ ?_ _) | (with_reducible refine Ext.trans ?_ (by assumption)) | go_size)))
        go_region_held3 (fun W => W.cell? ⟨w1.heap.size, 0, none⟩ = some (.int .u8 0) ∧ W.cell? ⟨w1.heap.size, 1, none⟩ = some (.int .i64 0)) (first | exact KS.out _ (by repeat' (first | (with_reducible exact Ext.refl _) | (with_reducible assumption) | (with_reducible refine Ext.alloc ?_ _) | (with_reducible refine Ext.drew ?_) | (with_reducible refine Ext.drewN ?_ _) | (with_reducible refine Ext.setCell ?_ ?_ _) | (with_reducible refine Ext.trans ?_ (by assumption)) | go_size))) (first | (go_at_call 16; refine (num_any _ _).mono ?_; rintro e x1 ⟨rfl, y1⟩) | (go_at_call 17; refine (known_any _ (hg.ext (hfin.out.trans (by repeat' (first | (with_reducible exact Ext.refl _) | (with_reducible assumption) | (with_reducible refine Ext.alloc ?_ _) | (with_reducible refine Ext.drew ?_) | (with_reducible refine Ext.drewN ?_ _) | (with_reducible refine Ext.setCell ?_ ?_ _) | (with_reducible refine Ext.trans ?_ (by assumption)) | go_size))))).mono ?_; rintro e x2 ⟨rfl, y2⟩))
        go_wp2
        go_returns
        exact ⟨rfl, Ext.trans hfin.out (by repeat' (first | (with_reducible exact Ext.refl _) | (with_reducible assumption) | (with_reducible refine Ext.alloc ?_ _) | (with_reducible refine Ext.drew ?_) | (with_reducible refine Ext.drewN ?_ _) | (with_reducible refine Ext.setCell ?_ ?_ _) | (with_reducible refine Ext.trans ?_ (by assumption)) | go_size))⟩

/-- The law's way where no error is due: the reference makes the same. -/
theorem walk_ok (c f1 n1 f2 n2 rf rn : Int) (g1 : 0 ≤ f1) (g2 : 0 ≤ f2) (w : World) (hg : Glob w)
    (H : Hid (∀ w', Calls Tryd.prog 14 #[.int .u8 c, .agg #[.int .u8 f1, .int .i64 n1], .agg #[.int .u8 f2, .int .i64 n2]] w' fun e w'' => e = .returned (.tuple #[.agg #[.int .u8 rf, .int .i64 rn], .int .i64 0]) ∧ Ext w' w''))
    (HR : Hid (∀ w', Calls Tryd.prog 18 #[.int .u8 c, .agg #[.int .u8 f1, .int .i64 n1], .agg #[.int .u8 f2, .int .i64 n2]] w' fun e w'' => e = .returned (.agg #[.int .u8 rf, .int .i64 rn]) ∧ Ext w' w''))
    (e1 : cellB f1 n1 = true) (e2 : cellB f2 n2 = true) (hc1 : 7 ≤ c) (hc2 : c ≤ 16) :
    Calls Tryd.prog 3 #[.int .u8 c, .agg #[.int .u8 f1, .int .i64 n1], .agg #[.int .u8 f2, .int .i64 n2]] w fun e w' => e = .returned (.bool true) ∧ Ext w w' := by
  have HI1 := fun w' => refIs_any f1 n1 g1 w'
  have HI2 := fun w' => refIs_any f2 n2 g2 w'
  have tok : True := trivial
  rw [e1] at HI1
  rw [e2] at HI2
  have HI1 := Lib.hid HI1
  have HI2 := Lib.hid HI2
  clear e1 e2
  go_enter Tryd.func3, Tryd.ntmps3
  go_wp2_with (first | (go_at_call 14; refine (H.out _).mono ?_; rintro e w1 ⟨rfl, hb1⟩; obtain ⟨hc1, hf1, hs1⟩ := hb1.cells; have hz1_0 : w.heap.size < w1.heap.size := (by have h := hb1.le; (try simp at h); omega); have hc1_0 := hb1.cell (b := w.heap.size) (by first | omega | (simp; done) | (simp; omega)); have hf1_0 := hb1.frozen (b := w.heap.size) (by first | omega | (simp; done) | (simp; omega)); have hz1_1 : w.heap.size + 1 < w1.heap.size := (by have h := hb1.le; (try simp at h); omega); have hc1_1 := hb1.cell (b := w.heap.size + 1) (by first | omega | (simp; done) | (simp; omega)); have hf1_1 := hb1.frozen (b := w.heap.size + 1) (by first | omega | (simp; done) | (simp; omega))) | (go_at_call 15; have _t := tok; refine (HI1.out _).mono ?_; rintro e w2 ⟨rfl, hb2⟩; obtain ⟨hc2, hf2, hs2⟩ := hb2.cells; have hz2_0 : w.heap.size < w2.heap.size := (by have h := hb2.le; (try simp at h); omega); have hc2_0 := hb2.cell (b := w.heap.size) (by first | omega | (simp; done) | (simp; omega)); have hf2_0 := hb2.frozen (b := w.heap.size) (by first | omega | (simp; done) | (simp; omega)); have hz2_1 : w.heap.size + 1 < w2.heap.size := (by have h := hb2.le; (try simp at h); omega); have hc2_1 := hb2.cell (b := w.heap.size + 1) (by first | omega | (simp; done) | (simp; omega)); have hf2_1 := hb2.frozen (b := w.heap.size + 1) (by first | omega | (simp; done) | (simp; omega)); clear tok) | (go_at_call 15; refine (HI2.out _).mono ?_; rintro e w3 ⟨rfl, hb3⟩; obtain ⟨hc3, hf3, hs3⟩ := hb3.cells; have hz3_0 : w.heap.size < w3.heap.size := (by have h := hb3.le; (try simp at h); omega); have hc3_0 := hb3.cell (b := w.heap.size) (by first | omega | (simp; done) | (simp; omega)); have hf3_0 := hb3.frozen (b := w.heap.size) (by first | omega | (simp; done) | (simp; omega)); have hz3_1 : w.heap.size + 1 < w3.heap.size := (by have h := hb3.le; (try simp at h); omega); have hc3_1 := hb3.cell (b := w.heap.size + 1) (by first | omega | (simp; done) | (simp; omega)); have hf3_1 := hb3.frozen (b := w.heap.size + 1) (by first | omega | (simp; done) | (simp; omega))))
  have KS := Lib.hid (fun (W : World) (h : Ext (w1.alloc (.cells #[.int .u8 rf, .int .i64 rn] 23)) W) => cells_one h)
  have K2 := Lib.hid (fun (W : World) (h : Ext ((w.alloc (.cells #[.int .u8 f1, .int .i64 n1] 23)).alloc (.cells #[.int .u8 f2, .int .i64 n2] 23)) W) => cells_two h)
  have hfin := Lib.hid (show Ext w w3 from (by repeat' (first | (with_reducible exact Ext.refl _) | (with_reducible assumption) | (with_reducible refine Ext.alloc ?_ _) | (with_reducible refine Ext.drew ?_) | (with_reducible refine Ext.drewN ?_ _) | (with_reducible refine Ext.setCell ?_ ?_ _) | (with_reducible refine Ext.trans ?_ (by assumption)) | go_size)))
  go_region_held3 (fun W => W.cell? ⟨w1.heap.size, 0, none⟩ = some (.int .u8 rf) ∧ W.cell? ⟨w1.heap.size, 1, none⟩ = some (.int .i64 rn) ∧ W.cell? ⟨w.heap.size, 0, none⟩ = some (.int .u8 f1) ∧ W.cell? ⟨w.heap.size, 1, none⟩ = some (.int .i64 n1) ∧ W.cell? ⟨w.heap.size + 1, 0, none⟩ = some (.int .u8 f2) ∧ W.cell? ⟨w.heap.size + 1, 1, none⟩ = some (.int .i64 n2)) (first | exact ⟨(KS.out _ (by repeat' (first | (with_reducible exact Ext.refl _) | (with_reducible assumption) | (with_reducible refine Ext.alloc ?_ _) | (with_reducible refine Ext.drew ?_) | (with_reducible refine Ext.drewN ?_ _) | (with_reducible refine Ext.setCell ?_ ?_ _) | (with_reducible refine Ext.trans ?_ (by assumption)) | go_size))).1, (KS.out _ (by repeat' (first | (with_reducible exact Ext.refl _) | (with_reducible assumption) | (with_reducible refine Ext.alloc ?_ _) | (with_reducible refine Ext.drew ?_) | (with_reducible refine Ext.drewN ?_ _) | (with_reducible refine Ext.setCell ?_ ?_ _) | (with_reducible refine Ext.trans ?_ (by assumption)) | go_size))).2, K2.out _ (by repeat' (first | (with_reducible exact Ext.refl _) | (with_reducible assumption) | (with_reducible refine Ext.alloc ?_ _) | (with_reducible refine Ext.drew ?_) | (with_reducible refine Ext.drewN ?_ _) | (with_reducible refine Ext.setCell ?_ ?_ _) | (with_reducible refine Ext.trans ?_ (by assumption)) | go_size))⟩) (first | (go_at_call 18; refine (HR.out _).mono ?_; rintro e x1 ⟨rfl, y1⟩) | (go_at_call 17; refine (known_any _ (hg.ext (hfin.out.trans (by repeat' (first | (with_reducible exact Ext.refl _) | (with_reducible assumption) | (with_reducible refine Ext.alloc ?_ _) | (with_reducible refine Ext.drew ?_) | (with_reducible refine Ext.drewN ?_ _) | (with_reducible refine Ext.setCell ?_ ?_ _) | (with_reducible refine Ext.trans ?_ (by assumption)) | go_size))))).mono ?_; rintro e x2 ⟨rfl, y2⟩))
  go_wp2
  go_returns
  exact ⟨rfl, Ext.trans hfin.out (by repeat' (first | (with_reducible exact Ext.refl _) | (with_reducible assumption) | (with_reducible refine Ext.alloc ?_ _) | (with_reducible refine Ext.drew ?_) | (with_reducible refine Ext.drewN ?_ _) | (with_reducible refine Ext.setCell ?_ ?_ _) | (with_reducible refine Ext.trans ?_ (by assumption)) | go_size))⟩

theorem cell_zero {n : Int} (h : cellB 0 n = true) : -9999 ≤ n ∧ n ≤ 9999 := by simpa [cellB] using h

theorem walk (c f1 n1 f2 n2 : Int) (g1 : 0 ≤ f1) (g2 : 0 ≤ f2) (w : World) (hg : Glob w) :
    Calls Tryd.prog 3 #[.int .u8 c, .agg #[.int .u8 f1, .int .i64 n1], .agg #[.int .u8 f2, .int .i64 n2]] w fun e w' => e = .returned (.bool true) ∧ Ext w w' := by
  by_cases hc : c < 7 ∨ 16 < c
  · exact walk_err c f1 n1 f2 n2 g1 g2 w hg (Lib.hid (fun w' => op2_code c f1 n1 f2 n2 hc w')) (by rcases hc with h | h <;> simp [h])
  have hc1 : 7 ≤ c := by omega
  have hc2 : c ≤ 16 := by omega
  cases e1 : cellB f1 n1 with
  | false =>
    by_cases h14 : c ≤ 14
    · exact walk_err c f1 n1 f2 n2 g1 g2 w hg (Lib.hid (fun w' => op2_cells c f1 n1 f2 n2 hc1 h14 g1 g2 (by rw [e1]; rfl) w')) (.inl e1)
    · exact walk_err c f1 n1 f2 n2 g1 g2 w hg (Lib.hid (fun w' => op2_bool_err c f1 n1 f2 n2 (by omega) g1 g2 (by rw [e1]; rfl) w')) (.inl e1)
  | true =>
  cases e2 : cellB f2 n2 with
  | false =>
    by_cases h14 : c ≤ 14
    · exact walk_err c f1 n1 f2 n2 g1 g2 w hg (Lib.hid (fun w' => op2_cells c f1 n1 f2 n2 hc1 h14 g1 g2 (by rw [e1, e2]; rfl) w')) (.inr (.inl e2))
    · exact walk_err c f1 n1 f2 n2 g1 g2 w hg (Lib.hid (fun w' => op2_bool_err c f1 n1 f2 n2 (by omega) g1 g2 (by rw [e1, e2]; rfl) w')) (.inr (.inl e2))
  | true =>
  by_cases h14 : c ≤ 14
  · by_cases hf1 : f1 = 0
    · subst hf1
      by_cases hf2 : f2 = 0
      · subst hf2
        obtain ⟨a1, a2⟩ := cell_zero e1
        obtain ⟨b1, b2⟩ := cell_zero e2
        have hcs : c = 7 ∨ c = 8 ∨ c = 9 ∨ c = 10 ∨ c = 11 ∨ c = 12 ∨ c = 13 ∨ c = 14 := by omega
        rcases hcs with rfl | rfl | rfl | rfl | rfl | rfl | rfl | rfl
        · exact walk_ok 7 0 n1 0 n2 _ _ g1 g2 w hg (Lib.hid (fun w' => op2_num7 n1 n2 a1 a2 b1 b2 w')) (Lib.hid (fun w' => ref2_num7 n1 n2 a1 a2 b1 b2 w')) e1 e2 hc1 hc2
        · exact walk_ok 8 0 n1 0 n2 _ _ g1 g2 w hg (Lib.hid (fun w' => op2_num8 n1 n2 a1 a2 b1 b2 w')) (Lib.hid (fun w' => ref2_num8 n1 n2 a1 a2 b1 b2 w')) e1 e2 hc1 hc2
        · exact walk_ok 9 0 n1 0 n2 _ _ g1 g2 w hg (Lib.hid (fun w' => op2_num9 n1 n2 a1 a2 b1 b2 w')) (Lib.hid (fun w' => ref2_num9 n1 n2 a1 a2 b1 b2 w')) e1 e2 hc1 hc2
        · by_cases h0 : n2 = 0
          · subst h0
            exact walk_ok 10 0 n1 0 0 1 0 g1 g2 w hg (Lib.hid (fun w' => op2_num10z n1 0 a1 a2 w')) (Lib.hid (fun w' => ref2_zero 10 n1 (.inl rfl) w')) e1 e2 hc1 hc2
          · exact walk_ok 10 0 n1 0 n2 _ _ g1 g2 w hg (Lib.hid (fun w' => op2_num10 n1 n2 a1 a2 b1 b2 h0 w')) (Lib.hid (fun w' => ref2_num10 n1 n2 a1 a2 b1 b2 h0 w')) e1 e2 hc1 hc2
        · by_cases h0 : n2 = 0
          · subst h0
            exact walk_ok 11 0 n1 0 0 1 0 g1 g2 w hg (Lib.hid (fun w' => op2_num11z n1 0 a1 a2 w')) (Lib.hid (fun w' => ref2_zero 11 n1 (.inr rfl) w')) e1 e2 hc1 hc2
          · exact walk_ok 11 0 n1 0 n2 _ _ g1 g2 w hg (Lib.hid (fun w' => op2_num11 n1 n2 a1 a2 b1 b2 h0 w')) (Lib.hid (fun w' => ref2_num11 n1 n2 a1 a2 b1 b2 h0 w')) e1 e2 hc1 hc2
        · have H := fun w' => op2_num12 n1 n2 a1 a2 b1 b2 w'
          rw [cmpI_eq] at H
          exact walk_ok 12 0 n1 0 n2 _ _ g1 g2 w hg (Lib.hid H) (Lib.hid (fun w' => ref2_num12 n1 n2 w')) e1 e2 hc1 hc2
        · have H := fun w' => op2_num13 n1 n2 a1 a2 b1 b2 w'
          rw [cmpI_lt] at H
          exact walk_ok 13 0 n1 0 n2 _ _ g1 g2 w hg (Lib.hid H) (Lib.hid (fun w' => ref2_num13 n1 n2 w')) e1 e2 hc1 hc2
        · have H := fun w' => op2_num14 n1 n2 a1 a2 b1 b2 w'
          rw [cmpI_le] at H
          exact walk_ok 14 0 n1 0 n2 _ _ g1 g2 w hg (Lib.hid H) (Lib.hid (fun w' => ref2_num14 n1 n2 w')) e1 e2 hc1 hc2
      · exact walk_ok c 0 n1 f2 n2 _ _ g1 g2 w hg (Lib.hid (fun w' => op2_faultB c n1 f2 n2 hc1 h14 g2 e1 e2 hf2 w')) (Lib.hid (fun w' => ref2_faultB c n1 f2 n2 hc1 h14 (by omega) w')) e1 e2 hc1 hc2
    · exact walk_ok c f1 n1 f2 n2 _ _ g1 g2 w hg (Lib.hid (fun w' => op2_faultA c f1 n1 f2 n2 hc1 h14 g1 g2 e1 e2 hf1 w')) (Lib.hid (fun w' => ref2_faultA c f1 n1 f2 n2 (by omega) w')) e1 e2 hc1 hc2
  · have hcs : c = 15 ∨ c = 16 := by omega
    rcases hcs with rfl | rfl
    · have H := fun w' => op2_and_ok f1 n1 f2 n2 g1 g2 e1 e2 w'
      by_cases hf1 : f1 = 0
      · subst hf1
        by_cases h0 : n1 = 0
        · subst h0
          exact walk_ok 15 0 0 f2 n2 0 0 g1 g2 w hg (Lib.hid H) (Lib.hid (fun w' => ref2_and0 f2 n2 w')) e1 e2 hc1 hc2
        · rw [show chF 0 n1 f2 0 = f2 by simp [chF, h0], show (if (0 : Int) = 0 then (if n1 = 0 then 0 else n2) else n1) = n2 by simp [h0]] at H
          exact walk_ok 15 0 n1 f2 n2 f2 n2 g1 g2 w hg (Lib.hid H) (Lib.hid (fun w' => ref2_and1 n1 f2 n2 h0 w')) e1 e2 hc1 hc2
      · rw [show chF f1 n1 f2 0 = f1 by simp [chF, hf1], show (if f1 = 0 then (if n1 = 0 then 0 else n2) else n1) = n1 by simp [hf1]] at H
        exact walk_ok 15 f1 n1 f2 n2 f1 n1 g1 g2 w hg (Lib.hid H) (Lib.hid (fun w' => ref2_faultA 15 f1 n1 f2 n2 (by omega) w')) e1 e2 hc1 hc2
    · have H := fun w' => op2_or_ok f1 n1 f2 n2 g1 g2 e1 e2 w'
      by_cases hf1 : f1 = 0
      · subst hf1
        by_cases h0 : n1 = 0
        · subst h0
          exact walk_ok 16 0 0 f2 n2 f2 n2 g1 g2 w hg (Lib.hid H) (Lib.hid (fun w' => ref2_or0 f2 n2 w')) e1 e2 hc1 hc2
        · rw [show chF 0 n1 0 f2 = 0 by simp [chF, h0], show (if (0 : Int) = 0 then (if n1 = 0 then n2 else 1) else n1) = 1 by simp [h0]] at H
          exact walk_ok 16 0 n1 f2 n2 0 1 g1 g2 w hg (Lib.hid H) (Lib.hid (fun w' => ref2_or1 n1 f2 n2 h0 w')) e1 e2 hc1 hc2
      · rw [show chF f1 n1 0 f2 = f1 by simp [chF, hf1], show (if f1 = 0 then (if n1 = 0 then n2 else 1) else n1) = n1 by simp [hf1]] at H
        exact walk_ok 16 f1 n1 f2 n2 f1 n1 g1 g2 w hg (Lib.hid H) (Lib.hid (fun w' => ref2_faultA 16 f1 n1 f2 n2 (by omega) w')) e1 e2 hc1 hc2

theorem walkAt (c f1 n1 f2 n2 : Int) (_ : 0 ≤ c) (_ : c ≤ 255) (g1 : 0 ≤ f1) (g2 : 0 ≤ f2) (w : World) (hg : Glob w) :
    Calls Tryd.prog 3 #[.int .u8 c, .agg #[.int .u8 f1, .int .i64 n1], .agg #[.int .u8 f2, .int .i64 n2]] w fun e w' => e = .returned (.bool true) ∧ Ext w w' := walk c f1 n1 f2 n2 g1 g2 w hg
end Go.Proofs.YtaddlhebhiehgaaDoor.lawTwos
