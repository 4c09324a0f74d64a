/-
  The walks of mistlaw07's kit: operations of which an error was seen, or not.
-/
import Derived.Test.YtaddlhebhiehgaaDoorKnown2
namespace Go.Proofs.YtaddlhebhiehgaaDoor
open Go.RowKit Go.Shelf

/-- The kit lies in block kb, and no error has been seen. -/
def KitAt (w : World) (kb : Nat) : Prop := w.cell? ⟨kb, 0, none⟩ = some (.bool false) ∧ w.frozen? ⟨kb, 0, none⟩ = false
theorem KitAt.lt {w : World} {kb : Nat} (h : KitAt w kb) : kb < w.heap.size := cell_lt h.1
theorem KitAt.ext {w w' : World} {kb : Nat} (h : KitAt w kb) (hb : Ext w w') : KitAt w' kb := ⟨(hb.cell h.lt 0).trans h.1, (hb.frozen h.lt 0).trans h.2⟩

theorem two_any (kb : Nat) (c f1 n1 f2 n2 rf rn : Int) (w : World) (hk : KitAt w kb)
    (H : Hid (∀ w', Calls Tryd.prog 14 #[.int .u8 c, .agg #[.int .u8 f1, .int .i64 n1], .agg #[.int .u8 f2, .int .i64 n2]] w' fun e w'' => e = .returned (.tuple #[.agg #[.int .u8 rf, .int .i64 rn], .int .i64 0]) ∧ Ext w' w'')) :
    Calls Tryd.prog 37 #[.pointer (some ⟨kb, 0, none⟩), .int .u8 c, .agg #[.int .u8 f1, .int .i64 n1], .agg #[.int .u8 f2, .int .i64 n2]] w fun e w' => e = .returned (.agg #[.int .u8 rf, .int .i64 rn]) ∧ Ext w w' := by
  have hlt := hk.lt
  have HK := Lib.hid hk; clear hk
  go_enter Tryd.func37, Tryd.ntmps37
  go_wp2_with (go_at_call 14; refine (H.out _).mono ?_; rintro e w1 ⟨rfl, hb1⟩; obtain ⟨hc1, hf1, hs1⟩ := hb1.cells; have hz1_0 : w.heap.size < w1.heap.size := (by have h := hb1.le; (try simp at h); omega); have hc1_0 := hb1.cell (b := w.heap.size) (by first | omega | (simp; done) | (simp; omega)); have hf1_0 := hb1.frozen (b := w.heap.size) (by first | omega | (simp; done) | (simp; omega)); have hz1_1 : w.heap.size + 1 < w1.heap.size := (by have h := hb1.le; (try simp at h); omega); have hc1_1 := hb1.cell (b := w.heap.size + 1) (by first | omega | (simp; done) | (simp; omega)); have hf1_1 := hb1.frozen (b := w.heap.size + 1) (by first | omega | (simp; done) | (simp; omega)); have hz1_2 : w.heap.size + 2 < w1.heap.size := (by have h := hb1.le; (try simp at h); omega); have hc1_2 := hb1.cell (b := w.heap.size + 2) (by first | omega | (simp; done) | (simp; omega)); have hf1_2 := hb1.frozen (b := w.heap.size + 2) (by first | omega | (simp; done) | (simp; omega)); have hlt1 : kb < w1.heap.size := (by omega); obtain ⟨k0, k1⟩ := HK.out.ext (show Ext w w1 from (by repeat' (first | (with_reducible exact Ext.refl _) | (with_reducible assumption) | (with_reducible refine Ext.alloc ?_ _) | (with_reducible refine Ext.drew ?_) | (with_reducible refine Ext.drewN ?_ _) | (with_reducible refine Ext.setCell ?_ ?_ _) | (with_reducible refine Ext.trans ?_ (by assumption)) | go_size))))
  refine bodyPost_ret (v := .agg #[.int .u8 rf, .int .i64 rn]) (by simp [results, Tryd.results37, go_sem, *]) rfl ⟨rfl, ?_⟩
  have hX : Ext w (w1.setCell ⟨kb, 0, none⟩ (.bool false)) := Ext.setCell_same (by repeat' (first | (with_reducible exact Ext.refl _) | (with_reducible assumption) | (with_reducible refine Ext.alloc ?_ _) | (with_reducible refine Ext.drew ?_) | (with_reducible refine Ext.drewN ?_ _) | (with_reducible refine Ext.setCell ?_ ?_ _) | (with_reducible refine Ext.trans ?_ (by assumption)) | go_size)) k0
  clear hb1
  exact (Ext.setCell (Ext.setCell hX (by first | (simp [go_sem]; done) | omega | (simp; omega)) _) (by first | (simp [go_sem]; done) | omega | (simp; omega)) _).alloc _

theorem one_any (kb : Nat) (c f1 n1 rf rn : Int) (w : World) (hk : KitAt w kb)
    (H : Hid (∀ w', Calls Tryd.prog 41 #[.int .u8 c, .agg #[.int .u8 f1, .int .i64 n1]] w' fun e w'' => e = .returned (.tuple #[.agg #[.int .u8 rf, .int .i64 rn], .int .i64 0]) ∧ Ext w' w'')) :
    Calls Tryd.prog 35 #[.pointer (some ⟨kb, 0, none⟩), .int .u8 c, .agg #[.int .u8 f1, .int .i64 n1]] w fun e w' => e = .returned (.agg #[.int .u8 rf, .int .i64 rn]) ∧ Ext w w' := by
  have hlt := hk.lt
  have HK := Lib.hid hk; clear hk
  go_enter Tryd.func35, Tryd.ntmps35
  go_wp2_with (go_at_call 41; refine (H.out _).mono ?_; rintro e w1 ⟨rfl, hb1⟩; obtain ⟨hc1, hf1, hs1⟩ := hb1.cells; have hz1_0 : w.heap.size < w1.heap.size := (by have h := hb1.le; (try simp at h); omega); have hc1_0 := hb1.cell (b := w.heap.size) (by first | omega | (simp; done) | (simp; omega)); have hf1_0 := hb1.frozen (b := w.heap.size) (by first | omega | (simp; done) | (simp; omega)); have hz1_1 : w.heap.size + 1 < w1.heap.size := (by have h := hb1.le; (try simp at h); omega); have hc1_1 := hb1.cell (b := w.heap.size + 1) (by first | omega | (simp; done) | (simp; omega)); have hf1_1 := hb1.frozen (b := w.heap.size + 1) (by first | omega | (simp; done) | (simp; omega)); have hlt1 : kb < w1.heap.size := (by omega); obtain ⟨k0, k1⟩ := HK.out.ext (show Ext w w1 from (by repeat' (first | (with_reducible exact Ext.refl _) | (with_reducible assumption) | (with_reducible refine Ext.alloc ?_ _) | (with_reducible refine Ext.drew ?_) | (with_reducible refine Ext.drewN ?_ _) | (with_reducible refine Ext.setCell ?_ ?_ _) | (with_reducible refine Ext.trans ?_ (by assumption)) | go_size))))
  refine bodyPost_ret (v := .agg #[.int .u8 rf, .int .i64 rn]) (by simp [results, Tryd.results35, go_sem, *]) rfl ⟨rfl, ?_⟩
  have hX : Ext w (w1.setCell ⟨kb, 0, none⟩ (.bool false)) := Ext.setCell_same (by repeat' (first | (with_reducible exact Ext.refl _) | (with_reducible assumption) | (with_reducible refine Ext.alloc ?_ _) | (with_reducible refine Ext.drew ?_) | (with_reducible refine Ext.drewN ?_ _) | (with_reducible refine Ext.setCell ?_ ?_ _) | (with_reducible refine Ext.trans ?_ (by assumption)) | go_size)) k0
  clear hb1
  exact (Ext.setCell (Ext.setCell hX (by first | (simp [go_sem]; done) | omega | (simp; omega)) _) (by first | (simp [go_sem]; done) | omega | (simp; omega)) _).alloc _

theorem choose_any (kb : Nat) (f1 n1 f2 n2 f3 n3 rf rn : Int) (w : World) (hk : KitAt w kb)
    (H : Hid (∀ w', Calls Tryd.prog 19 #[.agg #[.int .u8 f1, .int .i64 n1], .agg #[.int .u8 f2, .int .i64 n2], .agg #[.int .u8 f3, .int .i64 n3]] w' fun e w'' => e = .returned (.tuple #[.agg #[.int .u8 rf, .int .i64 rn], .int .i64 0]) ∧ Ext w' w'')) :
    Calls Tryd.prog 36 #[.pointer (some ⟨kb, 0, none⟩), .agg #[.int .u8 f1, .int .i64 n1], .agg #[.int .u8 f2, .int .i64 n2], .agg #[.int .u8 f3, .int .i64 n3]] w fun e w' => e = .returned (.agg #[.int .u8 rf, .int .i64 rn]) ∧ Ext w w' := by
  have hlt := hk.lt
  have HK := Lib.hid hk; clear hk
  go_enter Tryd.func36, Tryd.ntmps36
  go_wp2_with (go_at_call 19; refine (H.out _).mono ?_; rintro e w1 ⟨rfl, hb1⟩; obtain ⟨hc1, hf1, hs1⟩ := hb1.cells; have hz1_0 : w.heap.size < w1.heap.size := (by have h := hb1.le; (try simp at h); omega); have hc1_0 := hb1.cell (b := w.heap.size) (by first | omega | (simp; done) | (simp; omega)); have hf1_0 := hb1.frozen (b := w.heap.size) (by first | omega | (simp; done) | (simp; omega)); have hz1_1 : w.heap.size + 1 < w1.heap.size := (by have h := hb1.le; (try simp at h); omega); have hc1_1 := hb1.cell (b := w.heap.size + 1) (by first | omega | (simp; done) | (simp; omega)); have hf1_1 := hb1.frozen (b := w.heap.size + 1) (by first | omega | (simp; done) | (simp; omega)); have hz1_2 : w.heap.size + 2 < w1.heap.size := (by have h := hb1.le; (try simp at h); omega); have hc1_2 := hb1.cell (b := w.heap.size + 2) (by first | omega | (simp; done) | (simp; omega)); have hf1_2 := hb1.frozen (b := w.heap.size + 2) (by first | omega | (simp; done) | (simp; omega)); have hz1_3 : w.heap.size + 3 < w1.heap.size := (by have h := hb1.le; (try simp at h); omega); have hc1_3 := hb1.cell (b := w.heap.size + 3) (by first | omega | (simp; done) | (simp; omega)); have hf1_3 := hb1.frozen (b := w.heap.size + 3) (by first | omega | (simp; done) | (simp; omega)); have hlt1 : kb < w1.heap.size := (by omega); obtain ⟨k0, k1⟩ := HK.out.ext (show Ext w w1 from (by repeat' (first | (with_reducible exact Ext.refl _) | (with_reducible assumption) | (with_reducible refine Ext.alloc ?_ _) | (with_reducible refine Ext.drew ?_) | (with_reducible refine Ext.drewN ?_ _) | (with_reducible refine Ext.setCell ?_ ?_ _) | (with_reducible refine Ext.trans ?_ (by assumption)) | go_size))))
  refine bodyPost_ret (v := .agg #[.int .u8 rf, .int .i64 rn]) (by simp [results, Tryd.results36, go_sem, *]) rfl ⟨rfl, ?_⟩
  have hX : Ext w (w1.setCell ⟨kb, 0, none⟩ (.bool false)) := Ext.setCell_same (by repeat' (first | (with_reducible exact Ext.refl _) | (with_reducible assumption) | (with_reducible refine Ext.alloc ?_ _) | (with_reducible refine Ext.drew ?_) | (with_reducible refine Ext.drewN ?_ _) | (with_reducible refine Ext.setCell ?_ ?_ _) | (with_reducible refine Ext.trans ?_ (by assumption)) | go_size)) k0
  clear hb1
  exact (Ext.setCell (Ext.setCell hX (by first | (simp [go_sem]; done) | omega | (simp; omega)) _) (by first | (simp [go_sem]; done) | omega | (simp; omega)) _).alloc _
end Go.Proofs.YtaddlhebhiehgaaDoor
