/-
  The walks of package value, ninth part: texts.
-/
import Derived.Test.YtaddlhebhiehgaaDoorVal8
import Derived.Lib.AppendIntMem
namespace Go.Proofs.YtaddlhebhiehgaaDoor
open Go.RowKit Go.Shelf

/-- WHAT OF THE PACKAGE-LEVEL VARIABLES THE WALKS READ: strconv's table and its two errors. -/
structure Glob (w : World) : Prop where
  tab : Lib.TabIs Tryd.prog w "internal/strconv.uint64pow10" .u64 Lib.pow10Tab
  synt : ∃ te pe, w.cell? ⟨0, 0, none⟩ = some (.iface te pe)
  rang : ∃ te pe, w.cell? ⟨1, 0, none⟩ = some (.iface te pe)
theorem cell_lt {w : World} {b o : Nat} {v : Value} (h : w.cell? ⟨b, o, none⟩ = some v) : b < w.heap.size := by
  unfold World.cell? at h
  cases hb : w.heap[b]? with
  | none => rw [hb] at h; simp at h
  | some x => exact (Array.getElem?_eq_some_iff.1 hb).1
theorem Glob.ext {w w' : World} (h : Glob w) (hb : Ext w w') : Glob w' := by
  obtain ⟨t, ⟨a, b, c⟩, d, e, f⟩ := h
  exact ⟨Lib.tabBelow_of_tabIs t w' hb, ⟨a, b, (hb.cell (cell_lt c) 0).trans c⟩, d, e, (hb.cell (cell_lt f) 0).trans f⟩

def nameOf (f : Int) : List UInt8 := if f = 1 then [100, 105, 118] else if f = 2 then [98, 105, 103] else if f = 3 then [105, 110, 100, 101, 120] else if f = 4 then [100, 101, 112, 116, 104] else []
theorem names_any (w : World) : Calls Tryd.prog 57 #[] w fun e w' => e = .returned (.agg #[.string ⟨#[]⟩, .string ⟨#[100, 105, 118]⟩, .string ⟨#[98, 105, 103]⟩, .string ⟨#[105, 110, 100, 101, 120]⟩, .string ⟨#[100, 101, 112, 116, 104]⟩]) ∧ Ext w w' := by
  go_enter Tryd.func57, Tryd.ntmps57
  go_wp2
  refine bodyPost_ret (v := .agg #[.string ⟨#[]⟩, .string ⟨#[100, 105, 118]⟩, .string ⟨#[98, 105, 103]⟩, .string ⟨#[105, 110, 100, 101, 120]⟩, .string ⟨#[100, 101, 112, 116, 104]⟩]) (by simp [results, Tryd.results57, go_sem, *]) rfl ⟨rfl, (by repeat' (first | (with_reducible exact Ext.refl _) | (with_reducible assumption) | (with_reducible refine Ext.alloc ?_ _) | (with_reducible refine Ext.drew ?_) | (with_reducible refine Ext.drewN ?_ _) | (with_reducible refine Ext.setCell ?_ ?_ _) | (with_reducible refine Ext.trans ?_ (by assumption)) | go_size))⟩
theorem itoa_any (n : Int) (h0 : -9223372036854775808 ≤ n) (h1 : n ≤ 9223372036854775807) (w : World) (h : Glob w) : Calls Tryd.prog 58 #[.int .i64 n] w fun e w' => e = .returned (.string ⟨(Lib.itoa n).toArray⟩) ∧ Ext w w' :=
  (Tryd.strconv_Itoa n h0 h1 w h.tab).mono fun _ _ ⟨he, k, os, hw⟩ => ⟨he, hw ▸ Lib.below_grow _ w (Nat.le_refl _) k os⟩

theorem cells_one {w W : World} {x y : Value} {t : TypeId} (h : Ext (w.alloc (.cells #[x, y] t)) W) : W.cell? ⟨w.heap.size, 0, none⟩ = some x ∧ W.cell? ⟨w.heap.size, 1, none⟩ = some y :=
  ⟨(Ext.cell h (by first | (simp; done) | (simp; omega)) 0).trans (by simp [go_sem]), (Ext.cell h (by first | (simp; done) | (simp; omega)) 1).trans (by simp [go_sem])⟩
theorem text_err (f n : Int) (h0 : 0 ≤ f) (h : cellB f n = false) (w : World) : Calls Tryd.prog 26 #[.agg #[.int .u8 f, .int .i64 n]] w fun e w' => e = .returned (.tuple #[.string ⟨#[]⟩, .int .i64 2]) ∧ Ext w w' := by
  have H := fun w' => isCell_any f n h0 w'
  rw [h] at H
  have H := Lib.hid H
  clear h
  go_enter Tryd.func26, Tryd.ntmps26
  go_wp2_with (go_at_call 56; refine (H.out _).mono ?_; rintro e w1 ⟨rfl, hb1⟩; obtain ⟨hc1, hf1, hs1⟩ := hb1.cells; have hz1_0 : w.heap.size < w1.heap.size := (by have h := hb1.le; (try simp at h); omega); have hc1_0 := hb1.cell (b := w.heap.size) (by first | omega | (simp; done) | (simp; omega)); have hf1_0 := hb1.frozen (b := w.heap.size) (by first | omega | (simp; done) | (simp; omega)))
  go_ret2
  exact ⟨rfl, (by repeat' (first | (with_reducible exact Ext.refl _) | (with_reducible assumption) | (with_reducible refine Ext.alloc ?_ _) | (with_reducible refine Ext.drew ?_) | (with_reducible refine Ext.drewN ?_ _) | (with_reducible refine Ext.setCell ?_ ?_ _) | (with_reducible refine Ext.trans ?_ (by assumption)) | go_size))⟩
theorem text_fault (f : Int) (h1 : 1 ≤ f) (h2 : f ≤ 4) (w : World) : Calls Tryd.prog 26 #[.agg #[.int .u8 f, .int .i64 0]] w fun e w' => e = .returned (.tuple #[.string ⟨(nameOf f).toArray⟩, .int .i64 0]) ∧ Ext w w' := by
  have hf : f = 1 ∨ f = 2 ∨ f = 3 ∨ f = 4 := by omega
  have H := fun w' => isCell_any f 0 (by omega) w'
  rw [cellB_bad f (by omega) h2] at H
  have H := Lib.hid H
  clear h1 h2
  rcases hf with rfl | rfl | rfl | rfl
  · have hi : ∀ w, (Instr.index 88 (.agg #[.string ⟨#[]⟩, .string ⟨#[100, 105, 118]⟩, .string ⟨#[98, 105, 103]⟩, .string ⟨#[105, 110, 100, 101, 120]⟩, .string ⟨#[100, 101, 112, 116, 104]⟩]) (.int .u8 1)).run Tryd.prog w = .ok (.string ⟨#[100, 105, 118]⟩) w := fun _ => by kernel_rfl
    go_enter Tryd.func26, Tryd.ntmps26
    go_wp2_with (go_at_call 56; refine (H.out _).mono ?_; rintro e w1 ⟨rfl, hb1⟩; obtain ⟨hc1, hf1, hs1⟩ := hb1.cells; have hz1_0 : w.heap.size < w1.heap.size := (by have h := hb1.le; (try simp at h); omega); have hc1_0 := hb1.cell (b := w.heap.size) (by first | omega | (simp; done) | (simp; omega)); have hf1_0 := hb1.frozen (b := w.heap.size) (by first | omega | (simp; done) | (simp; omega)))
    go_region_held3 (fun W => W.cell? ⟨w.heap.size, 0, none⟩ = some (.int .u8 1)) (first | exact (cells_one (x := .int .u8 1) (y := .int .i64 0) (t := 23) (by repeat' (first | (with_reducible exact Ext.refl _) | (with_reducible assumption) | (with_reducible refine Ext.alloc ?_ _) | (with_reducible refine Ext.drew ?_) | (with_reducible refine Ext.drewN ?_ _) | (with_reducible refine Ext.setCell ?_ ?_ _) | (with_reducible refine Ext.trans ?_ (by assumption)) | go_size))).1) (first | (go_at_call 57; refine (names_any _).mono ?_; rintro e w2 ⟨rfl, hb2⟩; obtain ⟨hc2, hf2, hs2⟩ := hb2.cells; have hz2_0 : w.heap.size < w2.heap.size := (by have h := hb2.le; (try simp at h); omega); have hc2_0 := hb2.cell (b := w.heap.size) (by first | omega | (simp; done) | (simp; omega)); have hf2_0 := hb2.frozen (b := w.heap.size) (by first | omega | (simp; done) | (simp; omega))))
    go_wp2
    go_ret2
    exact ⟨rfl, (by repeat' (first | (with_reducible exact Ext.refl _) | (with_reducible assumption) | (with_reducible refine Ext.alloc ?_ _) | (with_reducible refine Ext.drew ?_) | (with_reducible refine Ext.drewN ?_ _) | (with_reducible refine Ext.setCell ?_ ?_ _) | (with_reducible refine Ext.trans ?_ (by assumption)) | go_size))⟩
  · have hi : ∀ w, (Instr.index 88 (.agg #[.string ⟨#[]⟩, .string ⟨#[100, 105, 118]⟩, .string ⟨#[98, 105, 103]⟩, .string ⟨#[105, 110, 100, 101, 120]⟩, .string ⟨#[100, 101, 112, 116, 104]⟩]) (.int .u8 2)).run Tryd.prog w = .ok (.string ⟨#[98, 105, 103]⟩) w := fun _ => by kernel_rfl
    go_enter Tryd.func26, Tryd.ntmps26
    go_wp2_with (go_at_call 56; refine (H.out _).mono ?_; rintro e w1 ⟨rfl, hb1⟩; obtain ⟨hc1, hf1, hs1⟩ := hb1.cells; have hz1_0 : w.heap.size < w1.heap.size := (by have h := hb1.le; (try simp at h); omega); have hc1_0 := hb1.cell (b := w.heap.size) (by first | omega | (simp; done) | (simp; omega)); have hf1_0 := hb1.frozen (b := w.heap.size) (by first | omega | (simp; done) | (simp; omega)))
    go_region_held3 (fun W => W.cell? ⟨w.heap.size, 0, none⟩ = some (.int .u8 2)) (first | exact (cells_one (x := .int .u8 2) (y := .int .i64 0) (t := 23) (by repeat' (first | (with_reducible exact Ext.refl _) | (with_reducible assumption) | (with_reducible refine Ext.alloc ?_ _) | (with_reducible refine Ext.drew ?_) | (with_reducible refine Ext.drewN ?_ _) | (with_reducible refine Ext.setCell ?_ ?_ _) | (with_reducible refine Ext.trans ?_ (by assumption)) | go_size))).1) (first | (go_at_call 57; refine (names_any _).mono ?_; rintro e w2 ⟨rfl, hb2⟩; obtain ⟨hc2, hf2, hs2⟩ := hb2.cells; have hz2_0 : w.heap.size < w2.heap.size := (by have h := hb2.le; (try simp at h); omega); have hc2_0 := hb2.cell (b := w.heap.size) (by first | omega | (simp; done) | (simp; omega)); have hf2_0 := hb2.frozen (b := w.heap.size) (by first | omega | (simp; done) | (simp; omega))))
    go_wp2
    go_ret2
    exact ⟨rfl, (by repeat' (first | (with_reducible exact Ext.refl _) | (with_reducible assumption) | (with_reducible refine Ext.alloc ?_ _) | (with_reducible refine Ext.drew ?_) | (with_reducible refine Ext.drewN ?_ _) | (with_reducible refine Ext.setCell ?_ ?_ _) | (with_reducible refine Ext.trans ?_ (by assumption)) | go_size))⟩
  · have hi : ∀ w, (Instr.index 88 (.agg #[.string ⟨#[]⟩, .string ⟨#[100, 105, 118]⟩, .string ⟨#[98, 105, 103]⟩, .string ⟨#[105, 110, 100, 101, 120]⟩, .string ⟨#[100, 101, 112, 116, 104]⟩]) (.int .u8 3)).run Tryd.prog w = .ok (.string ⟨#[105, 110, 100, 101, 120]⟩) w := fun _ => by kernel_rfl
    go_enter Tryd.func26, Tryd.ntmps26
    go_wp2_with (go_at_call 56; refine (H.out _).mono ?_; rintro e w1 ⟨rfl, hb1⟩; obtain ⟨hc1, hf1, hs1⟩ := hb1.cells; have hz1_0 : w.heap.size < w1.heap.size := (by have h := hb1.le; (try simp at h); omega); have hc1_0 := hb1.cell (b := w.heap.size) (by first | omega | (simp; done) | (simp; omega)); have hf1_0 := hb1.frozen (b := w.heap.size) (by first | omega | (simp; done) | (simp; omega)))
    go_region_held3 (fun W => W.cell? ⟨w.heap.size, 0, none⟩ = some (.int .u8 3)) (first | exact (cells_one (x := .int .u8 3) (y := .int .i64 0) (t := 23) (by repeat' (first | (with_reducible exact Ext.refl _) | (with_reducible assumption) | (with_reducible refine Ext.alloc ?_ _) | (with_reducible refine Ext.drew ?_) | (with_reducible refine Ext.drewN ?_ _) | (with_reducible refine Ext.setCell ?_ ?_ _) | (with_reducible refine Ext.trans ?_ (by assumption)) | go_size))).1) (first | (go_at_call 57; refine (names_any _).mono ?_; rintro e w2 ⟨rfl, hb2⟩; obtain ⟨hc2, hf2, hs2⟩ := hb2.cells; have hz2_0 : w.heap.size < w2.heap.size := (by have h := hb2.le; (try simp at h); omega); have hc2_0 := hb2.cell (b := w.heap.size) (by first | omega | (simp; done) | (simp; omega)); have hf2_0 := hb2.frozen (b := w.heap.size) (by first | omega | (simp; done) | (simp; omega))))
    go_wp2
    go_ret2
    exact ⟨rfl, (by repeat' (first | (with_reducible exact Ext.refl _) | (with_reducible assumption) | (with_reducible refine Ext.alloc ?_ _) | (with_reducible refine Ext.drew ?_) | (with_reducible refine Ext.drewN ?_ _) | (with_reducible refine Ext.setCell ?_ ?_ _) | (with_reducible refine Ext.trans ?_ (by assumption)) | go_size))⟩
  · have hi : ∀ w, (Instr.index 88 (.agg #[.string ⟨#[]⟩, .string ⟨#[100, 105, 118]⟩, .string ⟨#[98, 105, 103]⟩, .string ⟨#[105, 110, 100, 101, 120]⟩, .string ⟨#[100, 101, 112, 116, 104]⟩]) (.int .u8 4)).run Tryd.prog w = .ok (.string ⟨#[100, 101, 112, 116, 104]⟩) w := fun _ => by kernel_rfl
    go_enter Tryd.func26, Tryd.ntmps26
    go_wp2_with (go_at_call 56; refine (H.out _).mono ?_; rintro e w1 ⟨rfl, hb1⟩; obtain ⟨hc1, hf1, hs1⟩ := hb1.cells; have hz1_0 : w.heap.size < w1.heap.size := (by have h := hb1.le; (try simp at h); omega); have hc1_0 := hb1.cell (b := w.heap.size) (by first | omega | (simp; done) | (simp; omega)); have hf1_0 := hb1.frozen (b := w.heap.size) (by first | omega | (simp; done) | (simp; omega)))
    go_region_held3 (fun W => W.cell? ⟨w.heap.size, 0, none⟩ = some (.int .u8 4)) (first | exact (cells_one (x := .int .u8 4) (y := .int .i64 0) (t := 23) (by repeat' (first | (with_reducible exact Ext.refl _) | (with_reducible assumption) | (with_reducible refine Ext.alloc ?_ _) | (with_reducible refine Ext.drew ?_) | (with_reducible refine Ext.drewN ?_ _) | (with_reducible refine Ext.setCell ?_ ?_ _) | (with_reducible refine Ext.trans ?_ (by assumption)) | go_size))).1) (first | (go_at_call 57; refine (names_any _).mono ?_; rintro e w2 ⟨rfl, hb2⟩; obtain ⟨hc2, hf2, hs2⟩ := hb2.cells; have hz2_0 : w.heap.size < w2.heap.size := (by have h := hb2.le; (try simp at h); omega); have hc2_0 := hb2.cell (b := w.heap.size) (by first | omega | (simp; done) | (simp; omega)); have hf2_0 := hb2.frozen (b := w.heap.size) (by first | omega | (simp; done) | (simp; omega))))
    go_wp2
    go_ret2
    exact ⟨rfl, (by repeat' (first | (with_reducible exact Ext.refl _) | (with_reducible assumption) | (with_reducible refine Ext.alloc ?_ _) | (with_reducible refine Ext.drew ?_) | (with_reducible refine Ext.drewN ?_ _) | (with_reducible refine Ext.setCell ?_ ?_ _) | (with_reducible refine Ext.trans ?_ (by assumption)) | go_size))⟩
theorem text_num (n : Int) (h1 : -9999 ≤ n) (h2 : n ≤ 9999) (w : World) (hg : Glob w) : Calls Tryd.prog 26 #[.agg #[.int .u8 0, .int .i64 n]] w fun e w' => e = .returned (.tuple #[.string ⟨(Lib.itoa n).toArray⟩, .int .i64 0]) ∧ Ext w w' := by
  have H := fun w' => isCell_any 0 n (by omega) w'
  rw [cellB_num n h1 h2] at H
  have H := Lib.hid H
  have H2 := Lib.hid (fun w' h => itoa_any n (by omega) (by omega) w' h)
  go_enter Tryd.func26, Tryd.ntmps26
  go_wp2_with (first | (go_at_call 56; refine (H.out _).mono ?_; rintro e w1 ⟨rfl, hb1⟩; obtain ⟨hc1, hf1, hs1⟩ := hb1.cells; have hz1_0 : w.heap.size < w1.heap.size := (by have h := hb1.le; (try simp at h); omega); have hc1_0 := hb1.cell (b := w.heap.size) (by first | omega | (simp; done) | (simp; omega)); have hf1_0 := hb1.frozen (b := w.heap.size) (by first | omega | (simp; done) | (simp; omega))) | (go_at_call 58; refine (H2.out _ (hg.ext (by repeat' (first | (with_reducible exact Ext.refl _) | (with_reducible assumption) | (with_reducible refine Ext.alloc ?_ _) | (with_reducible refine Ext.drew ?_) | (with_reducible refine Ext.drewN ?_ _) | (with_reducible refine Ext.setCell ?_ ?_ _) | (with_reducible refine Ext.trans ?_ (by assumption)) | go_size)))).mono ?_; rintro e w2 ⟨rfl, hb2⟩; obtain ⟨hc2, hf2, hs2⟩ := hb2.cells; have hz2_0 : w.heap.size < w2.heap.size := (by have h := hb2.le; (try simp at h); omega); have hc2_0 := hb2.cell (b := w.heap.size) (by first | omega | (simp; done) | (simp; omega)); have hf2_0 := hb2.frozen (b := w.heap.size) (by first | omega | (simp; done) | (simp; omega))))
  go_ret2
  exact ⟨rfl, (by repeat' (first | (with_reducible exact Ext.refl _) | (with_reducible assumption) | (with_reducible refine Ext.alloc ?_ _) | (with_reducible refine Ext.drew ?_) | (with_reducible refine Ext.drewN ?_ _) | (with_reducible refine Ext.setCell ?_ ?_ _) | (with_reducible refine Ext.trans ?_ (by assumption)) | go_size))⟩
end Go.Proofs.YtaddlhebhiehgaaDoor
