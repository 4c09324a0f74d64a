/-
  The walks of the reference's Op1, Less and Choose.
-/
import Derived.Test.YtaddlhebhiehgaaDoorRef3
import Derived.Test.YtaddlhebhiehgaaDoorVal10
namespace Go.Proofs.YtaddlhebhiehgaaDoor
open Go.RowKit Go.Shelf

theorem ref1_fault (c f n : Int) (hf : 0 < f) (w : World) :
    Calls Tryd.prog 44 #[.int .u8 c, .agg #[.int .u8 f, .int .i64 n]] w fun e w' => e = .returned (.agg #[.int .u8 f, .int .i64 n]) ∧ Ext w w' := by
  go_enter Tryd.func44, Tryd.ntmps44
  go_wp2
  refine bodyPost_ret (v := .agg #[.int .u8 f, .int .i64 n]) (by simp [results, Tryd.results44, go_sem, *]) rfl ⟨rfl, (by repeat' (first | (with_reducible exact Ext.refl _) | (with_reducible assumption) | (with_reducible refine Ext.alloc ?_ _) | (with_reducible refine Ext.drew ?_) | (with_reducible refine Ext.drewN ?_ _) | (with_reducible refine Ext.setCell ?_ ?_ _) | (with_reducible refine Ext.trans ?_ (by assumption)) | go_size))⟩
theorem ref1_neg (n : Int) (h1 : -9999 ≤ n) (h2 : n ≤ 9999) (w : World) :
    Calls Tryd.prog 44 #[.int .u8 5, .agg #[.int .u8 0, .int .i64 n]] w fun e w' => e = .returned (.agg #[.int .u8 0, .int .i64 (-n)]) ∧ Ext w w' := by
  go_enter Tryd.func44, Tryd.ntmps44
  go_wp2_with (first | (go_at_call 48; refine (refNumber_any _ _).mono ?_; rintro e w1 ⟨rfl, hb1⟩; obtain ⟨hc1, hf1, hs1⟩ := hb1.cells; have hz1_0 : w.heap.size < w1.heap.size := (by have h := hb1.le; (try simp at h); omega); have hc1_0 := hb1.cell (b := w.heap.size) (by first | omega | (simp; done) | (simp; omega)); have hf1_0 := hb1.frozen (b := w.heap.size) (by first | omega | (simp; done) | (simp; omega)); have hz1_1 : w.heap.size + 1 < w1.heap.size := (by have h := hb1.le; (try simp at h); omega); have hc1_1 := hb1.cell (b := w.heap.size + 1) (by first | omega | (simp; done) | (simp; omega)); have hf1_1 := hb1.frozen (b := w.heap.size + 1) (by first | omega | (simp; done) | (simp; omega))))
  refine bodyPost_ret (v := .agg #[.int .u8 0, .int .i64 (-n)]) (by simp [results, Tryd.results44, go_sem, *]) rfl ⟨rfl, (by repeat' (first | (with_reducible exact Ext.refl _) | (with_reducible assumption) | (with_reducible refine Ext.alloc ?_ _) | (with_reducible refine Ext.drew ?_) | (with_reducible refine Ext.drewN ?_ _) | (with_reducible refine Ext.setCell ?_ ?_ _) | (with_reducible refine Ext.trans ?_ (by assumption)) | go_size))⟩
theorem ref1_not (n : Int) (w : World) :
    Calls Tryd.prog 44 #[.int .u8 6, .agg #[.int .u8 0, .int .i64 n]] w fun e w' => e = .returned (.agg #[.int .u8 0, .int .i64 (bit (n == 0))]) ∧ Ext w w' := by
  go_enter Tryd.func44, Tryd.ntmps44
  go_wp2_with (first | (go_at_call 49; refine (refBool_any _ _).mono ?_; rintro e w1 ⟨rfl, hb1⟩; obtain ⟨hc1, hf1, hs1⟩ := hb1.cells; have hz1_0 : w.heap.size < w1.heap.size := (by have h := hb1.le; (try simp at h); omega); have hc1_0 := hb1.cell (b := w.heap.size) (by first | omega | (simp; done) | (simp; omega)); have hf1_0 := hb1.frozen (b := w.heap.size) (by first | omega | (simp; done) | (simp; omega)); have hz1_1 : w.heap.size + 1 < w1.heap.size := (by have h := hb1.le; (try simp at h); omega); have hc1_1 := hb1.cell (b := w.heap.size + 1) (by first | omega | (simp; done) | (simp; omega)); have hf1_1 := hb1.frozen (b := w.heap.size + 1) (by first | omega | (simp; done) | (simp; omega))))
  refine bodyPost_ret (v := .agg #[.int .u8 0, .int .i64 (bit (n == 0))]) (by simp [results, Tryd.results44, go_sem, *]) rfl ⟨rfl, (by repeat' (first | (with_reducible exact Ext.refl _) | (with_reducible assumption) | (with_reducible refine Ext.alloc ?_ _) | (with_reducible refine Ext.drew ?_) | (with_reducible refine Ext.drewN ?_ _) | (with_reducible refine Ext.setCell ?_ ?_ _) | (with_reducible refine Ext.trans ?_ (by assumption)) | go_size))⟩
theorem refLess_any (fa na fb nb : Int) (w : World) :
    Calls Tryd.prog 31 #[.agg #[.int .u8 fa, .int .i64 na], .agg #[.int .u8 fb, .int .i64 nb]] w fun e w' => e = .returned (.bool (lessB fa na fb nb)) ∧ Ext w w' := by
  by_cases h : fa = fb
  · subst h
    rw [show lessB fa na fa nb = decide (na < nb) by simp [lessB]]
    go_enter Tryd.func31, Tryd.ntmps31
    go_wp2
    refine bodyPost_ret (v := .bool (decide (na < nb))) (by simp [results, Tryd.results31, go_sem, *]) rfl ⟨rfl, (by repeat' (first | (with_reducible exact Ext.refl _) | (with_reducible assumption) | (with_reducible refine Ext.alloc ?_ _) | (with_reducible refine Ext.drew ?_) | (with_reducible refine Ext.drewN ?_ _) | (with_reducible refine Ext.setCell ?_ ?_ _) | (with_reducible refine Ext.trans ?_ (by assumption)) | go_size))⟩
  · rw [show lessB fa na fb nb = decide (fa < fb) by
      have hl : (decide (fa = fb)) = false := by simp [h]
      rw [lessB, hl, Bool.false_and, Bool.or_false]]
    have h' : (fa == fb) = false := by simp [h]
    have h'' : (fa != fb) = true := by simp [h]
    go_enter Tryd.func31, Tryd.ntmps31
    go_wp2
    refine bodyPost_ret (v := .bool (decide (fa < fb))) (by simp [results, Tryd.results31, go_sem, *]) rfl ⟨rfl, (by repeat' (first | (with_reducible exact Ext.refl _) | (with_reducible assumption) | (with_reducible refine Ext.alloc ?_ _) | (with_reducible refine Ext.drew ?_) | (with_reducible refine Ext.drewN ?_ _) | (with_reducible refine Ext.setCell ?_ ?_ _) | (with_reducible refine Ext.trans ?_ (by assumption)) | go_size))⟩
theorem refChoose_fault (fa na fb nb fc nc : Int) (hf : 0 < fa) (w : World) :
    Calls Tryd.prog 21 #[.agg #[.int .u8 fa, .int .i64 na], .agg #[.int .u8 fb, .int .i64 nb], .agg #[.int .u8 fc, .int .i64 nc]] w fun e w' => e = .returned (.agg #[.int .u8 fa, .int .i64 na]) ∧ Ext w w' := by
  go_enter Tryd.func21, Tryd.ntmps21
  go_wp2
  refine bodyPost_ret (v := .agg #[.int .u8 fa, .int .i64 na]) (by simp [results, Tryd.results21, go_sem, *]) rfl ⟨rfl, (by repeat' (first | (with_reducible exact Ext.refl _) | (with_reducible assumption) | (with_reducible refine Ext.alloc ?_ _) | (with_reducible refine Ext.drew ?_) | (with_reducible refine Ext.drewN ?_ _) | (with_reducible refine Ext.setCell ?_ ?_ _) | (with_reducible refine Ext.trans ?_ (by assumption)) | go_size))⟩
theorem refChoose_zero (fb nb fc nc : Int) (w : World) :
    Calls Tryd.prog 21 #[.agg #[.int .u8 0, .int .i64 0], .agg #[.int .u8 fb, .int .i64 nb], .agg #[.int .u8 fc, .int .i64 nc]] w fun e w' => e = .returned (.agg #[.int .u8 fc, .int .i64 nc]) ∧ Ext w w' := by
  go_enter Tryd.func21, Tryd.ntmps21
  go_wp2
  refine bodyPost_ret (v := .agg #[.int .u8 fc, .int .i64 nc]) (by simp [results, Tryd.results21, go_sem, *]) rfl ⟨rfl, (by repeat' (first | (with_reducible exact Ext.refl _) | (with_reducible assumption) | (with_reducible refine Ext.alloc ?_ _) | (with_reducible refine Ext.drew ?_) | (with_reducible refine Ext.drewN ?_ _) | (with_reducible refine Ext.setCell ?_ ?_ _) | (with_reducible refine Ext.trans ?_ (by assumption)) | go_size))⟩
theorem refChoose_one (na fb nb fc nc : Int) (h : ¬ na = 0) (w : World) :
    Calls Tryd.prog 21 #[.agg #[.int .u8 0, .int .i64 na], .agg #[.int .u8 fb, .int .i64 nb], .agg #[.int .u8 fc, .int .i64 nc]] w fun e w' => e = .returned (.agg #[.int .u8 fb, .int .i64 nb]) ∧ Ext w w' := by
  have h' : (na == 0) = false := by simp [h]
  go_enter Tryd.func21, Tryd.ntmps21
  go_wp2
  refine bodyPost_ret (v := .agg #[.int .u8 fb, .int .i64 nb]) (by simp [results, Tryd.results21, go_sem, *]) rfl ⟨rfl, (by repeat' (first | (with_reducible exact Ext.refl _) | (with_reducible assumption) | (with_reducible refine Ext.alloc ?_ _) | (with_reducible refine Ext.drew ?_) | (with_reducible refine Ext.drewN ?_ _) | (with_reducible refine Ext.setCell ?_ ?_ _) | (with_reducible refine Ext.trans ?_ (by assumption)) | go_size))⟩
end Go.Proofs.YtaddlhebhiehgaaDoor
