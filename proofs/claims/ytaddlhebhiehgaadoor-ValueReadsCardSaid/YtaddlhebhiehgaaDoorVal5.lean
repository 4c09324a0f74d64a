/-
  The walks of package value, fifth part: operations with two operands.
-/
import Derived.Test.YtaddlhebhiehgaaDoorVal4
namespace Go.Proofs.YtaddlhebhiehgaaDoor
open Go.RowKit Go.Shelf

theorem duoOf_some (c : Int) (h1 : 7 ≤ c) (h2 : c ≤ 14) (w : World) :
    Calls Tryd.prog 45 #[.int .u8 c] w fun e w' => ∃ g a b, e = .returned (.func g a b) ∧ Ext w w' := by
  have h : c = 7 ∨ c = 8 ∨ c = 9 ∨ c = 10 ∨ c = 11 ∨ c = 12 ∨ c = 13 ∨ c = 14 := by omega
  clear h1 h2
  rcases h with rfl | rfl | rfl | rfl | rfl | rfl | rfl | rfl
  all_goals
    go_enter Tryd.func45, Tryd.ntmps45
    go_wp2
    go_returns
    exact ⟨_, _, _, rfl, (by repeat' (first | (with_reducible exact Ext.refl _) | (with_reducible assumption) | (with_reducible refine Ext.alloc ?_ _) | (with_reducible refine Ext.drew ?_) | (with_reducible refine Ext.drewN ?_ _) | (with_reducible refine Ext.setCell ?_ ?_ _) | (with_reducible refine Ext.trans ?_ (by assumption)) | go_size))⟩
theorem duoOf_none (c : Int) (h : c < 7 ∨ 14 < c) (w : World) :
    Calls Tryd.prog 45 #[.int .u8 c] w fun e w' => e = .returned .nilFunc ∧ Ext w w' := by
  have a1 : (c == 7) = false := by simp; omega
  have a2 : (c == 8) = false := by simp; omega
  have a3 : (c == 9) = false := by simp; omega
  have a4 : (c == 10) = false := by simp; omega
  have a5 : (c == 11) = false := by simp; omega
  have a6 : (c == 12) = false := by simp; omega
  have a7 : (c == 13) = false := by simp; omega
  have a8 : (c == 14) = false := by simp; omega
  clear h
  go_enter Tryd.func45, Tryd.ntmps45
  go_wp2
  go_returns
  exact ⟨rfl, (by repeat' (first | (with_reducible exact Ext.refl _) | (with_reducible assumption) | (with_reducible refine Ext.alloc ?_ _) | (with_reducible refine Ext.drew ?_) | (with_reducible refine Ext.drewN ?_ _) | (with_reducible refine Ext.setCell ?_ ?_ _) | (with_reducible refine Ext.trans ?_ (by assumption)) | go_size))⟩

theorem op2_code (c f1 n1 f2 n2 : Int) (h : c < 7 ∨ 16 < c) (w : World) :
    Calls Tryd.prog 14 #[.int .u8 c, .agg #[.int .u8 f1, .int .i64 n1], .agg #[.int .u8 f2, .int .i64 n2]] w fun e w' => e = .returned (.tuple #[.agg #[.int .u8 0, .int .i64 0], .int .i64 2]) ∧ Ext w w' := by
  have a1 : (c == 15) = false := by simp; omega
  have a2 : (c == 16) = false := by simp; omega
  have H := Lib.hid (fun w' => duoOf_none c (by omega) w')
  have sn := duo_nil
  clear h
  go_enter Tryd.func14, Tryd.ntmps14
  go_wp2_with (go_at_call 45; refine (H.out _).mono ?_; rintro e w1 ⟨rfl, hb1⟩; obtain ⟨hc1, hf1, hs1⟩ := hb1.cells; have hz1_0 : w.heap.size < w1.heap.size := (by have h := hb1.le; (try simp at h); omega); have hc1_0 := hb1.cell (b := w.heap.size) (by first | omega | (simp; done) | (simp; omega)); have hf1_0 := hb1.frozen (b := w.heap.size) (by first | omega | (simp; done) | (simp; omega)); have hz1_1 : w.heap.size + 1 < w1.heap.size := (by have h := hb1.le; (try simp at h); omega); have hc1_1 := hb1.cell (b := w.heap.size + 1) (by first | omega | (simp; done) | (simp; omega)); have hf1_1 := hb1.frozen (b := w.heap.size + 1) (by first | omega | (simp; done) | (simp; omega)); have hz1_2 : w.heap.size + 2 < w1.heap.size := (by have h := hb1.le; (try simp at h); omega); have hc1_2 := hb1.cell (b := w.heap.size + 2) (by first | omega | (simp; done) | (simp; omega)); have hf1_2 := hb1.frozen (b := w.heap.size + 2) (by first | omega | (simp; done) | (simp; omega)))
  refine bodyPost_ret (v := .tuple #[.agg #[.int .u8 0, .int .i64 0], .int .i64 2]) (by simp [results, Tryd.results14, go_sem, *]) rfl ⟨rfl, (by repeat' (first | (with_reducible exact Ext.refl _) | (with_reducible assumption) | (with_reducible refine Ext.alloc ?_ _) | (with_reducible refine Ext.drew ?_) | (with_reducible refine Ext.drewN ?_ _) | (with_reducible refine Ext.setCell ?_ ?_ _) | (with_reducible refine Ext.trans ?_ (by assumption)) | go_size))⟩
theorem op2_cells (c f1 n1 f2 n2 : Int) (h1 : 7 ≤ c) (h2 : c ≤ 14) (g1 : 0 ≤ f1) (g2 : 0 ≤ f2) (h : (cellB f1 n1 && cellB f2 n2) = false) (w : World) :
    Calls Tryd.prog 14 #[.int .u8 c, .agg #[.int .u8 f1, .int .i64 n1], .agg #[.int .u8 f2, .int .i64 n2]] w fun e w' => e = .returned (.tuple #[.agg #[.int .u8 0, .int .i64 0], .int .i64 2]) ∧ Ext w w' := by
  have a1 : (c == 15) = false := by simp; omega
  have a2 : (c == 16) = false := by simp; omega
  have H := Lib.hid (fun w' => duoOf_some c (by omega) (by omega) w')
  have H2 := fun b w' h => areCells_some b 0 2 2 [(f1, n1), (f2, n2)] w' rfl (by omega) h
  rw [show allB [(f1, n1), (f2, n2)] = false by simpa [allB] using h] at H2
  have H2 := Lib.hid H2
  have sn := duo_some
  clear h h1 h2
  go_enter Tryd.func14, Tryd.ntmps14
  go_wp2_with (first | (go_at_call 45; refine (H.out _).mono ?_; rintro e w1 ⟨gg, ga, gb, rfl, hb1⟩; obtain ⟨hc1, hf1, hs1⟩ := hb1.cells; have hz1_0 : w.heap.size < w1.heap.size := (by have h := hb1.le; (try simp at h); omega); have hc1_0 := hb1.cell (b := w.heap.size) (by first | omega | (simp; done) | (simp; omega)); have hf1_0 := hb1.frozen (b := w.heap.size) (by first | omega | (simp; done) | (simp; omega)); have hz1_1 : w.heap.size + 1 < w1.heap.size := (by have h := hb1.le; (try simp at h); omega); have hc1_1 := hb1.cell (b := w.heap.size + 1) (by first | omega | (simp; done) | (simp; omega)); have hf1_1 := hb1.frozen (b := w.heap.size + 1) (by first | omega | (simp; done) | (simp; omega)); have hz1_2 : w.heap.size + 2 < w1.heap.size := (by have h := hb1.le; (try simp at h); omega); have hc1_2 := hb1.cell (b := w.heap.size + 2) (by first | omega | (simp; done) | (simp; omega)); have hf1_2 := hb1.frozen (b := w.heap.size + 2) (by first | omega | (simp; done) | (simp; omega))) | (go_at_call 46; refine (H2.out _ _ (lies2 _ _ _ _ _ _ g1 g2 _ (by simp))).mono ?_; rintro e w2 ⟨rfl, hb2⟩; obtain ⟨hc2, hf2, hs2⟩ := hb2.cells; have hz2_0 : w.heap.size < w2.heap.size := (by have h := hb2.le; (try simp at h); omega); have hc2_0 := hb2.cell (b := w.heap.size) (by first | omega | (simp; done) | (simp; omega)); have hf2_0 := hb2.frozen (b := w.heap.size) (by first | omega | (simp; done) | (simp; omega)); have hz2_1 : w.heap.size + 1 < w2.heap.size := (by have h := hb2.le; (try simp at h); omega); have hc2_1 := hb2.cell (b := w.heap.size + 1) (by first | omega | (simp; done) | (simp; omega)); have hf2_1 := hb2.frozen (b := w.heap.size + 1) (by first | omega | (simp; done) | (simp; omega)); have hz2_2 : w.heap.size + 2 < w2.heap.size := (by have h := hb2.le; (try simp at h); omega); have hc2_2 := hb2.cell (b := w.heap.size + 2) (by first | omega | (simp; done) | (simp; omega)); have hf2_2 := hb2.frozen (b := w.heap.size + 2) (by first | omega | (simp; done) | (simp; omega))))
  refine bodyPost_ret (v := .tuple #[.agg #[.int .u8 0, .int .i64 0], .int .i64 2]) (by simp [results, Tryd.results14, go_sem, *]) rfl ⟨rfl, (by repeat' (first | (with_reducible exact Ext.refl _) | (with_reducible assumption) | (with_reducible refine Ext.alloc ?_ _) | (with_reducible refine Ext.drew ?_) | (with_reducible refine Ext.drewN ?_ _) | (with_reducible refine Ext.setCell ?_ ?_ _) | (with_reducible refine Ext.trans ?_ (by assumption)) | go_size))⟩
theorem op2_faultA (c f1 n1 f2 n2 : Int) (h1 : 7 ≤ c) (h2 : c ≤ 14) (g1 : 0 ≤ f1) (g2 : 0 ≤ f2) (c1 : cellB f1 n1 = true) (c2 : cellB f2 n2 = true) (hf : ¬ f1 = 0) (w : World) :
    Calls Tryd.prog 14 #[.int .u8 c, .agg #[.int .u8 f1, .int .i64 n1], .agg #[.int .u8 f2, .int .i64 n2]] w fun e w' => e = .returned (.tuple #[.agg #[.int .u8 f1, .int .i64 n1], .int .i64 0]) ∧ Ext w w' := by
  have a1 : (c == 15) = false := by simp; omega
  have a2 : (c == 16) = false := by simp; omega
  have H := Lib.hid (fun w' => duoOf_some c (by omega) (by omega) w')
  have H2 := fun b w' h => areCells_some b 0 2 2 [(f1, n1), (f2, n2)] w' rfl (by omega) h
  rw [show allB [(f1, n1), (f2, n2)] = true by simp [allB, c1, c2]] at H2
  have H2 := Lib.hid H2
  have H3 := Lib.hid (fun b w' hl => firstFault_yes b 0 2 2 [(f1, n1), (f2, n2)] w' rfl (by omega) hl 0 f1 n1 (by simp) rfl hf (fun j hj => absurd hj (Nat.not_lt_zero _)))
  have sn := duo_some
  clear h1 h2 c1 c2 hf
  go_enter Tryd.func14, Tryd.ntmps14
  go_wp2_with (first | (go_at_call 45; refine (H.out _).mono ?_; rintro e w1 ⟨gg, ga, gb, rfl, hb1⟩; obtain ⟨hc1, hf1, hs1⟩ := hb1.cells; have hz1_0 : w.heap.size < w1.heap.size := (by have h := hb1.le; (try simp at h); omega); have hc1_0 := hb1.cell (b := w.heap.size) (by first | omega | (simp; done) | (simp; omega)); have hf1_0 := hb1.frozen (b := w.heap.size) (by first | omega | (simp; done) | (simp; omega)); have hz1_1 : w.heap.size + 1 < w1.heap.size := (by have h := hb1.le; (try simp at h); omega); have hc1_1 := hb1.cell (b := w.heap.size + 1) (by first | omega | (simp; done) | (simp; omega)); have hf1_1 := hb1.frozen (b := w.heap.size + 1) (by first | omega | (simp; done) | (simp; omega)); have hz1_2 : w.heap.size + 2 < w1.heap.size := (by have h := hb1.le; (try simp at h); omega); have hc1_2 := hb1.cell (b := w.heap.size + 2) (by first | omega | (simp; done) | (simp; omega)); have hf1_2 := hb1.frozen (b := w.heap.size + 2) (by first | omega | (simp; done) | (simp; omega))) | (go_at_call 46; refine (H2.out _ _ (lies2 _ _ _ _ _ _ g1 g2 _ (by simp))).mono ?_; rintro e w2 ⟨rfl, hb2⟩; obtain ⟨hc2, hf2, hs2⟩ := hb2.cells; have hz2_0 : w.heap.size < w2.heap.size := (by have h := hb2.le; (try simp at h); omega); have hc2_0 := hb2.cell (b := w.heap.size) (by first | omega | (simp; done) | (simp; omega)); have hf2_0 := hb2.frozen (b := w.heap.size) (by first | omega | (simp; done) | (simp; omega)); have hz2_1 : w.heap.size + 1 < w2.heap.size := (by have h := hb2.le; (try simp at h); omega); have hc2_1 := hb2.cell (b := w.heap.size + 1) (by first | omega | (simp; done) | (simp; omega)); have hf2_1 := hb2.frozen (b := w.heap.size + 1) (by first | omega | (simp; done) | (simp; omega)); have hz2_2 : w.heap.size + 2 < w2.heap.size := (by have h := hb2.le; (try simp at h); omega); have hc2_2 := hb2.cell (b := w.heap.size + 2) (by first | omega | (simp; done) | (simp; omega)); have hf2_2 := hb2.frozen (b := w.heap.size + 2) (by first | omega | (simp; done) | (simp; omega))) | (go_at_call 47; refine (H3.out _ _ (lies2 _ _ _ _ _ _ g1 g2 _ (by simp))).mono ?_; rintro e w3 ⟨rfl, hb3⟩; obtain ⟨hc3, hf3, hs3⟩ := hb3.cells; have hz3_0 : w.heap.size < w3.heap.size := (by have h := hb3.le; (try simp at h); omega); have hc3_0 := hb3.cell (b := w.heap.size) (by first | omega | (simp; done) | (simp; omega)); have hf3_0 := hb3.frozen (b := w.heap.size) (by first | omega | (simp; done) | (simp; omega)); have hz3_1 : w.heap.size + 1 < w3.heap.size := (by have h := hb3.le; (try simp at h); omega); have hc3_1 := hb3.cell (b := w.heap.size + 1) (by first | omega | (simp; done) | (simp; omega)); have hf3_1 := hb3.frozen (b := w.heap.size + 1) (by first | omega | (simp; done) | (simp; omega)); have hz3_2 : w.heap.size + 2 < w3.heap.size := (by have h := hb3.le; (try simp at h); omega); have hc3_2 := hb3.cell (b := w.heap.size + 2) (by first | omega | (simp; done) | (simp; omega)); have hf3_2 := hb3.frozen (b := w.heap.size + 2) (by first | omega | (simp; done) | (simp; omega))))
  refine bodyPost_ret (v := .tuple #[.agg #[.int .u8 f1, .int .i64 n1], .int .i64 0]) (by simp [results, Tryd.results14, go_sem, *]) rfl ⟨rfl, (by repeat' (first | (with_reducible exact Ext.refl _) | (with_reducible assumption) | (with_reducible refine Ext.alloc ?_ _) | (with_reducible refine Ext.drew ?_) | (with_reducible refine Ext.drewN ?_ _) | (with_reducible refine Ext.setCell ?_ ?_ _) | (with_reducible refine Ext.trans ?_ (by assumption)) | go_size))⟩
theorem op2_faultB (c n1 f2 n2 : Int) (h1 : 7 ≤ c) (h2 : c ≤ 14) (g2 : 0 ≤ f2) (c1 : cellB 0 n1 = true) (c2 : cellB f2 n2 = true) (hf : ¬ f2 = 0) (w : World) :
    Calls Tryd.prog 14 #[.int .u8 c, .agg #[.int .u8 0, .int .i64 n1], .agg #[.int .u8 f2, .int .i64 n2]] w fun e w' => e = .returned (.tuple #[.agg #[.int .u8 f2, .int .i64 n2], .int .i64 0]) ∧ Ext w w' := by
  have a1 : (c == 15) = false := by simp; omega
  have a2 : (c == 16) = false := by simp; omega
  have H := Lib.hid (fun w' => duoOf_some c (by omega) (by omega) w')
  have H2 := fun b w' h => areCells_some b 0 2 2 [(0, n1), (f2, n2)] w' rfl (by omega) h
  rw [show allB [(0, n1), (f2, n2)] = true by simp [allB, c1, c2]] at H2
  have H2 := Lib.hid H2
  have H3 := Lib.hid (fun b w' hl => firstFault_yes b 0 2 2 [(0, n1), (f2, n2)] w' rfl (by omega) hl 1 f2 n2 (by simp) rfl hf (fun j hj => by obtain rfl : j = 0 := (by omega); rfl))
  have sn := duo_some
  have g1 : (0 : Int) ≤ 0 := by omega
  clear h1 h2 c1 c2 hf
  go_enter Tryd.func14, Tryd.ntmps14
  go_wp2_with (first | (go_at_call 45; refine (H.out _).mono ?_; rintro e w1 ⟨gg, ga, gb, rfl, hb1⟩; obtain ⟨hc1, hf1, hs1⟩ := hb1.cells; have hz1_0 : w.heap.size < w1.heap.size := (by have h := hb1.le; (try simp at h); omega); have hc1_0 := hb1.cell (b := w.heap.size) (by first | omega | (simp; done) | (simp; omega)); have hf1_0 := hb1.frozen (b := w.heap.size) (by first | omega | (simp; done) | (simp; omega)); have hz1_1 : w.heap.size + 1 < w1.heap.size := (by have h := hb1.le; (try simp at h); omega); have hc1_1 := hb1.cell (b := w.heap.size + 1) (by first | omega | (simp; done) | (simp; omega)); have hf1_1 := hb1.frozen (b := w.heap.size + 1) (by first | omega | (simp; done) | (simp; omega)); have hz1_2 : w.heap.size + 2 < w1.heap.size := (by have h := hb1.le; (try simp at h); omega); have hc1_2 := hb1.cell (b := w.heap.size + 2) (by first | omega | (simp; done) | (simp; omega)); have hf1_2 := hb1.frozen (b := w.heap.size + 2) (by first | omega | (simp; done) | (simp; omega))) | (go_at_call 46; refine (H2.out _ _ (lies2 _ _ _ _ _ _ g1 g2 _ (by simp))).mono ?_; rintro e w2 ⟨rfl, hb2⟩; obtain ⟨hc2, hf2, hs2⟩ := hb2.cells; have hz2_0 : w.heap.size < w2.heap.size := (by have h := hb2.le; (try simp at h); omega); have hc2_0 := hb2.cell (b := w.heap.size) (by first | omega | (simp; done) | (simp; omega)); have hf2_0 := hb2.frozen (b := w.heap.size) (by first | omega | (simp; done) | (simp; omega)); have hz2_1 : w.heap.size + 1 < w2.heap.size := (by have h := hb2.le; (try simp at h); omega); have hc2_1 := hb2.cell (b := w.heap.size + 1) (by first | omega | (simp; done) | (simp; omega)); have hf2_1 := hb2.frozen (b := w.heap.size + 1) (by first | omega | (simp; done) | (simp; omega)); have hz2_2 : w.heap.size + 2 < w2.heap.size := (by have h := hb2.le; (try simp at h); omega); have hc2_2 := hb2.cell (b := w.heap.size + 2) (by first | omega | (simp; done) | (simp; omega)); have hf2_2 := hb2.frozen (b := w.heap.size + 2) (by first | omega | (simp; done) | (simp; omega))) | (go_at_call 47; refine (H3.out _ _ (lies2 _ _ _ _ _ _ g1 g2 _ (by simp))).mono ?_; rintro e w3 ⟨rfl, hb3⟩; obtain ⟨hc3, hf3, hs3⟩ := hb3.cells; have hz3_0 : w.heap.size < w3.heap.size := (by have h := hb3.le; (try simp at h); omega); have hc3_0 := hb3.cell (b := w.heap.size) (by first | omega | (simp; done) | (simp; omega)); have hf3_0 := hb3.frozen (b := w.heap.size) (by first | omega | (simp; done) | (simp; omega)); have hz3_1 : w.heap.size + 1 < w3.heap.size := (by have h := hb3.le; (try simp at h); omega); have hc3_1 := hb3.cell (b := w.heap.size + 1) (by first | omega | (simp; done) | (simp; omega)); have hf3_1 := hb3.frozen (b := w.heap.size + 1) (by first | omega | (simp; done) | (simp; omega)); have hz3_2 : w.heap.size + 2 < w3.heap.size := (by have h := hb3.le; (try simp at h); omega); have hc3_2 := hb3.cell (b := w.heap.size + 2) (by first | omega | (simp; done) | (simp; omega)); have hf3_2 := hb3.frozen (b := w.heap.size + 2) (by first | omega | (simp; done) | (simp; omega))))
  refine bodyPost_ret (v := .tuple #[.agg #[.int .u8 f2, .int .i64 n2], .int .i64 0]) (by simp [results, Tryd.results14, go_sem, *]) rfl ⟨rfl, (by repeat' (first | (with_reducible exact Ext.refl _) | (with_reducible assumption) | (with_reducible refine Ext.alloc ?_ _) | (with_reducible refine Ext.drew ?_) | (with_reducible refine Ext.drewN ?_ _) | (with_reducible refine Ext.setCell ?_ ?_ _) | (with_reducible refine Ext.trans ?_ (by assumption)) | go_size))⟩
end Go.Proofs.YtaddlhebhiehgaaDoor
