/-
  ValueOnes: the walk.
-/
import Derived.Test.YtaddlhebhiehgaaDoorKnown2
import Derived.Test.YtaddlhebhiehgaaDoorRef4
namespace Go.Proofs.YtaddlhebhiehgaaDoor.lawOnes
open Go.RowKit Go.Shelf

set_option maxRecDepth 100000
set_option maxHeartbeats 1000000
/-- The law's way where an error is due. -/
theorem walk_err (f n m c : Int) (h0 : 0 ≤ f) (w : World) (hg : Glob w)
    (H : Hid (∀ w', Calls Tryd.prog 41 #[.int .u8 c, .agg #[.int .u8 f, .int .i64 n]] w' fun e w'' => e = .returned (.tuple #[.agg #[.int .u8 0, .int .i64 0], .int .i64 2]) ∧ Ext w' w''))
    (hno : cellB f n = false ∨ (¬ c = 5 ∧ ¬ c = 6)) :
    Calls Tryd.prog 13 #[.agg #[.int .u8 f, .int .i64 n], .int .i64 m, .int .u8 c] w fun e w' => e = .returned (.bool true) ∧ Ext w w' := by
  have HC := fun w' => check_any f n h0 w'
  have HI := fun w' => refIs_any f n h0 w'
  have HM := Lib.hid (fun w' => make_any m w')
  have HN := Lib.hid (fun w' => refMake_any m w')
  generalize mkF m = mf at HM HN
  generalize mkN m = mn at HM HN
  cases e1 : cellB f n with
  | false =>
    rw [e1] at HI HC
    rw [if_neg (by simp)] at HC
    replace HI := Lib.hid HI
    replace HC := Lib.hid HC
    clear hno e1
    go_enter Tryd.func13, Tryd.ntmps13
    go_wp2_with (first | (go_at_call 40; refine (HC.out _).mono ?_; rintro e w1 ⟨rfl, hb1⟩; obtain ⟨hc1, hf1, hs1⟩ := hb1.cells; have hz1_0 : w.heap.size < w1.heap.size := (by have h := hb1.le; (try simp at h); omega); have hc1_0 := hb1.cell (b := w.heap.size) (by first | omega | (simp; done) | (simp; omega)); have hf1_0 := hb1.frozen (b := w.heap.size) (by first | omega | (simp; done) | (simp; omega))) | (go_at_call 41; refine (H.out _).mono ?_; rintro e w2 ⟨rfl, hb2⟩; obtain ⟨hc2, hf2, hs2⟩ := hb2.cells; have hz2_0 : w.heap.size < w2.heap.size := (by have h := hb2.le; (try simp at h); omega); have hc2_0 := hb2.cell (b := w.heap.size) (by first | omega | (simp; done) | (simp; omega)); have hf2_0 := hb2.frozen (b := w.heap.size) (by first | omega | (simp; done) | (simp; omega))) | (go_at_call 42; refine (HM.out _).mono ?_; rintro e w3 ⟨rfl, hb3⟩; obtain ⟨hc3, hf3, hs3⟩ := hb3.cells; have hz3_0 : w.heap.size < w3.heap.size := (by have h := hb3.le; (try simp at h); omega); have hc3_0 := hb3.cell (b := w.heap.size) (by first | omega | (simp; done) | (simp; omega)); have hf3_0 := hb3.frozen (b := w.heap.size) (by first | omega | (simp; done) | (simp; omega))) | (go_at_call 43; refine (HN.out _).mono ?_; rintro e w4 ⟨rfl, hb4⟩; obtain ⟨hc4, hf4, hs4⟩ := hb4.cells; have hz4_0 : w.heap.size < w4.heap.size := (by have h := hb4.le; (try simp at h); omega); have hc4_0 := hb4.cell (b := w.heap.size) (by first | omega | (simp; done) | (simp; omega)); have hf4_0 := hb4.frozen (b := w.heap.size) (by first | omega | (simp; done) | (simp; omega))) | (go_at_call 15; refine (HI.out _).mono ?_; rintro e w5 ⟨rfl, hb5⟩; obtain ⟨hc5, hf5, hs5⟩ := hb5.cells; have hz5_0 : w.heap.size < w5.heap.size := (by have h := hb5.le; (try simp at h); omega); have hc5_0 := hb5.cell (b := w.heap.size) (by first | omega | (simp; done) | (simp; omega)); have hf5_0 := hb5.frozen (b := w.heap.size) (by first | omega | (simp; done) | (simp; omega))))
    have KS := Lib.hid (fun (W : World) (h : Ext (w2.alloc (.cells #[.int .u8 0, .int .i64 0] 23)) W) => cells_one h)
    have hfin := Lib.hid (show Ext w w5 from (by repeat' (first | (with_reducible exact Ext.refl _) | (with_reducible assumption) | (with_reducible refine Ext.alloc ?_ _) | (with_reducible refine Ext.drew ?_) | (with_reducible refine Ext.drewN ?_ _) | (with_reducible refine Ext.setCell ?_ ?_ _) | (with_reducible refine Ext.trans ?_ (by assumption)) | go_size)))
    go_region_held3 (fun W => W.cell? ⟨w2.heap.size, 0, none⟩ = some (.int .u8 0) ∧ W.cell? ⟨w2.heap.size, 1, none⟩ = some (.int .i64 0)) (first | exact KS.out _ (by repeat' (first | (with_reducible exact Ext.refl _) | (with_reducible assumption) | (with_reducible refine Ext.alloc ?_ _) | (with_reducible refine Ext.drew ?_) | (with_reducible refine Ext.drewN ?_ _) | (with_reducible refine Ext.setCell ?_ ?_ _) | (with_reducible refine Ext.trans ?_ (by assumption)) | go_size))) (first | (go_at_call 16; refine (num_any _ _).mono ?_; rintro e x1 ⟨rfl, y1⟩) | (go_at_call 17; refine (known_any _ (hg.ext (hfin.out.trans (by repeat' (first | (with_reducible exact Ext.refl _) | (with_reducible assumption) | (with_reducible refine Ext.alloc ?_ _) | (with_reducible refine Ext.drew ?_) | (with_reducible refine Ext.drewN ?_ _) | (with_reducible refine Ext.setCell ?_ ?_ _) | (with_reducible refine Ext.trans ?_ (by assumption)) | go_size))))).mono ?_; rintro e x2 ⟨rfl, y2⟩))
    go_wp2
    go_returns
    exact ⟨rfl, Ext.trans hfin.out (by repeat' (first | (with_reducible exact Ext.refl _) | (with_reducible assumption) | (with_reducible refine Ext.alloc ?_ _) | (with_reducible refine Ext.drew ?_) | (with_reducible refine Ext.drewN ?_ _) | (with_reducible refine Ext.setCell ?_ ?_ _) | (with_reducible refine Ext.trans ?_ (by assumption)) | go_size))⟩
  | true =>
    rw [e1] at HI HC
    rw [if_pos rfl] at HC
    replace HI := Lib.hid HI
    replace HC := Lib.hid HC
    obtain ⟨n5, n6⟩ : ¬ c = 5 ∧ ¬ c = 6 := by
      rcases hno with h | h
      · rw [e1] at h; cases h
      · exact h
    have c5 : (c != 5) = true := by simp [n5]
    have c6 : (c != 6) = true := by simp [n6]
    clear hno e1 n5 n6
    go_enter Tryd.func13, Tryd.ntmps13
    go_wp2_with (first | (go_at_call 40; refine (HC.out _).mono ?_; rintro e w1 ⟨rfl, hb1⟩; obtain ⟨hc1, hf1, hs1⟩ := hb1.cells; have hz1_0 : w.heap.size < w1.heap.size := (by have h := hb1.le; (try simp at h); omega); have hc1_0 := hb1.cell (b := w.heap.size) (by first | omega | (simp; done) | (simp; omega)); have hf1_0 := hb1.frozen (b := w.heap.size) (by first | omega | (simp; done) | (simp; omega))) | (go_at_call 41; refine (H.out _).mono ?_; rintro e w2 ⟨rfl, hb2⟩; obtain ⟨hc2, hf2, hs2⟩ := hb2.cells; have hz2_0 : w.heap.size < w2.heap.size := (by have h := hb2.le; (try simp at h); omega); have hc2_0 := hb2.cell (b := w.heap.size) (by first | omega | (simp; done) | (simp; omega)); have hf2_0 := hb2.frozen (b := w.heap.size) (by first | omega | (simp; done) | (simp; omega))) | (go_at_call 42; refine (HM.out _).mono ?_; rintro e w3 ⟨rfl, hb3⟩; obtain ⟨hc3, hf3, hs3⟩ := hb3.cells; have hz3_0 : w.heap.size < w3.heap.size := (by have h := hb3.le; (try simp at h); omega); have hc3_0 := hb3.cell (b := w.heap.size) (by first | omega | (simp; done) | (simp; omega)); have hf3_0 := hb3.frozen (b := w.heap.size) (by first | omega | (simp; done) | (simp; omega))) | (go_at_call 43; refine (HN.out _).mono ?_; rintro e w4 ⟨rfl, hb4⟩; obtain ⟨hc4, hf4, hs4⟩ := hb4.cells; have hz4_0 : w.heap.size < w4.heap.size := (by have h := hb4.le; (try simp at h); omega); have hc4_0 := hb4.cell (b := w.heap.size) (by first | omega | (simp; done) | (simp; omega)); have hf4_0 := hb4.frozen (b := w.heap.size) (by first | omega | (simp; done) | (simp; omega))) | (go_at_call 15; refine (HI.out _).mono ?_; rintro e w5 ⟨rfl, hb5⟩; obtain ⟨hc5, hf5, hs5⟩ := hb5.cells; have hz5_0 : w.heap.size < w5.heap.size := (by have h := hb5.le; (try simp at h); omega); have hc5_0 := hb5.cell (b := w.heap.size) (by first | omega | (simp; done) | (simp; omega)); have hf5_0 := hb5.frozen (b := w.heap.size) (by first | omega | (simp; done) | (simp; omega))))
    have KS := Lib.hid (fun (W : World) (h : Ext (w2.alloc (.cells #[.int .u8 0, .int .i64 0] 23)) W) => cells_one h)
    have hfin := Lib.hid (show Ext w w5 from (by repeat' (first | (with_reducible exact Ext.refl _) | (with_reducible assumption) | (with_reducible refine Ext.alloc ?_ _) | (with_reducible refine Ext.drew ?_) | (with_reducible refine Ext.drewN ?_ _) | (with_reducible refine Ext.setCell ?_ ?_ _) | (with_reducible refine Ext.trans ?_ (by assumption)) | go_size)))
    go_region_held3 (fun W => W.cell? ⟨w2.heap.size, 0, none⟩ = some (.int .u8 0) ∧ W.cell? ⟨w2.heap.size, 1, none⟩ = some (.int .i64 0)) (first | exact KS.out _ (by repeat' (first | (with_reducible exact Ext.refl _) | (with_reducible assumption) | (with_reducible refine Ext.alloc ?_ _) | (with_reducible refine Ext.drew ?_) | (with_reducible refine Ext.drewN ?_ _) | (with_reducible refine Ext.setCell ?_ ?_ _) | (with_reducible refine Ext.trans ?_ (by assumption)) | go_size))) (first | (go_at_call 16; refine (num_any _ _).mono ?_; rintro e x1 ⟨rfl, y1⟩) | (go_at_call 17; refine (known_any _ (hg.ext (hfin.out.trans (by repeat' (first | (with_reducible exact Ext.refl _) | (with_reducible assumption) | (with_reducible refine Ext.alloc ?_ _) | (with_reducible refine Ext.drew ?_) | (with_reducible refine Ext.drewN ?_ _) | (with_reducible refine Ext.setCell ?_ ?_ _) | (with_reducible refine Ext.trans ?_ (by assumption)) | go_size))))).mono ?_; rintro e x2 ⟨rfl, y2⟩))
    go_wp2
    go_returns
    exact ⟨rfl, Ext.trans hfin.out (by repeat' (first | (with_reducible exact Ext.refl _) | (with_reducible assumption) | (with_reducible refine Ext.alloc ?_ _) | (with_reducible refine Ext.drew ?_) | (with_reducible refine Ext.drewN ?_ _) | (with_reducible refine Ext.setCell ?_ ?_ _) | (with_reducible refine Ext.trans ?_ (by assumption)) | go_size))⟩

/-- The law's way where no error is due: the reference makes the same. -/
theorem walk_ok (f n m c rf rn : Int) (h0 : 0 ≤ f) (w : World) (hg : Glob w)
    (H : Hid (∀ w', Calls Tryd.prog 41 #[.int .u8 c, .agg #[.int .u8 f, .int .i64 n]] w' fun e w'' => e = .returned (.tuple #[.agg #[.int .u8 rf, .int .i64 rn], .int .i64 0]) ∧ Ext w' w''))
    (HR : Hid (∀ w', Calls Tryd.prog 44 #[.int .u8 c, .agg #[.int .u8 f, .int .i64 n]] w' fun e w'' => e = .returned (.agg #[.int .u8 rf, .int .i64 rn]) ∧ Ext w' w''))
    (e1 : cellB f n = true) (hc : c = 5 ∨ c = 6) :
    Calls Tryd.prog 13 #[.agg #[.int .u8 f, .int .i64 n], .int .i64 m, .int .u8 c] w fun e w' => e = .returned (.bool true) ∧ Ext w w' := by
  have HC := fun w' => check_any f n h0 w'
  have HI := fun w' => refIs_any f n h0 w'
  have HM := Lib.hid (fun w' => make_any m w')
  have HN := Lib.hid (fun w' => refMake_any m w')
  generalize mkF m = mf at HM HN
  generalize mkN m = mn at HM HN
  rw [e1] at HI HC
  rw [if_pos rfl] at HC
  replace HI := Lib.hid HI
  replace HC := Lib.hid HC
  clear e1
  rcases hc with rfl | rfl
  all_goals
    go_enter Tryd.func13, Tryd.ntmps13
    go_wp2_with (first | (go_at_call 40; refine (HC.out _).mono ?_; rintro e w1 ⟨rfl, hb1⟩; obtain ⟨hc1, hf1, hs1⟩ := hb1.cells; have hz1_0 : w.heap.size < w1.heap.size := (by have h := hb1.le; (try simp at h); omega); have hc1_0 := hb1.cell (b := w.heap.size) (by first | omega | (simp; done) | (simp; omega)); have hf1_0 := hb1.frozen (b := w.heap.size) (by first | omega | (simp; done) | (simp; omega))) | (go_at_call 41; refine (H.out _).mono ?_; rintro e w2 ⟨rfl, hb2⟩; obtain ⟨hc2, hf2, hs2⟩ := hb2.cells; have hz2_0 : w.heap.size < w2.heap.size := (by have h := hb2.le; (try simp at h); omega); have hc2_0 := hb2.cell (b := w.heap.size) (by first | omega | (simp; done) | (simp; omega)); have hf2_0 := hb2.frozen (b := w.heap.size) (by first | omega | (simp; done) | (simp; omega))) | (go_at_call 42; refine (HM.out _).mono ?_; rintro e w3 ⟨rfl, hb3⟩; obtain ⟨hc3, hf3, hs3⟩ := hb3.cells; have hz3_0 : w.heap.size < w3.heap.size := (by have h := hb3.le; (try simp at h); omega); have hc3_0 := hb3.cell (b := w.heap.size) (by first | omega | (simp; done) | (simp; omega)); have hf3_0 := hb3.frozen (b := w.heap.size) (by first | omega | (simp; done) | (simp; omega))) | (go_at_call 43; refine (HN.out _).mono ?_; rintro e w4 ⟨rfl, hb4⟩; obtain ⟨hc4, hf4, hs4⟩ := hb4.cells; have hz4_0 : w.heap.size < w4.heap.size := (by have h := hb4.le; (try simp at h); omega); have hc4_0 := hb4.cell (b := w.heap.size) (by first | omega | (simp; done) | (simp; omega)); have hf4_0 := hb4.frozen (b := w.heap.size) (by first | omega | (simp; done) | (simp; omega))) | (go_at_call 15; refine (HI.out _).mono ?_; rintro e w5 ⟨rfl, hb5⟩; obtain ⟨hc5, hf5, hs5⟩ := hb5.cells; have hz5_0 : w.heap.size < w5.heap.size := (by have h := hb5.le; (try simp at h); omega); have hc5_0 := hb5.cell (b := w.heap.size) (by first | omega | (simp; done) | (simp; omega)); have hf5_0 := hb5.frozen (b := w.heap.size) (by first | omega | (simp; done) | (simp; omega))))
    have KS := Lib.hid (fun (W : World) (h : Ext (w2.alloc (.cells #[.int .u8 rf, .int .i64 rn] 23)) W) => cells_one h)
    have K2 := Lib.hid (fun (W : World) (h : Ext (w.alloc (.cells #[.int .u8 f, .int .i64 n] 23)) W) => cells_one h)
    have hfin := Lib.hid (show Ext w w5 from (by repeat' (first | (with_reducible exact Ext.refl _) | (with_reducible assumption) | (with_reducible refine Ext.alloc ?_ _) | (with_reducible refine Ext.drew ?_) | (with_reducible refine Ext.drewN ?_ _) | (with_reducible refine Ext.setCell ?_ ?_ _) | (with_reducible refine Ext.trans ?_ (by assumption)) | go_size)))
    go_region_held3 (fun W => W.cell? ⟨w2.heap.size, 0, none⟩ = some (.int .u8 rf) ∧ W.cell? ⟨w2.heap.size, 1, none⟩ = some (.int .i64 rn) ∧ W.cell? ⟨w.heap.size, 0, none⟩ = some (.int .u8 f) ∧ W.cell? ⟨w.heap.size, 1, none⟩ = some (.int .i64 n)) (first | exact ⟨(KS.out _ (by repeat' (first | (with_reducible exact Ext.refl _) | (with_reducible assumption) | (with_reducible refine Ext.alloc ?_ _) | (with_reducible refine Ext.drew ?_) | (with_reducible refine Ext.drewN ?_ _) | (with_reducible refine Ext.setCell ?_ ?_ _) | (with_reducible refine Ext.trans ?_ (by assumption)) | go_size))).1, (KS.out _ (by repeat' (first | (with_reducible exact Ext.refl _) | (with_reducible assumption) | (with_reducible refine Ext.alloc ?_ _) | (with_reducible refine Ext.drew ?_) | (with_reducible refine Ext.drewN ?_ _) | (with_reducible refine Ext.setCell ?_ ?_ _) | (with_reducible refine Ext.trans ?_ (by assumption)) | go_size))).2, K2.out _ (by repeat' (first | (with_reducible exact Ext.refl _) | (with_reducible assumption) | (with_reducible refine Ext.alloc ?_ _) | (with_reducible refine Ext.drew ?_) | (with_reducible refine Ext.drewN ?_ _) | (with_reducible refine Ext.setCell ?_ ?_ _) | (with_reducible refine Ext.trans ?_ (by assumption)) | go_size))⟩) (first | (go_at_call 44; refine (HR.out _).mono ?_; rintro e x1 ⟨rfl, y1⟩) | (go_at_call 17; refine (known_any _ (hg.ext (hfin.out.trans (by repeat' (first | (with_reducible exact Ext.refl _) | (with_reducible assumption) | (with_reducible refine Ext.alloc ?_ _) | (with_reducible refine Ext.drew ?_) | (with_reducible refine Ext.drewN ?_ _) | (with_reducible refine Ext.setCell ?_ ?_ _) | (with_reducible refine Ext.trans ?_ (by assumption)) | go_size))))).mono ?_; rintro e x2 ⟨rfl, y2⟩))
    go_wp2
    go_returns
    exact ⟨rfl, Ext.trans hfin.out (by repeat' (first | (with_reducible exact Ext.refl _) | (with_reducible assumption) | (with_reducible refine Ext.alloc ?_ _) | (with_reducible refine Ext.drew ?_) | (with_reducible refine Ext.drewN ?_ _) | (with_reducible refine Ext.setCell ?_ ?_ _) | (with_reducible refine Ext.trans ?_ (by assumption)) | go_size))⟩

theorem cell_zero {n : Int} (h : cellB 0 n = true) : -9999 ≤ n ∧ n ≤ 9999 := by simpa [cellB] using h

theorem walkAt (f n m c : Int) (h0 : 0 ≤ f) (_ : -9223372036854775808 ≤ m) (_ : m ≤ 9223372036854775807) (_ : 0 ≤ c) (_ : c ≤ 255) (w : World) (hg : Glob w) :
    Calls Tryd.prog 13 #[.agg #[.int .u8 f, .int .i64 n], .int .i64 m, .int .u8 c] w fun e w' => e = .returned (.bool true) ∧ Ext w w' := by
  by_cases hc : c = 5 ∨ c = 6
  · cases e1 : cellB f n with
    | false => exact walk_err f n m c h0 w hg (Lib.hid (fun w' => op1_err c f n h0 (.inr e1) w')) (.inl e1)
    | true =>
      by_cases hf : f = 0
      · subst hf
        obtain ⟨a1, a2⟩ := cell_zero e1
        rcases hc with rfl | rfl
        · exact walk_ok 0 n m 5 0 (-n) h0 w hg (Lib.hid (fun w' => op1_neg n a1 a2 w')) (Lib.hid (fun w' => ref1_neg n a1 a2 w')) e1 (.inl rfl)
        · exact walk_ok 0 n m 6 _ _ h0 w hg (Lib.hid (fun w' => op1_not n a1 a2 w')) (Lib.hid (fun w' => ref1_not n w')) e1 (.inr rfl)
      · exact walk_ok f n m c f n h0 w hg (Lib.hid (fun w' => op1_fault c f n h0 hc e1 hf w')) (Lib.hid (fun w' => ref1_fault c f n (by omega) w')) e1 hc
  · exact walk_err f n m c h0 w hg (Lib.hid (fun w' => op1_err c f n h0 (.inl (by simp; omega)) w')) (.inr (by omega))
end Go.Proofs.YtaddlhebhiehgaaDoor.lawOnes
