/-
  The walks of package value, fourth part: the quotient, operations with one and with two operands.
-/
import Derived.Test.YtaddlhebhiehgaaDoorVal3
import Derived.Test.YtaddlhebhiehgaaDoorPlain
namespace Go.Proofs.YtaddlhebhiehgaaDoor
open Go.RowKit Go.Shelf

theorem quotient_any (a b : Int) (h1 : -9999 ≤ a) (h2 : a ≤ 9999) (h3 : -9999 ≤ b) (h4 : b ≤ 9999) (h : ¬ b = 0) (w : World) :
    Calls Tryd.prog 92 #[.int .i64 a, .int .i64 b] w fun e w' => e = .returned (.tuple #[.int .i64 (a.fdiv b), .int .i64 (a.fmod b)]) ∧ Ext w w' := by
  have hq := tdiv_bd a b h1 h2
  have hr := tmod_bd a b h
  by_cases h0 : a.tmod b = 0
  · have e := Lib.hid (fdiv_keep a b h (.inl h0))
    go_enter Tryd.func92, Tryd.ntmps92
    go_wp2
    go_quiet (fail)
    go_wp2
    go_ret2
    refine ⟨?_, (by repeat' (first | (with_reducible exact Ext.refl _) | (with_reducible assumption) | (with_reducible refine Ext.alloc ?_ _) | (with_reducible refine Ext.drew ?_) | (with_reducible refine Ext.drewN ?_ _) | (with_reducible refine Ext.setCell ?_ ?_ _) | (with_reducible refine Ext.trans ?_ (by assumption)) | go_size))⟩
    simp [e.out, h0]
  · by_cases hk : a.tmod b < 0 ↔ b < 0
    · have e := Lib.hid (fdiv_keep a b h (.inr hk))
      have hk' : (!decide (a.tmod b < 0) == decide (b < 0)) = false := by simp [hk]
      have hk := Lib.hid hk
      have h0' : (a.tmod b != 0) = true := by simp [h0]
      go_enter Tryd.func92, Tryd.ntmps92
      go_wp2
      go_quiet (fail)
      go_wp2
      go_ret2
      refine ⟨?_, (by repeat' (first | (with_reducible exact Ext.refl _) | (with_reducible assumption) | (with_reducible refine Ext.alloc ?_ _) | (with_reducible refine Ext.drew ?_) | (with_reducible refine Ext.drewN ?_ _) | (with_reducible refine Ext.setCell ?_ ?_ _) | (with_reducible refine Ext.trans ?_ (by assumption)) | go_size))⟩
      simp [e.out]
    · have e := Lib.hid (fdiv_turn a b h h0 hk)
      have hk' : (!decide (a.tmod b < 0) == decide (b < 0)) = true := by
        by_cases x : a.tmod b < 0 <;> by_cases y : b < 0 <;> simp_all
      have hk := Lib.hid hk
      have h0' : (a.tmod b != 0) = true := by simp [h0]
      go_enter Tryd.func92, Tryd.ntmps92
      go_wp2
      go_quiet (fail)
      go_wp2
      go_ret2
      refine ⟨?_, (by repeat' (first | (with_reducible exact Ext.refl _) | (with_reducible assumption) | (with_reducible refine Ext.alloc ?_ _) | (with_reducible refine Ext.drew ?_) | (with_reducible refine Ext.drewN ?_ _) | (with_reducible refine Ext.setCell ?_ ?_ _) | (with_reducible refine Ext.trans ?_ (by assumption)) | go_size))⟩
      simp [e.out]

theorem solo1_any (n : Int) (h1 : -9999 ≤ n) (h2 : n ≤ 9999) (w : World) : Calls Tryd.prog 88 #[.int .i64 n] w fun e w' => e = .returned (.agg #[.int .u8 0, .int .i64 (-n)]) ∧ Ext w w' := by
  go_enter Tryd.func88, Tryd.ntmps88
  go_wp2_with (go_at_call 42; refine (make_in _ (by omega) (by omega) _).mono ?_; rintro e w1 ⟨rfl, hb1⟩; obtain ⟨hc1, hf1, hs1⟩ := hb1.cells; have hz1_0 : w.heap.size < w1.heap.size := (by have h := hb1.le; (try simp at h); omega); have hc1_0 := hb1.cell (b := w.heap.size) (by first | omega | (simp; done) | (simp; omega)); have hf1_0 := hb1.frozen (b := w.heap.size) (by first | omega | (simp; done) | (simp; omega)))
  refine bodyPost_ret (v := .agg #[.int .u8 0, .int .i64 (-n)]) (by simp [results, Tryd.results88, go_sem, *]) rfl ⟨rfl, (by repeat' (first | (with_reducible exact Ext.refl _) | (with_reducible assumption) | (with_reducible refine Ext.alloc ?_ _) | (with_reducible refine Ext.drew ?_) | (with_reducible refine Ext.drewN ?_ _) | (with_reducible refine Ext.setCell ?_ ?_ _) | (with_reducible refine Ext.trans ?_ (by assumption)) | go_size))⟩
theorem solo2_any (n : Int) (w : World) : Calls Tryd.prog 89 #[.int .i64 n] w fun e w' => e = .returned (.agg #[.int .u8 0, .int .i64 (bit (n == 0))]) ∧ Ext w w' := by
  go_enter Tryd.func89, Tryd.ntmps89
  go_wp2_with (go_at_call 90; refine (truth_any _ _).mono ?_; rintro e w1 ⟨rfl, hb1⟩; obtain ⟨hc1, hf1, hs1⟩ := hb1.cells; have hz1_0 : w.heap.size < w1.heap.size := (by have h := hb1.le; (try simp at h); omega); have hc1_0 := hb1.cell (b := w.heap.size) (by first | omega | (simp; done) | (simp; omega)); have hf1_0 := hb1.frozen (b := w.heap.size) (by first | omega | (simp; done) | (simp; omega)))
  refine bodyPost_ret (v := .agg #[.int .u8 0, .int .i64 (bit (n == 0))]) (by simp [results, Tryd.results89, go_sem, *]) rfl ⟨rfl, (by repeat' (first | (with_reducible exact Ext.refl _) | (with_reducible assumption) | (with_reducible refine Ext.alloc ?_ _) | (with_reducible refine Ext.drew ?_) | (with_reducible refine Ext.drewN ?_ _) | (with_reducible refine Ext.setCell ?_ ?_ _) | (with_reducible refine Ext.trans ?_ (by assumption)) | go_size))⟩
theorem solo_nil (w : World) : (binOp .eql 98 .nilFunc .nilFunc).run Tryd.prog w = .ok (.bool true) w := by kernel_rfl
theorem solo_some (w : World) (g : Fn) (a b : Array Value) : (binOp .eql 98 (.func g a b) .nilFunc).run Tryd.prog w = .ok (.bool false) w := by kernel_rfl
theorem duo_nil (w : World) : (binOp .eql 77 .nilFunc .nilFunc).run Tryd.prog w = .ok (.bool true) w := by kernel_rfl
theorem duo_some (w : World) (g : Fn) (a b : Array Value) : (binOp .eql 77 (.func g a b) .nilFunc).run Tryd.prog w = .ok (.bool false) w := by kernel_rfl

theorem op1_err (c f n : Int) (h0 : 0 ≤ f) (h : (c == 5) = false ∧ (c == 6) = false ∨ cellB f n = false) (w : World) :
    Calls Tryd.prog 41 #[.int .u8 c, .agg #[.int .u8 f, .int .i64 n]] w fun e w' => e = .returned (.tuple #[.agg #[.int .u8 0, .int .i64 0], .int .i64 2]) ∧ Ext w w' := by
  by_cases h5 : c = 5 ∨ c = 6
  · have hc : cellB f n = false := by
      rcases h with ⟨a, b⟩ | h
      · simp at a b; omega
      · exact h
    have H := fun w' => isCell_any f n h0 w'
    rw [hc] at H
    have H := Lib.hid H
    clear hc h
    rcases h5 with rfl | rfl
    · have ss := solo_some
      go_enter Tryd.func41, Tryd.ntmps41
      go_wp2_with (first | (go_at_call 56; refine (H.out _).mono ?_; rintro e w1 ⟨rfl, hb1⟩; obtain ⟨hc1, hf1, hs1⟩ := hb1.cells; have hz1_0 : w.heap.size < w1.heap.size := (by have h := hb1.le; (try simp at h); omega); have hc1_0 := hb1.cell (b := w.heap.size) (by first | omega | (simp; done) | (simp; omega)); have hf1_0 := hb1.frozen (b := w.heap.size) (by first | omega | (simp; done) | (simp; omega)); have hz1_1 : w.heap.size + 1 < w1.heap.size := (by have h := hb1.le; (try simp at h); omega); have hc1_1 := hb1.cell (b := w.heap.size + 1) (by first | omega | (simp; done) | (simp; omega)); have hf1_1 := hb1.frozen (b := w.heap.size + 1) (by first | omega | (simp; done) | (simp; omega))) | (go_at_call 64; go_in))
      refine bodyPost_ret (v := .tuple #[.agg #[.int .u8 0, .int .i64 0], .int .i64 2]) (by simp [results, Tryd.results41, go_sem, *]) rfl ⟨rfl, (by repeat' (first | (with_reducible exact Ext.refl _) | (with_reducible assumption) | (with_reducible refine Ext.alloc ?_ _) | (with_reducible refine Ext.drew ?_) | (with_reducible refine Ext.drewN ?_ _) | (with_reducible refine Ext.setCell ?_ ?_ _) | (with_reducible refine Ext.trans ?_ (by assumption)) | go_size))⟩
    · have ss := solo_some
      go_enter Tryd.func41, Tryd.ntmps41
      go_wp2_with (first | (go_at_call 56; refine (H.out _).mono ?_; rintro e w1 ⟨rfl, hb1⟩; obtain ⟨hc1, hf1, hs1⟩ := hb1.cells; have hz1_0 : w.heap.size < w1.heap.size := (by have h := hb1.le; (try simp at h); omega); have hc1_0 := hb1.cell (b := w.heap.size) (by first | omega | (simp; done) | (simp; omega)); have hf1_0 := hb1.frozen (b := w.heap.size) (by first | omega | (simp; done) | (simp; omega)); have hz1_1 : w.heap.size + 1 < w1.heap.size := (by have h := hb1.le; (try simp at h); omega); have hc1_1 := hb1.cell (b := w.heap.size + 1) (by first | omega | (simp; done) | (simp; omega)); have hf1_1 := hb1.frozen (b := w.heap.size + 1) (by first | omega | (simp; done) | (simp; omega))) | (go_at_call 64; go_in))
      refine bodyPost_ret (v := .tuple #[.agg #[.int .u8 0, .int .i64 0], .int .i64 2]) (by simp [results, Tryd.results41, go_sem, *]) rfl ⟨rfl, (by repeat' (first | (with_reducible exact Ext.refl _) | (with_reducible assumption) | (with_reducible refine Ext.alloc ?_ _) | (with_reducible refine Ext.drew ?_) | (with_reducible refine Ext.drewN ?_ _) | (with_reducible refine Ext.setCell ?_ ?_ _) | (with_reducible refine Ext.trans ?_ (by assumption)) | go_size))⟩
  · have a1 : (c == 5) = false := by simp; omega
    have a2 : (c == 6) = false := by simp; omega
    clear h h5
    have sn := solo_nil
    go_enter Tryd.func41, Tryd.ntmps41
    go_wp2
    refine bodyPost_ret (v := .tuple #[.agg #[.int .u8 0, .int .i64 0], .int .i64 2]) (by simp [results, Tryd.results41, go_sem, *]) rfl ⟨rfl, (by repeat' (first | (with_reducible exact Ext.refl _) | (with_reducible assumption) | (with_reducible refine Ext.alloc ?_ _) | (with_reducible refine Ext.drew ?_) | (with_reducible refine Ext.drewN ?_ _) | (with_reducible refine Ext.setCell ?_ ?_ _) | (with_reducible refine Ext.trans ?_ (by assumption)) | go_size))⟩
theorem op1_fault (c f n : Int) (h0 : 0 ≤ f) (h : c = 5 ∨ c = 6) (hc : cellB f n = true) (hf : ¬ f = 0) (w : World) :
    Calls Tryd.prog 41 #[.int .u8 c, .agg #[.int .u8 f, .int .i64 n]] w fun e w' => e = .returned (.tuple #[.agg #[.int .u8 f, .int .i64 n], .int .i64 0]) ∧ Ext w w' := by
  have H := fun w' => isCell_any f n h0 w'
  have H2 := fun b w' hl => firstFault_yes b 0 1 1 [(f, n)] w' rfl (by omega) hl 0 f n (by simp) rfl hf (fun j hj => absurd hj (Nat.not_lt_zero _))
  rw [hc] at H
  have H := Lib.hid H
  have H2 := Lib.hid H2
  clear hc hf
  rcases h with rfl | rfl
  · have ss := solo_some
    go_enter Tryd.func41, Tryd.ntmps41
    go_wp2_with (first | (go_at_call 64; go_in) | (go_at_call 56; refine (H.out _).mono ?_; rintro e w1 ⟨rfl, hb1⟩; obtain ⟨hc1, hf1, hs1⟩ := hb1.cells; have hz1_0 : w.heap.size < w1.heap.size := (by have h := hb1.le; (try simp at h); omega); have hc1_0 := hb1.cell (b := w.heap.size) (by first | omega | (simp; done) | (simp; omega)); have hf1_0 := hb1.frozen (b := w.heap.size) (by first | omega | (simp; done) | (simp; omega)); have hz1_1 : w.heap.size + 1 < w1.heap.size := (by have h := hb1.le; (try simp at h); omega); have hc1_1 := hb1.cell (b := w.heap.size + 1) (by first | omega | (simp; done) | (simp; omega)); have hf1_1 := hb1.frozen (b := w.heap.size + 1) (by first | omega | (simp; done) | (simp; omega))) | (go_at_call 47; refine (H2.out _ _ (lies1 _ _ _ _ h0 _ (by simp))).mono ?_; rintro e w2 ⟨rfl, hb2⟩; obtain ⟨hc2, hf2, hs2⟩ := hb2.cells; have hz2_0 : w.heap.size < w2.heap.size := (by have h := hb2.le; (try simp at h); omega); have hc2_0 := hb2.cell (b := w.heap.size) (by first | omega | (simp; done) | (simp; omega)); have hf2_0 := hb2.frozen (b := w.heap.size) (by first | omega | (simp; done) | (simp; omega)); have hz2_1 : w.heap.size + 1 < w2.heap.size := (by have h := hb2.le; (try simp at h); omega); have hc2_1 := hb2.cell (b := w.heap.size + 1) (by first | omega | (simp; done) | (simp; omega)); have hf2_1 := hb2.frozen (b := w.heap.size + 1) (by first | omega | (simp; done) | (simp; omega))))
    refine bodyPost_ret (v := .tuple #[.agg #[.int .u8 f, .int .i64 n], .int .i64 0]) (by simp [results, Tryd.results41, go_sem, *]) rfl ⟨rfl, (by repeat' (first | (with_reducible exact Ext.refl _) | (with_reducible assumption) | (with_reducible refine Ext.alloc ?_ _) | (with_reducible refine Ext.drew ?_) | (with_reducible refine Ext.drewN ?_ _) | (with_reducible refine Ext.setCell ?_ ?_ _) | (with_reducible refine Ext.trans ?_ (by assumption)) | go_size))⟩
  · have ss := solo_some
    go_enter Tryd.func41, Tryd.ntmps41
    go_wp2_with (first | (go_at_call 64; go_in) | (go_at_call 56; refine (H.out _).mono ?_; rintro e w1 ⟨rfl, hb1⟩; obtain ⟨hc1, hf1, hs1⟩ := hb1.cells; have hz1_0 : w.heap.size < w1.heap.size := (by have h := hb1.le; (try simp at h); omega); have hc1_0 := hb1.cell (b := w.heap.size) (by first | omega | (simp; done) | (simp; omega)); have hf1_0 := hb1.frozen (b := w.heap.size) (by first | omega | (simp; done) | (simp; omega)); have hz1_1 : w.heap.size + 1 < w1.heap.size := (by have h := hb1.le; (try simp at h); omega); have hc1_1 := hb1.cell (b := w.heap.size + 1) (by first | omega | (simp; done) | (simp; omega)); have hf1_1 := hb1.frozen (b := w.heap.size + 1) (by first | omega | (simp; done) | (simp; omega))) | (go_at_call 47; refine (H2.out _ _ (lies1 _ _ _ _ h0 _ (by simp))).mono ?_; rintro e w2 ⟨rfl, hb2⟩; obtain ⟨hc2, hf2, hs2⟩ := hb2.cells; have hz2_0 : w.heap.size < w2.heap.size := (by have h := hb2.le; (try simp at h); omega); have hc2_0 := hb2.cell (b := w.heap.size) (by first | omega | (simp; done) | (simp; omega)); have hf2_0 := hb2.frozen (b := w.heap.size) (by first | omega | (simp; done) | (simp; omega)); have hz2_1 : w.heap.size + 1 < w2.heap.size := (by have h := hb2.le; (try simp at h); omega); have hc2_1 := hb2.cell (b := w.heap.size + 1) (by first | omega | (simp; done) | (simp; omega)); have hf2_1 := hb2.frozen (b := w.heap.size + 1) (by first | omega | (simp; done) | (simp; omega))))
    refine bodyPost_ret (v := .tuple #[.agg #[.int .u8 f, .int .i64 n], .int .i64 0]) (by simp [results, Tryd.results41, go_sem, *]) rfl ⟨rfl, (by repeat' (first | (with_reducible exact Ext.refl _) | (with_reducible assumption) | (with_reducible refine Ext.alloc ?_ _) | (with_reducible refine Ext.drew ?_) | (with_reducible refine Ext.drewN ?_ _) | (with_reducible refine Ext.setCell ?_ ?_ _) | (with_reducible refine Ext.trans ?_ (by assumption)) | go_size))⟩
theorem op1_neg (n : Int) (h1 : -9999 ≤ n) (h2 : n ≤ 9999) (w : World) :
    Calls Tryd.prog 41 #[.int .u8 5, .agg #[.int .u8 0, .int .i64 n]] w fun e w' => e = .returned (.tuple #[.agg #[.int .u8 0, .int .i64 (-n)], .int .i64 0]) ∧ Ext w w' := by
  have H := fun w' => isCell_any 0 n (by omega) w'
  have H2 := fun b w' hl => firstFault_no b 0 1 1 [(0, n)] w' rfl (by omega) hl (fun j hj => by obtain rfl : j = 0 := (by simp at hj; omega); rfl)
  rw [cellB_num n h1 h2] at H
  have H := Lib.hid H
  have H2 := Lib.hid H2
  have ss := solo_some
  go_enter Tryd.func41, Tryd.ntmps41
  go_wp2_with (first | (go_at_call 64; go_in) | (go_at_call 56; refine (H.out _).mono ?_; rintro e w1 ⟨rfl, hb1⟩; obtain ⟨hc1, hf1, hs1⟩ := hb1.cells; have hz1_0 : w.heap.size < w1.heap.size := (by have h := hb1.le; (try simp at h); omega); have hc1_0 := hb1.cell (b := w.heap.size) (by first | omega | (simp; done) | (simp; omega)); have hf1_0 := hb1.frozen (b := w.heap.size) (by first | omega | (simp; done) | (simp; omega)); have hz1_1 : w.heap.size + 1 < w1.heap.size := (by have h := hb1.le; (try simp at h); omega); have hc1_1 := hb1.cell (b := w.heap.size + 1) (by first | omega | (simp; done) | (simp; omega)); have hf1_1 := hb1.frozen (b := w.heap.size + 1) (by first | omega | (simp; done) | (simp; omega))) | (go_at_call 47; refine (H2.out _ _ (lies1 _ _ _ _ (by omega) _ (by simp))).mono ?_; rintro e w2 ⟨rfl, hb2⟩; obtain ⟨hc2, hf2, hs2⟩ := hb2.cells; have hz2_0 : w.heap.size < w2.heap.size := (by have h := hb2.le; (try simp at h); omega); have hc2_0 := hb2.cell (b := w.heap.size) (by first | omega | (simp; done) | (simp; omega)); have hf2_0 := hb2.frozen (b := w.heap.size) (by first | omega | (simp; done) | (simp; omega)); have hz2_1 : w.heap.size + 1 < w2.heap.size := (by have h := hb2.le; (try simp at h); omega); have hc2_1 := hb2.cell (b := w.heap.size + 1) (by first | omega | (simp; done) | (simp; omega)); have hf2_1 := hb2.frozen (b := w.heap.size + 1) (by first | omega | (simp; done) | (simp; omega))) | (go_at_call 88; refine (solo1_any _ h1 h2 _).mono ?_; rintro e w3 ⟨rfl, hb3⟩; obtain ⟨hc3, hf3, hs3⟩ := hb3.cells; have hz3_0 : w.heap.size < w3.heap.size := (by have h := hb3.le; (try simp at h); omega); have hc3_0 := hb3.cell (b := w.heap.size) (by first | omega | (simp; done) | (simp; omega)); have hf3_0 := hb3.frozen (b := w.heap.size) (by first | omega | (simp; done) | (simp; omega)); have hz3_1 : w.heap.size + 1 < w3.heap.size := (by have h := hb3.le; (try simp at h); omega); have hc3_1 := hb3.cell (b := w.heap.size + 1) (by first | omega | (simp; done) | (simp; omega)); have hf3_1 := hb3.frozen (b := w.heap.size + 1) (by first | omega | (simp; done) | (simp; omega))))
  refine bodyPost_ret (v := .tuple #[.agg #[.int .u8 0, .int .i64 (-n)], .int .i64 0]) (by simp [results, Tryd.results41, go_sem, *]) rfl ⟨rfl, (by repeat' (first | (with_reducible exact Ext.refl _) | (with_reducible assumption) | (with_reducible refine Ext.alloc ?_ _) | (with_reducible refine Ext.drew ?_) | (with_reducible refine Ext.drewN ?_ _) | (with_reducible refine Ext.setCell ?_ ?_ _) | (with_reducible refine Ext.trans ?_ (by assumption)) | go_size))⟩
theorem op1_not (n : Int) (h1 : -9999 ≤ n) (h2 : n ≤ 9999) (w : World) :
    Calls Tryd.prog 41 #[.int .u8 6, .agg #[.int .u8 0, .int .i64 n]] w fun e w' => e = .returned (.tuple #[.agg #[.int .u8 0, .int .i64 (bit (n == 0))], .int .i64 0]) ∧ Ext w w' := by
  have H := fun w' => isCell_any 0 n (by omega) w'
  have H2 := fun b w' hl => firstFault_no b 0 1 1 [(0, n)] w' rfl (by omega) hl (fun j hj => by obtain rfl : j = 0 := (by simp at hj; omega); rfl)
  rw [cellB_num n h1 h2] at H
  have H := Lib.hid H
  have H2 := Lib.hid H2
  have ss := solo_some
  go_enter Tryd.func41, Tryd.ntmps41
  go_wp2_with (first | (go_at_call 64; go_in) | (go_at_call 56; refine (H.out _).mono ?_; rintro e w1 ⟨rfl, hb1⟩; obtain ⟨hc1, hf1, hs1⟩ := hb1.cells; have hz1_0 : w.heap.size < w1.heap.size := (by have h := hb1.le; (try simp at h); omega); have hc1_0 := hb1.cell (b := w.heap.size) (by first | omega | (simp; done) | (simp; omega)); have hf1_0 := hb1.frozen (b := w.heap.size) (by first | omega | (simp; done) | (simp; omega)); have hz1_1 : w.heap.size + 1 < w1.heap.size := (by have h := hb1.le; (try simp at h); omega); have hc1_1 := hb1.cell (b := w.heap.size + 1) (by first | omega | (simp; done) | (simp; omega)); have hf1_1 := hb1.frozen (b := w.heap.size + 1) (by first | omega | (simp; done) | (simp; omega))) | (go_at_call 47; refine (H2.out _ _ (lies1 _ _ _ _ (by omega) _ (by simp))).mono ?_; rintro e w2 ⟨rfl, hb2⟩; obtain ⟨hc2, hf2, hs2⟩ := hb2.cells; have hz2_0 : w.heap.size < w2.heap.size := (by have h := hb2.le; (try simp at h); omega); have hc2_0 := hb2.cell (b := w.heap.size) (by first | omega | (simp; done) | (simp; omega)); have hf2_0 := hb2.frozen (b := w.heap.size) (by first | omega | (simp; done) | (simp; omega)); have hz2_1 : w.heap.size + 1 < w2.heap.size := (by have h := hb2.le; (try simp at h); omega); have hc2_1 := hb2.cell (b := w.heap.size + 1) (by first | omega | (simp; done) | (simp; omega)); have hf2_1 := hb2.frozen (b := w.heap.size + 1) (by first | omega | (simp; done) | (simp; omega))) | (go_at_call 89; refine (solo2_any _ _).mono ?_; rintro e w3 ⟨rfl, hb3⟩; obtain ⟨hc3, hf3, hs3⟩ := hb3.cells; have hz3_0 : w.heap.size < w3.heap.size := (by have h := hb3.le; (try simp at h); omega); have hc3_0 := hb3.cell (b := w.heap.size) (by first | omega | (simp; done) | (simp; omega)); have hf3_0 := hb3.frozen (b := w.heap.size) (by first | omega | (simp; done) | (simp; omega)); have hz3_1 : w.heap.size + 1 < w3.heap.size := (by have h := hb3.le; (try simp at h); omega); have hc3_1 := hb3.cell (b := w.heap.size + 1) (by first | omega | (simp; done) | (simp; omega)); have hf3_1 := hb3.frozen (b := w.heap.size + 1) (by first | omega | (simp; done) | (simp; omega))))
  refine bodyPost_ret (v := .tuple #[.agg #[.int .u8 0, .int .i64 (bit (n == 0))], .int .i64 0]) (by simp [results, Tryd.results41, go_sem, *]) rfl ⟨rfl, (by repeat' (first | (with_reducible exact Ext.refl _) | (with_reducible assumption) | (with_reducible refine Ext.alloc ?_ _) | (with_reducible refine Ext.drew ?_) | (with_reducible refine Ext.drewN ?_ _) | (with_reducible refine Ext.setCell ?_ ?_ _) | (with_reducible refine Ext.trans ?_ (by assumption)) | go_size))⟩
end Go.Proofs.YtaddlhebhiehgaaDoor
