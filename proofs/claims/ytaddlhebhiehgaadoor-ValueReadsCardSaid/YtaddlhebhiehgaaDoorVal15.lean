/-
  The walks of package value, fifteenth part: Pick of a fault, and of what are no cells.
-/
import Derived.Test.YtaddlhebhiehgaaDoorVal14
namespace Go.Proofs.YtaddlhebhiehgaaDoor
open Go.RowKit Go.Shelf
attribute [local go_sem] Oper.semAt_some

/-- What the tests of Pick's first region come to for c elements of k cells. -/
theorem form_facts (k c : Nat) (h1 : 1 ≤ k) (h2 : k ≤ 8) (h3 : 1 ≤ c) (h4 : c ≤ 6) (h5 : c * k ≤ 8) :
    decide (1 ≤ (k : Int) ∧ (k : Int) ≤ 8 ∧ (1 : Int) ≤ ((c * k : Nat) : Int) ∧ ((c * k : Nat) : Int) ≤ 8) = true ∧ (((c * k : Nat) : Int) % (k : Int) != 0) = false ∧ wrap64 (((c * k : Nat) : Int) / (k : Int)) = (c : Int) := by
  have h6 : 1 ≤ c * k := Nat.mul_pos h3 h1
  have e2 : ((c * k : Nat) : Int) / (k : Int) = (c : Int) := by rw [Int.natCast_mul]; exact Int.mul_ediv_cancel _ (by omega)
  refine ⟨by simp; omega, by simp, ?_⟩
  rw [e2]
  exact IntWalk.wrap64_in _ (by omega)

set_option maxRecDepth 100000 in
set_option maxHeartbeats 1000000 in
theorem pick_arg (b off len cap k c : Nat) (f n : Int) (zs : List (Int × Int)) (hz : zs.length = len) (hlen : c * k = len) (h1 : 1 ≤ k) (h2 : k ≤ 8) (h3 : 1 ≤ c) (h4 : c ≤ 6) (h5 : len ≤ 8) (g0 : 0 ≤ f) (w : World) (h : Lies w b off zs)
    (hno : (cellB f n && allB zs) = false) :
    Calls Tryd.prog 22 #[.slice (some ⟨b, off, none⟩) len cap, .int .i64 (k : Int), .agg #[.int .u8 f, .int .i64 n]] w fun e w' => e = .returned (.tuple #[.slice none 0 0, .int .i64 2]) ∧ Ext w w' := by
  have F := form_facts k c h1 h2 h3 h4 (by omega)
  rw [hlen] at F
  obtain ⟨F1, F2, F3⟩ := F
  have H0 := fun b w' a1 a2 a3 => within2_any (k : Int) (len : Int) b w' a1 a2 a3
  rw [F1] at H0
  have H0 := Lib.hid H0
  clear F1
  have hc6 : (c : Int) ≤ 6 := by omega
  have hk0 : (1 : Int) ≤ (k : Int) := by omega
  have HL := Lib.hid h; clear h
  cases hfc : cellB f n with
  | false =>
    have H1 := fun b w' hl => areCells_some b 0 1 1 [(f, n)] w' rfl (by omega) hl
    rw [show allB [(f, n)] = false by simp [allB, hfc]] at H1
    have H1 := Lib.hid H1
    clear hno hfc hz hlen
    refine (callsIn_wide (n := 5)).1 (callsIn_of_wp_marks Tryd.func22 rfl trivial ?_ rfl); simp only [Tryd.ntmps22, List.size_toArray, List.length_cons, List.length_nil, Nat.reduceAdd, Nat.reduceSub, Array.replicate_succ, Array.replicate_zero, List.push_toArray, List.append_toArray, List.nil_append, List.cons_append]; refine wpIn_wide.2 ?_
    go_wp2_with (first | (go_at_call 52; refine (H0.out _ _ (by first | (simp [go_sem]; done) | omega | (simp; omega)) (by first | (simp [go_sem]; done) | omega | (simp; omega)) (by first | (simp [go_sem]; done) | omega | (simp; omega))).mono ?_; rintro e w1 ⟨rfl, hb1⟩; obtain ⟨hc1, hf1, hs1⟩ := hb1.cells; have hz1_0 : w.heap.size < w1.heap.size := (by have h := hb1.le; (try simp at h); omega); have hc1_0 := hb1.cell (b := w.heap.size) (by first | omega | (simp; done) | (simp; omega)); have hf1_0 := hb1.frozen (b := w.heap.size) (by first | omega | (simp; done) | (simp; omega))) | (go_at_call 46; refine (H1.out _ _ (lies1 _ _ _ _ g0 _ (by simp))).mono ?_; rintro e w2 ⟨rfl, hb2⟩; obtain ⟨hc2, hf2, hs2⟩ := hb2.cells; have hz2_0 : w.heap.size < w2.heap.size := (by have h := hb2.le; (try simp at h); omega); have hc2_0 := hb2.cell (b := w.heap.size) (by first | omega | (simp; done) | (simp; omega)); have hf2_0 := hb2.frozen (b := w.heap.size) (by first | omega | (simp; done) | (simp; omega))))
    exact ⟨_, results_tmp2 rfl _ _ _, rfl, (by repeat' (first | (with_reducible exact Ext.refl _) | (with_reducible assumption) | (with_reducible refine Ext.alloc ?_ _) | (with_reducible refine Ext.drew ?_) | (with_reducible refine Ext.drewN ?_ _) | (with_reducible refine Ext.setCell ?_ ?_ _) | (with_reducible refine Ext.trans ?_ (by assumption)) | go_size))⟩
  | true =>
    rw [hfc, Bool.true_and] at hno
    have H1 := fun b w' hl => areCells_some b 0 1 1 [(f, n)] w' rfl (by omega) hl
    rw [show allB [(f, n)] = true by simp [allB, hfc]] at H1
    have H1 := Lib.hid H1
    have H2 := fun w' hl => areCells_some b off len cap zs w' hz (by omega) hl
    rw [hno] at H2
    have H2 := Lib.hid H2
    clear hno hfc hz hlen
    have tok1 : True := trivial
    refine (callsIn_wide (n := 5)).1 (callsIn_of_wp_marks Tryd.func22 rfl trivial ?_ rfl); simp only [Tryd.ntmps22, List.size_toArray, List.length_cons, List.length_nil, Nat.reduceAdd, Nat.reduceSub, Array.replicate_succ, Array.replicate_zero, List.push_toArray, List.append_toArray, List.nil_append, List.cons_append]; refine wpIn_wide.2 ?_
    go_wp2_with (first | (go_at_call 52; refine (H0.out _ _ (by first | (simp [go_sem]; done) | omega | (simp; omega)) (by first | (simp [go_sem]; done) | omega | (simp; omega)) (by first | (simp [go_sem]; done) | omega | (simp; omega))).mono ?_; rintro e w1 ⟨rfl, hb1⟩; obtain ⟨hc1, hf1, hs1⟩ := hb1.cells; have hz1_0 : w.heap.size < w1.heap.size := (by have h := hb1.le; (try simp at h); omega); have hc1_0 := hb1.cell (b := w.heap.size) (by first | omega | (simp; done) | (simp; omega)); have hf1_0 := hb1.frozen (b := w.heap.size) (by first | omega | (simp; done) | (simp; omega))) | (go_at_call 46; have _t := tok1; refine (H1.out _ _ (lies1 _ _ _ _ g0 _ (by simp))).mono ?_; rintro e w2 ⟨rfl, hb2⟩; clear tok1) | (go_at_call 46; refine (H2.out _ (HL.out.below (by repeat' (first | (with_reducible exact Ext.refl _) | (with_reducible assumption) | (with_reducible refine Ext.alloc ?_ _) | (with_reducible refine Ext.drew ?_) | (with_reducible refine Ext.drewN ?_ _) | (with_reducible refine Ext.setCell ?_ ?_ _) | (with_reducible refine Ext.trans ?_ (by assumption)) | go_size)))).mono ?_; rintro e w3 ⟨rfl, hb3⟩))
    exact ⟨_, results_tmp2 rfl _ _ _, rfl, (by repeat' (first | (with_reducible exact Ext.refl _) | (with_reducible assumption) | (with_reducible refine Ext.alloc ?_ _) | (with_reducible refine Ext.drew ?_) | (with_reducible refine Ext.drewN ?_ _) | (with_reducible refine Ext.setCell ?_ ?_ _) | (with_reducible refine Ext.trans ?_ (by assumption)) | go_size))⟩

set_option maxRecDepth 100000 in
set_option maxHeartbeats 1000000 in
theorem pick_fault (b off len cap k c : Nat) (f n : Int) (zs : List (Int × Int)) (hz : zs.length = len) (hlen : c * k = len) (h1 : 1 ≤ k) (h2 : k ≤ 8) (h3 : 1 ≤ c) (h4 : c ≤ 6) (h5 : len ≤ 8) (g0 : 0 ≤ f) (w : World) (h : Lies w b off zs)
    (hfc : cellB f n = true) (hall : allB zs = true) (hf : ¬ f = 0) :
    Calls Tryd.prog 22 #[.slice (some ⟨b, off, none⟩) len cap, .int .i64 (k : Int), .agg #[.int .u8 f, .int .i64 n]] w fun e w' => ∃ g : Nat, e = .returned (.tuple #[.slice (some ⟨g, 0, none⟩) k k, .int .i64 0]) ∧ w.heap.size ≤ g ∧ w'.heap[g]? = some (.cells (repRow [.int .u8 f, .int .i64 n] ZV k k).toArray 23 (0, 0)) ∧ Ext w w' := by
  have F := form_facts k c h1 h2 h3 h4 (by omega)
  rw [hlen] at F
  obtain ⟨F1, F2, F3⟩ := F
  have H0 := fun b w' a1 a2 a3 => within2_any (k : Int) (len : Int) b w' a1 a2 a3
  rw [F1] at H0
  have H0 := Lib.hid H0
  clear F1
  have hc6 : (c : Int) ≤ 6 := by omega
  have hk0 : (1 : Int) ≤ (k : Int) := by omega
  have HL := Lib.hid h; clear h
  have H1 := fun b w' hl => areCells_some b 0 1 1 [(f, n)] w' rfl (by omega) hl
  rw [show allB [(f, n)] = true by simp [allB, hfc]] at H1
  have H1 := Lib.hid H1
  have H2 := fun w' hl => areCells_some b off len cap zs w' hz (by omega) hl
  rw [hall] at H2
  have H2 := Lib.hid H2
  have H3 := Lib.hid (fun b w' hl => firstFault_yes b 0 1 1 [(f, n)] w' rfl (by omega) hl 0 f n (by simp) rfl hf (fun j hj => absurd hj (Nat.not_lt_zero _)))
  clear hall hfc hz hlen hf
  have tok1 : True := trivial
  have tok2 : True := trivial
  refine (callsIn_wide (n := 5)).1 (callsIn_of_wp_marks Tryd.func22 rfl trivial ?_ rfl); simp only [Tryd.ntmps22, List.size_toArray, List.length_cons, List.length_nil, Nat.reduceAdd, Nat.reduceSub, Array.replicate_succ, Array.replicate_zero, List.push_toArray, List.append_toArray, List.nil_append, List.cons_append]; refine wpIn_wide.2 ?_
  go_wp2_with (first | (go_at_call 52; refine (H0.out _ _ (by first | (simp [go_sem]; done) | omega | (simp; omega)) (by first | (simp [go_sem]; done) | omega | (simp; omega)) (by first | (simp [go_sem]; done) | omega | (simp; omega))).mono ?_; rintro e w1 ⟨rfl, hb1⟩; obtain ⟨hc1, hf1, hs1⟩ := hb1.cells; have hz1_0 : w.heap.size < w1.heap.size := (by have h := hb1.le; (try simp at h); omega); have hc1_0 := hb1.cell (b := w.heap.size) (by first | omega | (simp; done) | (simp; omega)); have hf1_0 := hb1.frozen (b := w.heap.size) (by first | omega | (simp; done) | (simp; omega))) | (go_at_call 46; have _t := tok1; refine (H1.out _ _ (lies1 _ _ _ _ g0 _ (by simp))).mono ?_; rintro e w2 ⟨rfl, hb2⟩; obtain ⟨hc2, hf2, hs2⟩ := hb2.cells; have hz2_0 : w.heap.size < w2.heap.size := (by have h := hb2.le; (try simp at h); omega); have hc2_0 := hb2.cell (b := w.heap.size) (by first | omega | (simp; done) | (simp; omega)); have hf2_0 := hb2.frozen (b := w.heap.size) (by first | omega | (simp; done) | (simp; omega)); clear tok1) | (go_at_call 46; refine (H2.out _ (HL.out.below (by repeat' (first | (with_reducible exact Ext.refl _) | (with_reducible assumption) | (with_reducible refine Ext.alloc ?_ _) | (with_reducible refine Ext.drew ?_) | (with_reducible refine Ext.drewN ?_ _) | (with_reducible refine Ext.setCell ?_ ?_ _) | (with_reducible refine Ext.trans ?_ (by assumption)) | go_size)))).mono ?_; rintro e w3 ⟨rfl, hb3⟩; obtain ⟨hc3, hf3, hs3⟩ := hb3.cells; have hz3_0 : w.heap.size < w3.heap.size := (by have h := hb3.le; (try simp at h); omega); have hc3_0 := hb3.cell (b := w.heap.size) (by first | omega | (simp; done) | (simp; omega)); have hf3_0 := hb3.frozen (b := w.heap.size) (by first | omega | (simp; done) | (simp; omega))) | (go_at_call 54; refine (fault_any _ _).mono ?_; rintro e w4 ⟨rfl, hb4⟩; obtain ⟨hc4, hf4, hs4⟩ := hb4.cells; have hz4_0 : w.heap.size < w4.heap.size := (by have h := hb4.le; (try simp at h); omega); have hc4_0 := hb4.cell (b := w.heap.size) (by first | omega | (simp; done) | (simp; omega)); have hf4_0 := hb4.frozen (b := w.heap.size) (by first | omega | (simp; done) | (simp; omega))) | (go_at_call 53; have _t := tok2; refine (rep_any 3 0 k h1 h2 _ _ (by first | (simp [go_sem]; done) | omega | (simp; omega)) (by first | (simp [go_sem]; done) | omega | (simp; omega)) (by first | (simp [go_sem]; done) | omega | (simp; omega))).mono ?_; rintro e w5 ⟨g5, rfl, hg5, hr5, hb5⟩; obtain ⟨hc5, hf5, hs5⟩ := hb5.cells; have hz5_0 : w.heap.size < w5.heap.size := (by have h := hb5.le; (try simp at h); omega); have hc5_0 := hb5.cell (b := w.heap.size) (by first | omega | (simp; done) | (simp; omega)); have hf5_0 := hb5.frozen (b := w.heap.size) (by first | omega | (simp; done) | (simp; omega)); clear tok2 hr5 hg5) | (go_at_call 47; refine (H3.out _ _ (lies1 _ _ _ _ g0 _ (by simp))).mono ?_; rintro e w6 ⟨rfl, hb6⟩; obtain ⟨hc6, hf6, hs6⟩ := hb6.cells; have hz6_0 : w.heap.size < w6.heap.size := (by have h := hb6.le; (try simp at h); omega); have hc6_0 := hb6.cell (b := w.heap.size) (by first | omega | (simp; done) | (simp; omega)); have hf6_0 := hb6.frozen (b := w.heap.size) (by first | omega | (simp; done) | (simp; omega))))
  refine (rep_any f n k h1 h2 _ _ (by first | (simp [go_sem]; done) | omega | (simp; omega)) (by first | (simp [go_sem]; done) | omega | (simp; omega)) (by first | (simp [go_sem]; done) | omega | (simp; omega))).mono ?_
  rintro e w7 ⟨g, rfl, hg, hr, hb7⟩
  have HR := Lib.hid hr; clear hr
  go_wp2
  have hext : Ext w w7 := (by repeat' (first | (with_reducible exact Ext.refl _) | (with_reducible assumption) | (with_reducible refine Ext.alloc ?_ _) | (with_reducible refine Ext.drew ?_) | (with_reducible refine Ext.drewN ?_ _) | (with_reducible refine Ext.setCell ?_ ?_ _) | (with_reducible refine Ext.trans ?_ (by assumption)) | go_size))
  refine ⟨_, results_tmp2 rfl _ _ _, ⟨g, rfl, ?_, HR.out, hext⟩⟩
  have h6 : Ext w w6 := (by repeat' (first | (with_reducible exact Ext.refl _) | (with_reducible assumption) | (with_reducible refine Ext.alloc ?_ _) | (with_reducible refine Ext.drew ?_) | (with_reducible refine Ext.drewN ?_ _) | (with_reducible refine Ext.setCell ?_ ?_ _) | (with_reducible refine Ext.trans ?_ (by assumption)) | go_size))
  have := h6.le
  simp at hg
  omega
end Go.Proofs.YtaddlhebhiehgaaDoor
