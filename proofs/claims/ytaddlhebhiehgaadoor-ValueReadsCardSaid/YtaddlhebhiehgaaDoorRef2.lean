/-
  The walks of package mistref07, second part: Make, the operations; quotients are counted.
-/
import Derived.Test.YtaddlhebhiehgaaDoorVal6
namespace Go.Proofs.YtaddlhebhiehgaaDoor
open Go.RowKit Go.Shelf

theorem refNumber_any (n : Int) (w : World) : Calls Tryd.prog 48 #[.int .i64 n] w fun e w' => e = .returned (.agg #[.int .u8 0, .int .i64 n]) ∧ Ext w w' := by
  go_enter Tryd.func48, Tryd.ntmps48
  go_wp2
  go_returns
  exact ⟨rfl, (by repeat' (first | (with_reducible exact Ext.refl _) | (with_reducible assumption) | (with_reducible refine Ext.alloc ?_ _) | (with_reducible refine Ext.drew ?_) | (with_reducible refine Ext.drewN ?_ _) | (with_reducible refine Ext.setCell ?_ ?_ _) | (with_reducible refine Ext.trans ?_ (by assumption)) | go_size))⟩
theorem refFault_any (n : Int) (w : World) : Calls Tryd.prog 50 #[.int .u8 n] w fun e w' => e = .returned (.agg #[.int .u8 n, .int .i64 0]) ∧ Ext w w' := by
  go_enter Tryd.func50, Tryd.ntmps50
  go_wp2
  go_returns
  exact ⟨rfl, (by repeat' (first | (with_reducible exact Ext.refl _) | (with_reducible assumption) | (with_reducible refine Ext.alloc ?_ _) | (with_reducible refine Ext.drew ?_) | (with_reducible refine Ext.drewN ?_ _) | (with_reducible refine Ext.setCell ?_ ?_ _) | (with_reducible refine Ext.trans ?_ (by assumption)) | go_size))⟩
theorem refBool_any (b : Bool) (w : World) : Calls Tryd.prog 49 #[.bool b] w fun e w' => e = .returned (.agg #[.int .u8 0, .int .i64 (bit b)]) ∧ Ext w w' := by
  cases b
  · go_enter Tryd.func49, Tryd.ntmps49
    go_wp2_with (go_at_call 48; refine (refNumber_any 0 _).mono ?_; rintro e w1 ⟨rfl, hb1⟩; obtain ⟨hc1, hf1, hs1⟩ := hb1.cells; have hz1_0 : w.heap.size < w1.heap.size := (by have h := hb1.le; (try simp at h); omega); have hc1_0 := hb1.cell (b := w.heap.size) (by first | omega | (simp; done) | (simp; omega)); have hf1_0 := hb1.frozen (b := w.heap.size) (by first | omega | (simp; done) | (simp; omega)))
    refine bodyPost_ret (v := .agg #[.int .u8 0, .int .i64 0]) (by simp [results, Tryd.results49, go_sem, *]) rfl ⟨rfl, (by repeat' (first | (with_reducible exact Ext.refl _) | (with_reducible assumption) | (with_reducible refine Ext.alloc ?_ _) | (with_reducible refine Ext.drew ?_) | (with_reducible refine Ext.drewN ?_ _) | (with_reducible refine Ext.setCell ?_ ?_ _) | (with_reducible refine Ext.trans ?_ (by assumption)) | go_size))⟩
  · go_enter Tryd.func49, Tryd.ntmps49
    go_wp2_with (go_at_call 48; refine (refNumber_any 1 _).mono ?_; rintro e w1 ⟨rfl, hb1⟩; obtain ⟨hc1, hf1, hs1⟩ := hb1.cells; have hz1_0 : w.heap.size < w1.heap.size := (by have h := hb1.le; (try simp at h); omega); have hc1_0 := hb1.cell (b := w.heap.size) (by first | omega | (simp; done) | (simp; omega)); have hf1_0 := hb1.frozen (b := w.heap.size) (by first | omega | (simp; done) | (simp; omega)))
    refine bodyPost_ret (v := .agg #[.int .u8 0, .int .i64 1]) (by simp [results, Tryd.results49, go_sem, *]) rfl ⟨rfl, (by repeat' (first | (with_reducible exact Ext.refl _) | (with_reducible assumption) | (with_reducible refine Ext.alloc ?_ _) | (with_reducible refine Ext.drew ?_) | (with_reducible refine Ext.drewN ?_ _) | (with_reducible refine Ext.setCell ?_ ?_ _) | (with_reducible refine Ext.trans ?_ (by assumption)) | go_size))⟩
theorem refMake_any (n : Int) (w : World) : Calls Tryd.prog 43 #[.int .i64 n] w fun e w' => e = .returned (.agg #[.int .u8 (mkF n), .int .i64 (mkN n)]) ∧ Ext w w' := by
  by_cases h1 : n < -9999
  · have e1 : mkF n = 2 := by unfold mkF; rw [if_neg (by omega)]
    have e2 : mkN n = 0 := by unfold mkN; rw [if_neg (by omega)]
    rw [e1, e2]
    clear e1 e2
    go_enter Tryd.func43, Tryd.ntmps43
    go_wp2_with (go_at_call 50; refine (refFault_any 2 _).mono ?_; rintro e w1 ⟨rfl, hb1⟩; obtain ⟨hc1, hf1, hs1⟩ := hb1.cells; have hz1_0 : w.heap.size < w1.heap.size := (by have h := hb1.le; (try simp at h); omega); have hc1_0 := hb1.cell (b := w.heap.size) (by first | omega | (simp; done) | (simp; omega)); have hf1_0 := hb1.frozen (b := w.heap.size) (by first | omega | (simp; done) | (simp; omega)))
    refine bodyPost_ret (v := .agg #[.int .u8 2, .int .i64 0]) (by simp [results, Tryd.results43, go_sem, *]) rfl ⟨rfl, (by repeat' (first | (with_reducible exact Ext.refl _) | (with_reducible assumption) | (with_reducible refine Ext.alloc ?_ _) | (with_reducible refine Ext.drew ?_) | (with_reducible refine Ext.drewN ?_ _) | (with_reducible refine Ext.setCell ?_ ?_ _) | (with_reducible refine Ext.trans ?_ (by assumption)) | go_size))⟩
  by_cases h2 : 9999 < n
  · have e1 : mkF n = 2 := by unfold mkF; rw [if_neg (by omega)]
    have e2 : mkN n = 0 := by unfold mkN; rw [if_neg (by omega)]
    rw [e1, e2]
    clear e1 e2
    go_enter Tryd.func43, Tryd.ntmps43
    go_wp2_with (go_at_call 50; refine (refFault_any 2 _).mono ?_; rintro e w1 ⟨rfl, hb1⟩; obtain ⟨hc1, hf1, hs1⟩ := hb1.cells; have hz1_0 : w.heap.size < w1.heap.size := (by have h := hb1.le; (try simp at h); omega); have hc1_0 := hb1.cell (b := w.heap.size) (by first | omega | (simp; done) | (simp; omega)); have hf1_0 := hb1.frozen (b := w.heap.size) (by first | omega | (simp; done) | (simp; omega)))
    refine bodyPost_ret (v := .agg #[.int .u8 2, .int .i64 0]) (by simp [results, Tryd.results43, go_sem, *]) rfl ⟨rfl, (by repeat' (first | (with_reducible exact Ext.refl _) | (with_reducible assumption) | (with_reducible refine Ext.alloc ?_ _) | (with_reducible refine Ext.drew ?_) | (with_reducible refine Ext.drewN ?_ _) | (with_reducible refine Ext.setCell ?_ ?_ _) | (with_reducible refine Ext.trans ?_ (by assumption)) | go_size))⟩
  · have e1 : mkF n = 0 := by unfold mkF; rw [if_pos (by omega)]
    have e2 : mkN n = n := by unfold mkN; rw [if_pos (by omega)]
    rw [e1, e2]
    clear e1 e2
    go_enter Tryd.func43, Tryd.ntmps43
    go_wp2_with (go_at_call 48; refine (refNumber_any _ _).mono ?_; rintro e w1 ⟨rfl, hb1⟩; obtain ⟨hc1, hf1, hs1⟩ := hb1.cells; have hz1_0 : w.heap.size < w1.heap.size := (by have h := hb1.le; (try simp at h); omega); have hc1_0 := hb1.cell (b := w.heap.size) (by first | omega | (simp; done) | (simp; omega)); have hf1_0 := hb1.frozen (b := w.heap.size) (by first | omega | (simp; done) | (simp; omega)))
    refine bodyPost_ret (v := .agg #[.int .u8 0, .int .i64 n]) (by simp [results, Tryd.results43, go_sem, *]) rfl ⟨rfl, (by repeat' (first | (with_reducible exact Ext.refl _) | (with_reducible assumption) | (with_reducible refine Ext.alloc ?_ _) | (with_reducible refine Ext.drew ?_) | (with_reducible refine Ext.drewN ?_ _) | (with_reducible refine Ext.setCell ?_ ?_ _) | (with_reducible refine Ext.trans ?_ (by assumption)) | go_size))⟩

theorem le_fdiv (a b n : Int) (hb : 0 < b) : n * b ≤ a ↔ n ≤ a.fdiv b := by
  rw [Int.fdiv_eq_ediv_of_nonneg _ (Int.le_of_lt hb)]
  exact (Int.le_ediv_iff_mul_le hb).symm
theorem quo_pos (a b : Int) (h1 : -9999 ≤ a) (h2 : a ≤ 9999) (h3 : 0 < b) (h4 : b ≤ 9999) : -9999 ≤ a.fdiv b ∧ a.fdiv b ≤ 9999 := fdiv_bd a b h1 h2 (by omega)
theorem mul_bd2 (n b : Int) (h1 : -10000 ≤ n) (h2 : n ≤ 10000) (h3 : 0 < b) (h4 : b ≤ 9999) : -99990000 ≤ n * b ∧ n * b ≤ 99990000 := by
  have h : (n * b).natAbs ≤ 10000 * 9999 := by rw [Int.natAbs_mul]; exact Nat.mul_le_mul (by omega) (by omega)
  omega

set_option maxHeartbeats 1000000 in
theorem quo_any (a b : Int) (h1 : -9999 ≤ a) (h2 : a ≤ 9999) (h3 : -9999 ≤ b) (h4 : b ≤ 9999) (h : ¬ b = 0) (w : World) :
    Calls Tryd.prog 51 #[.int .i64 a, .int .i64 b] w fun e w' => e = .returned (.int .i64 (a.fdiv b)) ∧ Ext w w' := by
  by_cases hb : b < 0
  · rw [← Int.neg_fdiv_neg]
    have hp : 0 < -b := by omega
    have hp2 : -b ≤ 9999 := by omega
    have hq := quo_pos (-a) (-b) (by omega) (by omega) hp hp2
    have HI := Lib.hid (fun n => le_fdiv (-a) (-b) n hp)
    have HM := Lib.hid (fun n h5 h6 => mul_bd2 n (-b) h5 h6 hp hp2)
    generalize (-a).fdiv (-b) = q at hq HI ⊢
    obtain ⟨q1, q2⟩ := hq
    go_enter Tryd.func51, Tryd.ntmps51
    go_wp2
    generalize -a = p at *
    generalize -b = d at *
    clear h1 h2 h3 h4 h hb
    go_loop [5] (fun s5 => ∃ n : Int, 0 ≤ n ∧ n ≤ 9999 ∧ (n ≤ q ∨ n = 0) ∧ s5 = .int .i64 n) (fun s5 => (10000 - intOf s5).toNat)
    case atStart => exact ⟨0, by omega, by omega, .inr rfl, rfl⟩
    case round =>
      obtain ⟨n, n1, n2, n3, rfl⟩ := hrel
      obtain ⟨m1, m2⟩ := HM.out (n + 1) (by omega) (by omega)
      have hw : IntKind.i64.wrap ((n + 1) * d) = (n + 1) * d := IntWalk.i64_in _ (by omega)
      by_cases hc : n + 1 ≤ q
      · have hm := (HI.out (n + 1)).2 hc
        go_wp2
        go_round
        case rel => exact ⟨n + 1, by omega, by omega, .inl hc, rfl⟩
        case measure => simp [intOf]; omega
      · have hm : ¬ (n + 1) * d ≤ p := fun h => hc ((HI.out (n + 1)).1 h)
        go_wp2
        clear hm hw m1 m2
        go_loop [5] (fun s5 => ∃ m : Int, q ≤ m ∧ m ≤ 9999 ∧ s5 = .int .i64 m) (fun s5 => (intOf s5 + 10000).toNat)
        case atStart => exact ⟨n, by omega, by omega, rfl⟩
        case round =>
          obtain ⟨m, k1, k2, rfl⟩ := hrel
          obtain ⟨m1, m2⟩ := HM.out m (by omega) (by omega)
          have hw : IntKind.i64.wrap (m * d) = m * d := IntWalk.i64_in _ (by omega)
          by_cases hc : m ≤ q
          · have hm : ¬ p < m * d := by have := (HI.out m).2 hc; omega
            obtain rfl : m = q := by omega
            go_wp2
            go_returns
            exact ⟨rfl, Ext.refl _⟩
          · have hm : p < m * d := by
              have : ¬ m * d ≤ p := fun h => hc ((HI.out m).1 h)
              omega
            go_wp2
            go_round
            case rel => exact ⟨m - 1, by omega, by omega, rfl⟩
            case measure => simp [intOf]; omega
  · have hp : 0 < b := by omega
    have hq := quo_pos a b h1 h2 hp h4
    have HI := Lib.hid (fun n => le_fdiv a b n hp)
    have HM := Lib.hid (fun n h5 h6 => mul_bd2 n b h5 h6 hp h4)
    generalize a.fdiv b = q at hq HI ⊢
    obtain ⟨q1, q2⟩ := hq
    go_enter Tryd.func51, Tryd.ntmps51
    go_wp2
    go_loop [5] (fun s5 => ∃ n : Int, 0 ≤ n ∧ n ≤ 9999 ∧ (n ≤ q ∨ n = 0) ∧ s5 = .int .i64 n) (fun s5 => (10000 - intOf s5).toNat)
    case atStart => exact ⟨0, by omega, by omega, .inr rfl, rfl⟩
    case round =>
      obtain ⟨n, n1, n2, n3, rfl⟩ := hrel
      obtain ⟨m1, m2⟩ := HM.out (n + 1) (by omega) (by omega)
      have hw : IntKind.i64.wrap ((n + 1) * b) = (n + 1) * b := IntWalk.i64_in _ (by omega)
      by_cases hc : n + 1 ≤ q
      · have hm := (HI.out (n + 1)).2 hc
        go_wp2
        go_round
        case rel => exact ⟨n + 1, by omega, by omega, .inl hc, rfl⟩
        case measure => simp [intOf]; omega
      · have hm : ¬ (n + 1) * b ≤ a := fun h => hc ((HI.out (n + 1)).1 h)
        go_wp2
        clear hm hw m1 m2
        go_loop [5] (fun s5 => ∃ m : Int, q ≤ m ∧ m ≤ 9999 ∧ s5 = .int .i64 m) (fun s5 => (intOf s5 + 10000).toNat)
        case atStart => exact ⟨n, by omega, by omega, rfl⟩
        case round =>
          obtain ⟨m, k1, k2, rfl⟩ := hrel
          obtain ⟨m1, m2⟩ := HM.out m (by omega) (by omega)
          have hw : IntKind.i64.wrap (m * b) = m * b := IntWalk.i64_in _ (by omega)
          by_cases hc : m ≤ q
          · have hm : ¬ a < m * b := by have := (HI.out m).2 hc; omega
            obtain rfl : m = q := by omega
            go_wp2
            go_returns
            exact ⟨rfl, Ext.refl _⟩
          · have hm : a < m * b := by
              have : ¬ m * b ≤ a := fun h => hc ((HI.out m).1 h)
              omega
            go_wp2
            go_round
            case rel => exact ⟨m - 1, by omega, by omega, rfl⟩
            case measure => simp [intOf]; omega
end Go.Proofs.YtaddlhebhiehgaaDoor
