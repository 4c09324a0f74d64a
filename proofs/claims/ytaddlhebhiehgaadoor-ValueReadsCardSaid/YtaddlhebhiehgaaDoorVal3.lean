/-
  The walks of package value, third part: Make, Check, the operations with one operand, Choose.
-/
import Derived.Test.YtaddlhebhiehgaaDoorVal2
namespace Go.Proofs.YtaddlhebhiehgaaDoor
open Go.RowKit Go.Shelf

def mkF (n : Int) : Int := if -9999 ≤ n ∧ n ≤ 9999 then 0 else 2
def mkN (n : Int) : Int := if -9999 ≤ n ∧ n ≤ 9999 then n else 0

theorem num_any (n : Int) (w : World) : Calls Tryd.prog 16 #[.int .i64 n] w fun e w' => e = .returned (.agg #[.int .u8 0, .int .i64 n]) ∧ Ext w w' := by
  go_enter Tryd.func16, Tryd.ntmps16
  go_wp2
  go_returns
  exact ⟨rfl, (by repeat' (first | (with_reducible exact Ext.refl _) | (with_reducible assumption) | (with_reducible refine Ext.alloc ?_ _) | (with_reducible refine Ext.drew ?_) | (with_reducible refine Ext.drewN ?_ _) | (with_reducible refine Ext.setCell ?_ ?_ _) | (with_reducible refine Ext.trans ?_ (by assumption)) | go_size))⟩
theorem bad_any (n : Int) (w : World) : Calls Tryd.prog 39 #[.int .u8 n] w fun e w' => e = .returned (.agg #[.int .u8 n, .int .i64 0]) ∧ Ext w w' := by
  go_enter Tryd.func39, Tryd.ntmps39
  go_wp2
  go_returns
  exact ⟨rfl, (by repeat' (first | (with_reducible exact Ext.refl _) | (with_reducible assumption) | (with_reducible refine Ext.alloc ?_ _) | (with_reducible refine Ext.drew ?_) | (with_reducible refine Ext.drewN ?_ _) | (with_reducible refine Ext.setCell ?_ ?_ _) | (with_reducible refine Ext.trans ?_ (by assumption)) | go_size))⟩
theorem fault_any (n : Int) (w : World) : Calls Tryd.prog 54 #[.int .u8 n] w fun e w' => e = .returned (.agg #[.int .u8 n, .int .i64 0]) ∧ Ext w w' := by
  go_enter Tryd.func54, Tryd.ntmps54
  go_wp2
  go_returns
  exact ⟨rfl, (by repeat' (first | (with_reducible exact Ext.refl _) | (with_reducible assumption) | (with_reducible refine Ext.alloc ?_ _) | (with_reducible refine Ext.drew ?_) | (with_reducible refine Ext.drewN ?_ _) | (with_reducible refine Ext.setCell ?_ ?_ _) | (with_reducible refine Ext.trans ?_ (by assumption)) | go_size))⟩

theorem make_any (n : Int) (w : World) : Calls Tryd.prog 42 #[.int .i64 n] w fun e w' => e = .returned (.agg #[.int .u8 (mkF n), .int .i64 (mkN n)]) ∧ Ext w w' := by
  by_cases h1 : n < -9999
  · have e1 : mkF n = 2 := by unfold mkF; rw [if_neg (by omega)]
    have e2 : mkN n = 0 := by unfold mkN; rw [if_neg (by omega)]
    rw [e1, e2]
    clear e1 e2
    go_enter Tryd.func42, Tryd.ntmps42
    go_wp2
    go_rounds 2
    go_returns
    exact ⟨rfl, (by repeat' (first | (with_reducible exact Ext.refl _) | (with_reducible assumption) | (with_reducible refine Ext.alloc ?_ _) | (with_reducible refine Ext.drew ?_) | (with_reducible refine Ext.drewN ?_ _) | (with_reducible refine Ext.setCell ?_ ?_ _) | (with_reducible refine Ext.trans ?_ (by assumption)) | go_size))⟩
  by_cases h2 : 9999 < n
  · have e1 : mkF n = 2 := by unfold mkF; rw [if_neg (by omega)]
    have e2 : mkN n = 0 := by unfold mkN; rw [if_neg (by omega)]
    rw [e1, e2]
    clear e1 e2
    go_enter Tryd.func42, Tryd.ntmps42
    go_wp2
    go_rounds 2
    go_returns
    exact ⟨rfl, (by repeat' (first | (with_reducible exact Ext.refl _) | (with_reducible assumption) | (with_reducible refine Ext.alloc ?_ _) | (with_reducible refine Ext.drew ?_) | (with_reducible refine Ext.drewN ?_ _) | (with_reducible refine Ext.setCell ?_ ?_ _) | (with_reducible refine Ext.trans ?_ (by assumption)) | go_size))⟩
  · have e1 : mkF n = 0 := by unfold mkF; rw [if_pos (by omega)]
    have e2 : mkN n = n := by unfold mkN; rw [if_pos (by omega)]
    rw [e1, e2]
    clear e1 e2
    go_enter Tryd.func42, Tryd.ntmps42
    go_wp2
    go_rounds 2
    go_returns
    exact ⟨rfl, (by repeat' (first | (with_reducible exact Ext.refl _) | (with_reducible assumption) | (with_reducible refine Ext.alloc ?_ _) | (with_reducible refine Ext.drew ?_) | (with_reducible refine Ext.drewN ?_ _) | (with_reducible refine Ext.setCell ?_ ?_ _) | (with_reducible refine Ext.trans ?_ (by assumption)) | go_size))⟩
theorem make_in (n : Int) (h1 : -9999 ≤ n) (h2 : n ≤ 9999) (w : World) : Calls Tryd.prog 42 #[.int .i64 n] w fun e w' => e = .returned (.agg #[.int .u8 0, .int .i64 n]) ∧ Ext w w' := by
  have h := make_any n w
  rwa [show mkF n = 0 by unfold mkF; rw [if_pos ⟨h1, h2⟩], show mkN n = n by unfold mkN; rw [if_pos ⟨h1, h2⟩]] at h

def bit (b : Bool) : Int := if b then 1 else 0
theorem truth_any (b : Bool) (w : World) : Calls Tryd.prog 90 #[.bool b] w fun e w' => e = .returned (.agg #[.int .u8 0, .int .i64 (bit b)]) ∧ Ext w w' := by
  cases b
  · go_enter Tryd.func90, Tryd.ntmps90
    go_wp2_with (go_at_call 42; refine (make_in 0 (by omega) (by omega) _).mono ?_; rintro e w1 ⟨rfl, hb1⟩; obtain ⟨hc1, hf1, hs1⟩ := hb1.cells)
    refine bodyPost_ret (v := .agg #[.int .u8 0, .int .i64 0]) (by simp [results, Tryd.results90, go_sem, *]) rfl ⟨rfl, (by repeat' (first | (with_reducible exact Ext.refl _) | (with_reducible assumption) | (with_reducible refine Ext.alloc ?_ _) | (with_reducible refine Ext.drew ?_) | (with_reducible refine Ext.drewN ?_ _) | (with_reducible refine Ext.setCell ?_ ?_ _) | (with_reducible refine Ext.trans ?_ (by assumption)) | go_size))⟩
  · go_enter Tryd.func90, Tryd.ntmps90
    go_wp2_with (go_at_call 42; refine (make_in 1 (by omega) (by omega) _).mono ?_; rintro e w1 ⟨rfl, hb1⟩; obtain ⟨hc1, hf1, hs1⟩ := hb1.cells)
    refine bodyPost_ret (v := .agg #[.int .u8 0, .int .i64 1]) (by simp [results, Tryd.results90, go_sem, *]) rfl ⟨rfl, (by repeat' (first | (with_reducible exact Ext.refl _) | (with_reducible assumption) | (with_reducible refine Ext.alloc ?_ _) | (with_reducible refine Ext.drew ?_) | (with_reducible refine Ext.drewN ?_ _) | (with_reducible refine Ext.setCell ?_ ?_ _) | (with_reducible refine Ext.trans ?_ (by assumption)) | go_size))⟩

theorem check_any (f n : Int) (h0 : 0 ≤ f) (w : World) : Calls Tryd.prog 40 #[.agg #[.int .u8 f, .int .i64 n]] w fun e w' => e = .returned (.int .i64 (if cellB f n then 0 else 2)) ∧ Ext w w' := by
  have H := fun w' => isCell_any f n h0 w'
  cases hb : cellB f n
  · rw [hb] at H
    clear hb
    have H := Lib.hid H
    go_enter Tryd.func40, Tryd.ntmps40
    go_wp2_with (go_at_call 56; refine (H.out _).mono ?_; rintro e w1 ⟨rfl, hb1⟩; obtain ⟨hc1, hf1, hs1⟩ := hb1.cells)
    go_returns
    exact ⟨rfl, (by repeat' (first | (with_reducible exact Ext.refl _) | (with_reducible assumption) | (with_reducible refine Ext.alloc ?_ _) | (with_reducible refine Ext.drew ?_) | (with_reducible refine Ext.drewN ?_ _) | (with_reducible refine Ext.setCell ?_ ?_ _) | (with_reducible refine Ext.trans ?_ (by assumption)) | go_size))⟩
  · rw [hb] at H
    clear hb
    have H := Lib.hid H
    go_enter Tryd.func40, Tryd.ntmps40
    go_wp2_with (go_at_call 56; refine (H.out _).mono ?_; rintro e w1 ⟨rfl, hb1⟩; obtain ⟨hc1, hf1, hs1⟩ := hb1.cells)
    go_returns
    exact ⟨rfl, (by repeat' (first | (with_reducible exact Ext.refl _) | (with_reducible assumption) | (with_reducible refine Ext.alloc ?_ _) | (with_reducible refine Ext.drew ?_) | (with_reducible refine Ext.drewN ?_ _) | (with_reducible refine Ext.setCell ?_ ?_ _) | (with_reducible refine Ext.trans ?_ (by assumption)) | go_size))⟩

theorem choose_err (fa na fb nb fc nc : Int) (h1 : 0 ≤ fa) (h2 : 0 ≤ fb) (h3 : 0 ≤ fc) (hno : (cellB fa na && cellB fb nb && cellB fc nc) = false) (w : World) :
    Calls Tryd.prog 19 #[.agg #[.int .u8 fa, .int .i64 na], .agg #[.int .u8 fb, .int .i64 nb], .agg #[.int .u8 fc, .int .i64 nc]] w fun e w' => e = .returned (.tuple #[.agg #[.int .u8 0, .int .i64 0], .int .i64 2]) ∧ Ext w w' := by
  have H := fun b w' h => areCells_some b 0 3 3 [(fa, na), (fb, nb), (fc, nc)] w' rfl (by omega) h
  rw [show allB [(fa, na), (fb, nb), (fc, nc)] = false by simpa [allB, Bool.and_assoc] using hno] at H
  clear hno
  have H := Lib.hid H
  go_enter Tryd.func19, Tryd.ntmps19
  go_wp2_with (go_at_call 46; refine (H.out _ _ (lies3 _ _ _ _ _ _ _ _ h1 h2 h3 _ (by simp))).mono ?_; rintro e w1 ⟨rfl, hb1⟩; obtain ⟨hc1, hf1, hs1⟩ := hb1.cells)
  refine bodyPost_ret (v := .tuple #[.agg #[.int .u8 0, .int .i64 0], .int .i64 2]) (by simp [results, Tryd.results19, go_sem, *]) rfl ⟨rfl, (by repeat' (first | (with_reducible exact Ext.refl _) | (with_reducible assumption) | (with_reducible refine Ext.alloc ?_ _) | (with_reducible refine Ext.drew ?_) | (with_reducible refine Ext.drewN ?_ _) | (with_reducible refine Ext.setCell ?_ ?_ _) | (with_reducible refine Ext.trans ?_ (by assumption)) | go_size))⟩

def chF (fa na fb fc : Int) : Int := if fa = 0 then (if na = 0 then fc else fb) else fa
theorem choose_ok (fa na fb nb fc nc : Int) (h1 : 0 ≤ fa) (h2 : 0 ≤ fb) (h3 : 0 ≤ fc) (a : cellB fa na = true) (b : cellB fb nb = true) (c : cellB fc nc = true) (w : World) :
    Calls Tryd.prog 19 #[.agg #[.int .u8 fa, .int .i64 na], .agg #[.int .u8 fb, .int .i64 nb], .agg #[.int .u8 fc, .int .i64 nc]] w fun e w' => e = .returned (.tuple #[.agg #[.int .u8 (chF fa na fb fc), .int .i64 (if fa = 0 then (if na = 0 then nc else nb) else na)], .int .i64 0]) ∧ Ext w w' := by
  have H := fun b w' h => areCells_some b 0 3 3 [(fa, na), (fb, nb), (fc, nc)] w' rfl (by omega) h
  rw [show allB [(fa, na), (fb, nb), (fc, nc)] = true by simp [allB, a, b, c]] at H
  clear a b c
  have H := Lib.hid H
  unfold chF
  by_cases hf : fa = 0
  · subst hf
    by_cases hn : na = 0
    · subst hn
      rw [if_pos rfl, if_pos rfl, if_pos rfl, if_pos rfl]
      go_enter Tryd.func19, Tryd.ntmps19
      go_wp2_with (go_at_call 46; refine (H.out _ _ (lies3 _ _ _ _ _ _ _ _ h1 h2 h3 _ (by simp))).mono ?_; rintro e w1 ⟨rfl, hb1⟩; obtain ⟨hc1, hf1, hs1⟩ := hb1.cells)
      refine bodyPost_ret (v := .tuple #[.agg #[.int .u8 fc, .int .i64 nc], .int .i64 0]) (by simp [results, Tryd.results19, go_sem, *]) rfl ⟨rfl, (by repeat' (first | (with_reducible exact Ext.refl _) | (with_reducible assumption) | (with_reducible refine Ext.alloc ?_ _) | (with_reducible refine Ext.drew ?_) | (with_reducible refine Ext.drewN ?_ _) | (with_reducible refine Ext.setCell ?_ ?_ _) | (with_reducible refine Ext.trans ?_ (by assumption)) | go_size))⟩
    · rw [if_pos rfl, if_neg hn, if_pos rfl, if_neg hn]
      go_enter Tryd.func19, Tryd.ntmps19
      go_wp2_with (go_at_call 46; refine (H.out _ _ (lies3 _ _ _ _ _ _ _ _ h1 h2 h3 _ (by simp))).mono ?_; rintro e w1 ⟨rfl, hb1⟩; obtain ⟨hc1, hf1, hs1⟩ := hb1.cells)
      refine bodyPost_ret (v := .tuple #[.agg #[.int .u8 fb, .int .i64 nb], .int .i64 0]) (by simp [results, Tryd.results19, go_sem, *]) rfl ⟨rfl, (by repeat' (first | (with_reducible exact Ext.refl _) | (with_reducible assumption) | (with_reducible refine Ext.alloc ?_ _) | (with_reducible refine Ext.drew ?_) | (with_reducible refine Ext.drewN ?_ _) | (with_reducible refine Ext.setCell ?_ ?_ _) | (with_reducible refine Ext.trans ?_ (by assumption)) | go_size))⟩
  · rw [if_neg hf, if_neg hf]
    go_enter Tryd.func19, Tryd.ntmps19
    go_wp2_with (go_at_call 46; refine (H.out _ _ (lies3 _ _ _ _ _ _ _ _ h1 h2 h3 _ (by simp))).mono ?_; rintro e w1 ⟨rfl, hb1⟩; obtain ⟨hc1, hf1, hs1⟩ := hb1.cells)
    refine bodyPost_ret (v := .tuple #[.agg #[.int .u8 fa, .int .i64 na], .int .i64 0]) (by simp [results, Tryd.results19, go_sem, *]) rfl ⟨rfl, (by repeat' (first | (with_reducible exact Ext.refl _) | (with_reducible assumption) | (with_reducible refine Ext.alloc ?_ _) | (with_reducible refine Ext.drew ?_) | (with_reducible refine Ext.drewN ?_ _) | (with_reducible refine Ext.setCell ?_ ?_ _) | (with_reducible refine Ext.trans ?_ (by assumption)) | go_size))⟩
end Go.Proofs.YtaddlhebhiehgaaDoor
