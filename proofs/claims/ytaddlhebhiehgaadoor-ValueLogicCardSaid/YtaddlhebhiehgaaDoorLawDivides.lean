/-
  ValueDivides: the walk.
-/
import Derived.Test.YtaddlhebhiehgaaDoorKnown2
namespace Go.Proofs.YtaddlhebhiehgaaDoor.lawDivides
open Go.RowKit Go.Shelf

theorem tmod_bd (x : Int) : -9999 ≤ x.tmod 10000 ∧ x.tmod 10000 ≤ 9999 := by
  have h := (Go.Proofs.YtaddlhebhiehgaaDoor.tmod_bd x 10000 (by omega)).1 (by omega)
  omega
theorem is_any (f n : Int) (h0 : 0 ≤ f) (w : World) : Calls Tryd.prog 38 #[.agg #[.int .u8 f, .int .i64 n]] w fun e w' => e = .returned (.bool (cellB f n)) ∧ Ext w w' := by
  by_cases hf : f = 0
  · subst hf
    by_cases h1 : -9999 ≤ n
    · by_cases h2 : n ≤ 9999
      · rw [cellB_num n h1 h2]
        go_enter Tryd.func38, Tryd.ntmps38
        go_wp2
        go_returns
        exact ⟨rfl, (by repeat' (first | (with_reducible exact Ext.refl _) | (with_reducible assumption) | (with_reducible refine Ext.alloc ?_ _) | (with_reducible refine Ext.drew ?_) | (with_reducible refine Ext.drewN ?_ _) | (with_reducible refine Ext.setCell ?_ ?_ _) | (with_reducible refine Ext.trans ?_ (by assumption)) | go_size))⟩
      · rw [show cellB 0 n = false by simp [cellB]; omega]
        go_enter Tryd.func38, Tryd.ntmps38
        go_wp2
        go_returns
        exact ⟨rfl, (by repeat' (first | (with_reducible exact Ext.refl _) | (with_reducible assumption) | (with_reducible refine Ext.alloc ?_ _) | (with_reducible refine Ext.drew ?_) | (with_reducible refine Ext.drewN ?_ _) | (with_reducible refine Ext.setCell ?_ ?_ _) | (with_reducible refine Ext.trans ?_ (by assumption)) | go_size))⟩
    · rw [show cellB 0 n = false by simp [cellB]; omega]
      go_enter Tryd.func38, Tryd.ntmps38
      go_wp2
      go_returns
      exact ⟨rfl, (by repeat' (first | (with_reducible exact Ext.refl _) | (with_reducible assumption) | (with_reducible refine Ext.alloc ?_ _) | (with_reducible refine Ext.drew ?_) | (with_reducible refine Ext.drewN ?_ _) | (with_reducible refine Ext.setCell ?_ ?_ _) | (with_reducible refine Ext.trans ?_ (by assumption)) | go_size))⟩
  · have hpos : ¬ f = 0 := hf
    have hf' : (f == 0) = false := by simp [hf]
    by_cases h1 : f ≤ 4
    · by_cases h2 : n = 0
      · subst h2
        rw [cellB_bad f hf h1]
        go_enter Tryd.func38, Tryd.ntmps38
        go_wp2
        go_returns
        exact ⟨rfl, (by repeat' (first | (with_reducible exact Ext.refl _) | (with_reducible assumption) | (with_reducible refine Ext.alloc ?_ _) | (with_reducible refine Ext.drew ?_) | (with_reducible refine Ext.drewN ?_ _) | (with_reducible refine Ext.setCell ?_ ?_ _) | (with_reducible refine Ext.trans ?_ (by assumption)) | go_size))⟩
      · have h3 : (n == 0) = false := by simp [h2]
        rw [show cellB f n = false by simp [cellB, hf, h2]]
        go_enter Tryd.func38, Tryd.ntmps38
        go_wp2
        go_returns
        exact ⟨rfl, (by repeat' (first | (with_reducible exact Ext.refl _) | (with_reducible assumption) | (with_reducible refine Ext.alloc ?_ _) | (with_reducible refine Ext.drew ?_) | (with_reducible refine Ext.drewN ?_ _) | (with_reducible refine Ext.setCell ?_ ?_ _) | (with_reducible refine Ext.trans ?_ (by assumption)) | go_size))⟩
    · rw [show cellB f n = false by simp [cellB, hf]; omega]
      go_enter Tryd.func38, Tryd.ntmps38
      go_wp2
      go_returns
      exact ⟨rfl, (by repeat' (first | (with_reducible exact Ext.refl _) | (with_reducible assumption) | (with_reducible refine Ext.alloc ?_ _) | (with_reducible refine Ext.drew ?_) | (with_reducible refine Ext.drewN ?_ _) | (with_reducible refine Ext.setCell ?_ ?_ _) | (with_reducible refine Ext.trans ?_ (by assumption)) | go_size))⟩

set_option maxRecDepth 100000 in
set_option maxHeartbeats 1000000 in
theorem walk (x y : Int) (hx1 : -32768 ≤ x) (hx2 : x ≤ 32767) (hy1 : -32768 ≤ y) (hy2 : y ≤ 32767) (w : World) (hg : Glob w) :
    Calls Tryd.prog 8 #[.int .i16 x, .int .i16 y] w fun e w' => e = .returned (.bool true) ∧ Ext w w' := by
  obtain ⟨a1, a2⟩ := tmod_bd x
  obtain ⟨b1, b2⟩ := tmod_bd y
  obtain ⟨a, ha⟩ : ∃ a, a = x.tmod 10000 := ⟨_, rfl⟩
  obtain ⟨b, hb⟩ : ∃ b, b = y.tmod 10000 := ⟨_, rfl⟩
  rw [← ha] at a1 a2
  rw [← hb] at b1 b2
  have HA := Lib.hid ha.symm
  have HB := Lib.hid hb.symm
  clear ha hb
  go_enter Tryd.func8, Tryd.ntmps8
  go_wp2_with fail
  rw [HA.out]
  refine (num_any _ _).mono ?_
  rintro e w1 ⟨rfl, h1⟩
  go_wp2_with fail
  rw [HB.out]
  refine (num_any _ _).mono ?_
  rintro e w2 ⟨rfl, h2⟩
  clear HA HB hx1 hx2 hy1 hy2
  have Q1 := fun (W : World) (h : Ext ((w2.alloc (.cells #[.int .u8 0, .int .i64 a] 23)).alloc (.cells #[.int .u8 0, .int .i64 b] 23)) W) => cells_two h
  by_cases h0 : b = 0
  · subst h0
    have Q1 := Lib.hid Q1
    go_wp2_with fail
    refine (op2_num10z a 0 a1 a2 _).mono ?_
    rintro e w3 ⟨rfl, h3⟩
    have c3 := Q1.out w3 (by repeat' (first | (with_reducible exact Ext.refl _) | (with_reducible assumption) | (with_reducible refine Ext.alloc ?_ _) | (with_reducible refine Ext.drew ?_) | (with_reducible refine Ext.drewN ?_ _) | (with_reducible refine Ext.setCell ?_ ?_ _) | (with_reducible refine Ext.trans ?_ (by assumption)) | go_size))
    obtain ⟨c30, c31, c32, c33⟩ := c3
    have z3 := cell_lt c32
    have z30 := cell_lt c30
    go_wp2_with fail
    refine (op2_num11z a 0 a1 a2 _).mono ?_
    rintro e w4 ⟨rfl, h4⟩
    have c4 := Q1.out w4 (by repeat' (first | (with_reducible exact Ext.refl _) | (with_reducible assumption) | (with_reducible refine Ext.alloc ?_ _) | (with_reducible refine Ext.drew ?_) | (with_reducible refine Ext.drewN ?_ _) | (with_reducible refine Ext.setCell ?_ ?_ _) | (with_reducible refine Ext.trans ?_ (by assumption)) | go_size))
    obtain ⟨c40, c41, c42, c43⟩ := c4
    have z4 := cell_lt c42
    have z40 := cell_lt c40
    obtain ⟨d0, d1⟩ := cells_one (w := w3) (W := w4) (x := .int .u8 1) (y := .int .i64 0) (t := 23) (by repeat' (first | (with_reducible exact Ext.refl _) | (with_reducible assumption) | (with_reducible refine Ext.alloc ?_ _) | (with_reducible refine Ext.drew ?_) | (with_reducible refine Ext.drewN ?_ _) | (with_reducible refine Ext.setCell ?_ ?_ _) | (with_reducible refine Ext.trans ?_ (by assumption)) | go_size))
    have zd := cell_lt d0
    clear c30 c31 c32 c33 z3 z30
    go_wp2_with fail
    have hfin : Ext w (w4.alloc (.cells #[.int .u8 1, .int .i64 0] 23)) := (by repeat' (first | (with_reducible exact Ext.refl _) | (with_reducible assumption) | (with_reducible refine Ext.alloc ?_ _) | (with_reducible refine Ext.drew ?_) | (with_reducible refine Ext.drewN ?_ _) | (with_reducible refine Ext.setCell ?_ ?_ _) | (with_reducible refine Ext.trans ?_ (by assumption)) | go_size))
    have KS : ∀ W, Ext (w4.alloc (.cells #[.int .u8 1, .int .i64 0] 23)) W → (W.cell? ⟨w3.heap.size, 0, none⟩ = some (.int .u8 1) ∧ W.cell? ⟨w3.heap.size, 1, none⟩ = some (.int .i64 0) ∧ W.cell? ⟨w4.heap.size, 0, none⟩ = some (.int .u8 1) ∧ W.cell? ⟨w4.heap.size, 1, none⟩ = some (.int .i64 0)) := fun W h =>
      ⟨(Ext.cell (w := w4) (by repeat' (first | (with_reducible exact Ext.refl _) | (with_reducible assumption) | (with_reducible refine Ext.alloc ?_ _) | (with_reducible refine Ext.drew ?_) | (with_reducible refine Ext.drewN ?_ _) | (with_reducible refine Ext.setCell ?_ ?_ _) | (with_reducible refine Ext.trans ?_ (by assumption)) | go_size)) zd 0).trans d0, (Ext.cell (w := w4) (by repeat' (first | (with_reducible exact Ext.refl _) | (with_reducible assumption) | (with_reducible refine Ext.alloc ?_ _) | (with_reducible refine Ext.drew ?_) | (with_reducible refine Ext.drewN ?_ _) | (with_reducible refine Ext.setCell ?_ ?_ _) | (with_reducible refine Ext.trans ?_ (by assumption)) | go_size)) zd 1).trans d1, (cells_one h).1, (cells_one h).2⟩
    have KS := Lib.hid KS
    have hg' := Lib.hid (hg.ext hfin)
    have hfin := Lib.hid hfin
    clear h1 h2 h3 h4 Q1
    go_region_held3 (fun W => W.cell? ⟨w3.heap.size, 0, none⟩ = some (.int .u8 1) ∧ W.cell? ⟨w3.heap.size, 1, none⟩ = some (.int .i64 0) ∧ W.cell? ⟨w4.heap.size, 0, none⟩ = some (.int .u8 1) ∧ W.cell? ⟨w4.heap.size, 1, none⟩ = some (.int .i64 0)) (first | exact KS.out _ (by repeat' (first | (with_reducible exact Ext.refl _) | (with_reducible assumption) | (with_reducible refine Ext.alloc ?_ _) | (with_reducible refine Ext.drew ?_) | (with_reducible refine Ext.drewN ?_ _) | (with_reducible refine Ext.setCell ?_ ?_ _) | (with_reducible refine Ext.trans ?_ (by assumption)) | go_size))) (first | (go_at_call 39; refine (bad_any _ _).mono ?_; rintro e x2 ⟨rfl, y2⟩) | (go_at_call 17; refine (known_any _ (hg'.out.ext (by repeat' (first | (with_reducible exact Ext.refl _) | (with_reducible assumption) | (with_reducible refine Ext.alloc ?_ _) | (with_reducible refine Ext.drew ?_) | (with_reducible refine Ext.drewN ?_ _) | (with_reducible refine Ext.setCell ?_ ?_ _) | (with_reducible refine Ext.trans ?_ (by assumption)) | go_size)))).mono ?_; rintro e x3 ⟨rfl, y3⟩))
    go_wp2
    go_returns
    exact ⟨rfl, Ext.trans hfin.out (by repeat' (first | (with_reducible exact Ext.refl _) | (with_reducible assumption) | (with_reducible refine Ext.alloc ?_ _) | (with_reducible refine Ext.drew ?_) | (with_reducible refine Ext.drewN ?_ _) | (with_reducible refine Ext.setCell ?_ ?_ _) | (with_reducible refine Ext.trans ?_ (by assumption)) | go_size))⟩
  · have hq := fdiv_bd a b a1 a2 h0
    have hr := fmod_bd a b b1 b2 h0
    have hqr := Int.mul_fdiv_add_fmod a b
    have hsg : (0 < b → 0 ≤ a.fmod b ∧ a.fmod b < b) ∧ (b < 0 → a.fmod b ≤ 0 ∧ b < a.fmod b) := by
      constructor
      · intro hb
        exact ⟨Int.fmod_nonneg_of_pos a hb, Int.fmod_lt_of_pos a hb⟩
      · intro hb
        have h3 := Int.fmod_nonneg_of_pos (-a) (show 0 < -b by omega)
        have h4 := Int.fmod_lt_of_pos (-a) (show 0 < -b by omega)
        rw [Int.neg_fmod_neg] at h3 h4
        omega
    have H10 := Lib.hid (fun w' => op2_num10 a b a1 a2 b1 b2 h0 w')
    have H11 := Lib.hid (fun w' => op2_num11 a b a1 a2 b1 b2 h0 w')
    generalize a.fdiv b = q at hq hqr H10
    generalize a.fmod b = r at hr hqr hsg H11
    obtain ⟨q1, q2⟩ := hq
    obtain ⟨r1, r2⟩ := hr
    obtain ⟨m1, m2⟩ := mul_bd b q b1 b2 q1 q2
    have hw1 : IntKind.i64.wrap (b * q) = b * q := IntWalk.i64_in _ (by omega)
    have hcq := cellB_num q q1 q2
    have hcr := cellB_num r r1 r2
    have hI1 := fun w' => is_any 0 q (by omega) w'
    have hI2 := fun w' => is_any 0 r (by omega) w'
    rw [hcq] at hI1
    rw [hcr] at hI2
    have hI1 := Lib.hid hI1
    have hI2 := Lib.hid hI2
    clear hcq hcr
    have hne : (b * q + r != a) = false := by simp [hqr]
    have hs : IntKind.i64.wrap (b * q + r) = b * q + r := IntWalk.i64_in _ (by omega)
    have h0' : (b == 0) = false := by simp [h0]
    have hpos : 0 < b ∨ b < 0 := by omega
    have HQR := Lib.hid hqr
    clear hqr h0
    have Q1 := Lib.hid Q1
    go_wp2_with fail
    refine (H10.out _).mono ?_
    rintro e w3 ⟨rfl, h3⟩
    have c3 := Q1.out w3 (by repeat' (first | (with_reducible exact Ext.refl _) | (with_reducible assumption) | (with_reducible refine Ext.alloc ?_ _) | (with_reducible refine Ext.drew ?_) | (with_reducible refine Ext.drewN ?_ _) | (with_reducible refine Ext.setCell ?_ ?_ _) | (with_reducible refine Ext.trans ?_ (by assumption)) | go_size))
    obtain ⟨c30, c31, c32, c33⟩ := c3
    have z3 := cell_lt c32
    have z30 := cell_lt c30
    go_wp2_with fail
    refine (H11.out _).mono ?_
    rintro e w4 ⟨rfl, h4⟩
    have c4 := Q1.out w4 (by repeat' (first | (with_reducible exact Ext.refl _) | (with_reducible assumption) | (with_reducible refine Ext.alloc ?_ _) | (with_reducible refine Ext.drew ?_) | (with_reducible refine Ext.drewN ?_ _) | (with_reducible refine Ext.setCell ?_ ?_ _) | (with_reducible refine Ext.trans ?_ (by assumption)) | go_size))
    obtain ⟨c40, c41, c42, c43⟩ := c4
    have z4 := cell_lt c42
    have z40 := cell_lt c40
    obtain ⟨d0, d1⟩ := cells_one (w := w3) (W := w4) (x := .int .u8 0) (y := .int .i64 q) (t := 23) (by repeat' (first | (with_reducible exact Ext.refl _) | (with_reducible assumption) | (with_reducible refine Ext.alloc ?_ _) | (with_reducible refine Ext.drew ?_) | (with_reducible refine Ext.drewN ?_ _) | (with_reducible refine Ext.setCell ?_ ?_ _) | (with_reducible refine Ext.trans ?_ (by assumption)) | go_size))
    have zd := cell_lt d0
    clear c30 c31 c32 c33 z3 z30
    go_wp2_with fail
    have hfin : Ext w (w4.alloc (.cells #[.int .u8 0, .int .i64 r] 23)) := (by repeat' (first | (with_reducible exact Ext.refl _) | (with_reducible assumption) | (with_reducible refine Ext.alloc ?_ _) | (with_reducible refine Ext.drew ?_) | (with_reducible refine Ext.drewN ?_ _) | (with_reducible refine Ext.setCell ?_ ?_ _) | (with_reducible refine Ext.trans ?_ (by assumption)) | go_size))
    have KS : ∀ W, Ext (w4.alloc (.cells #[.int .u8 0, .int .i64 r] 23)) W → (W.cell? ⟨w2.heap.size, 1, none⟩ = some (.int .i64 a) ∧ W.cell? ⟨w2.heap.size + 1, 1, none⟩ = some (.int .i64 b) ∧ W.cell? ⟨w3.heap.size, 0, none⟩ = some (.int .u8 0) ∧ W.cell? ⟨w3.heap.size, 1, none⟩ = some (.int .i64 q) ∧ W.cell? ⟨w4.heap.size, 0, none⟩ = some (.int .u8 0) ∧ W.cell? ⟨w4.heap.size, 1, none⟩ = some (.int .i64 r)) := fun W h =>
      ⟨(Ext.cell (w := w4) (by repeat' (first | (with_reducible exact Ext.refl _) | (with_reducible assumption) | (with_reducible refine Ext.alloc ?_ _) | (with_reducible refine Ext.drew ?_) | (with_reducible refine Ext.drewN ?_ _) | (with_reducible refine Ext.setCell ?_ ?_ _) | (with_reducible refine Ext.trans ?_ (by assumption)) | go_size)) z40 1).trans c41, (Ext.cell (w := w4) (by repeat' (first | (with_reducible exact Ext.refl _) | (with_reducible assumption) | (with_reducible refine Ext.alloc ?_ _) | (with_reducible refine Ext.drew ?_) | (with_reducible refine Ext.drewN ?_ _) | (with_reducible refine Ext.setCell ?_ ?_ _) | (with_reducible refine Ext.trans ?_ (by assumption)) | go_size)) z4 1).trans c43, (Ext.cell (w := w4) (by repeat' (first | (with_reducible exact Ext.refl _) | (with_reducible assumption) | (with_reducible refine Ext.alloc ?_ _) | (with_reducible refine Ext.drew ?_) | (with_reducible refine Ext.drewN ?_ _) | (with_reducible refine Ext.setCell ?_ ?_ _) | (with_reducible refine Ext.trans ?_ (by assumption)) | go_size)) zd 0).trans d0, (Ext.cell (w := w4) (by repeat' (first | (with_reducible exact Ext.refl _) | (with_reducible assumption) | (with_reducible refine Ext.alloc ?_ _) | (with_reducible refine Ext.drew ?_) | (with_reducible refine Ext.drewN ?_ _) | (with_reducible refine Ext.setCell ?_ ?_ _) | (with_reducible refine Ext.trans ?_ (by assumption)) | go_size)) zd 1).trans d1, (cells_one h).1, (cells_one h).2⟩
    have KS := Lib.hid KS
    have hg' := Lib.hid (hg.ext hfin)
    have hfin := Lib.hid hfin
    have tok : True := trivial
    clear h1 h2 h3 h4 Q1 H10 H11
    obtain ⟨u1, u2, u3, u4, u5, u6⟩ := KS.out _ (Ext.refl _)
    rcases hpos with hb | hb
    · obtain ⟨s1, s2⟩ := hsg.1 hb
      clear hsg
      have t1 : decide (0 < b) = true := by simp; omega
      have t2 : decide (b < 0) = false := by simp; omega
      have t3 : decide (r < 0) = false := by simp; omega
      have t4 : decide (b ≤ r) = false := by simp; omega
      go_wp2_with (first | (go_at_call 38; have _t := tok; refine (hI1.out _).mono ?_; rintro e x2 ⟨rfl, y2⟩; clear tok u1 u2 u3 u4 u5 u6; obtain ⟨u1, u2, u3, u4, u5, u6⟩ := KS.out x2 (by repeat' (first | (with_reducible exact Ext.refl _) | (with_reducible assumption) | (with_reducible refine Ext.alloc ?_ _) | (with_reducible refine Ext.drew ?_) | (with_reducible refine Ext.drewN ?_ _) | (with_reducible refine Ext.setCell ?_ ?_ _) | (with_reducible refine Ext.trans ?_ (by assumption)) | go_size))) | (go_at_call 38; refine (hI2.out _).mono ?_; rintro e x3 ⟨rfl, y3⟩; clear u1 u2 u3 u4 u5 u6; obtain ⟨u1, u2, u3, u4, u5, u6⟩ := KS.out x3 (by repeat' (first | (with_reducible exact Ext.refl _) | (with_reducible assumption) | (with_reducible refine Ext.alloc ?_ _) | (with_reducible refine Ext.drew ?_) | (with_reducible refine Ext.drewN ?_ _) | (with_reducible refine Ext.setCell ?_ ?_ _) | (with_reducible refine Ext.trans ?_ (by assumption)) | go_size))) | (go_at_call 17; refine (known_any _ (hg'.out.ext (by repeat' (first | (with_reducible exact Ext.refl _) | (with_reducible assumption) | (with_reducible refine Ext.alloc ?_ _) | (with_reducible refine Ext.drew ?_) | (with_reducible refine Ext.drewN ?_ _) | (with_reducible refine Ext.setCell ?_ ?_ _) | (with_reducible refine Ext.trans ?_ (by assumption)) | go_size)))).mono ?_; rintro e x4 ⟨rfl, y4⟩))
      all_goals go_returns
      all_goals exact ⟨rfl, Ext.trans hfin.out (by repeat' (first | (with_reducible exact Ext.refl _) | (with_reducible assumption) | (with_reducible refine Ext.alloc ?_ _) | (with_reducible refine Ext.drew ?_) | (with_reducible refine Ext.drewN ?_ _) | (with_reducible refine Ext.setCell ?_ ?_ _) | (with_reducible refine Ext.trans ?_ (by assumption)) | go_size))⟩
    · obtain ⟨s1, s2⟩ := hsg.2 hb
      clear hsg
      have t1 : decide (0 < b) = false := by simp; omega
      have t2 : decide (b < 0) = true := by simp; omega
      have t3 : decide (0 < r) = false := by simp; omega
      have t4 : decide (r ≤ b) = false := by simp; omega
      go_wp2_with (first | (go_at_call 38; have _t := tok; refine (hI1.out _).mono ?_; rintro e x2 ⟨rfl, y2⟩; clear tok u1 u2 u3 u4 u5 u6; obtain ⟨u1, u2, u3, u4, u5, u6⟩ := KS.out x2 (by repeat' (first | (with_reducible exact Ext.refl _) | (with_reducible assumption) | (with_reducible refine Ext.alloc ?_ _) | (with_reducible refine Ext.drew ?_) | (with_reducible refine Ext.drewN ?_ _) | (with_reducible refine Ext.setCell ?_ ?_ _) | (with_reducible refine Ext.trans ?_ (by assumption)) | go_size))) | (go_at_call 38; refine (hI2.out _).mono ?_; rintro e x3 ⟨rfl, y3⟩; clear u1 u2 u3 u4 u5 u6; obtain ⟨u1, u2, u3, u4, u5, u6⟩ := KS.out x3 (by repeat' (first | (with_reducible exact Ext.refl _) | (with_reducible assumption) | (with_reducible refine Ext.alloc ?_ _) | (with_reducible refine Ext.drew ?_) | (with_reducible refine Ext.drewN ?_ _) | (with_reducible refine Ext.setCell ?_ ?_ _) | (with_reducible refine Ext.trans ?_ (by assumption)) | go_size))) | (go_at_call 17; refine (known_any _ (hg'.out.ext (by repeat' (first | (with_reducible exact Ext.refl _) | (with_reducible assumption) | (with_reducible refine Ext.alloc ?_ _) | (with_reducible refine Ext.drew ?_) | (with_reducible refine Ext.drewN ?_ _) | (with_reducible refine Ext.setCell ?_ ?_ _) | (with_reducible refine Ext.trans ?_ (by assumption)) | go_size)))).mono ?_; rintro e x4 ⟨rfl, y4⟩))
      all_goals go_returns
      all_goals exact ⟨rfl, Ext.trans hfin.out (by repeat' (first | (with_reducible exact Ext.refl _) | (with_reducible assumption) | (with_reducible refine Ext.alloc ?_ _) | (with_reducible refine Ext.drew ?_) | (with_reducible refine Ext.drewN ?_ _) | (with_reducible refine Ext.setCell ?_ ?_ _) | (with_reducible refine Ext.trans ?_ (by assumption)) | go_size))⟩
end Go.Proofs.YtaddlhebhiehgaaDoor.lawDivides
