/-
  The walks of package mistref07, first part: Same, Is, All.
-/
import Derived.Test.YtaddlhebhiehgaaDoorVal17
namespace Go.Proofs.YtaddlhebhiehgaaDoor
open Go.RowKit Go.Shelf

theorem bne_v (f1 n1 f2 n2 : Int) (h : ¬ (f1 = f2 ∧ n1 = n2)) : f1 = f2 → n1 ≠ n2 := fun e e2 => h ⟨e, e2⟩
set_option maxHeartbeats 1000000 in
theorem same_lies (b1 o1 c1 b2 o2 c2 n : Nat) (zs ys : List (Int × Int)) (w : World) (hz : zs.length = n) (hy : ys.length = n) (hbig : n ≤ 9223372036854775807) (h1 : Lies w b1 o1 zs) (h2 : Lies w b2 o2 ys) :
    Calls Tryd.prog 23 #[.slice (some ⟨b1, o1, none⟩) n c1, .slice (some ⟨b2, o2, none⟩) n c2] w fun e w' => e = .returned (.bool (decide (zs = ys))) ∧ Ext w w' := by
  have H1 := Lib.hid h1; clear h1
  have H2 := Lib.hid h2; clear h2
  have HZ := Lib.hid hz; clear hz
  have HY := Lib.hid hy; clear hy
  go_enter Tryd.func23, Tryd.ntmps23
  go_wp2
  go_loopw [5] (fun s5 wr => ∃ kk : Nat, kk ≤ n ∧ s5 = .int .i64 kk ∧ Hid (Ext w wr) ∧ Hid (∀ j, j < kk → zs[j]! = ys[j]!)) (fun s5 _ => n - (intOf s5).toNat)
  case atStart => exact ⟨0, Nat.zero_le _, rfl, Ext.refl _, fun j hj => absurd hj (Nat.not_lt_zero _)⟩
  case round =>
    obtain ⟨kk, hkk, rfl, BW, A⟩ := hrel
    by_cases hlt : kk < n
    · obtain ⟨h0, c0, d0⟩ := (H1.out.below BW.out).2 kk (by rw [HZ.out]; exact hlt)
      obtain ⟨h0', c0', d0'⟩ := (H2.out.below BW.out).2 kk (by rw [HY.out]; exact hlt)
      generalize hx : zs[kk]! = x at h0 c0 d0
      generalize hy : ys[kk]! = y at h0' c0' d0'
      have HX := Lib.hid hx; clear hx
      have HYY := Lib.hid hy; clear hy
      obtain ⟨xf, xn⟩ := x
      obtain ⟨yf, yn⟩ := y
      simp only at h0 c0 d0 h0' c0' d0'
      have hi1 : (kk : Int) < (n : Int) := by omega
      by_cases he : xf = yf ∧ xn = yn
      · obtain ⟨rfl, rfl⟩ := he
        go_wp2
        go_quiet (fail)
        go_wp2
        go_roundw
        case measure => simp [intOf]; omega
        case rel =>
          refine ⟨kk + 1, by omega, by go_num, BW.out.drewN _, (show Hid _ from fun j hj => ?_)⟩
          by_cases e : j = kk
          · subst e
            rw [HX.out, HYY.out]
          · exact A.out j (by omega)
      · have hne := bne_v _ _ _ _ he
        have he := Lib.hid he
        by_cases hf : xf = yf
        · have hn := hne hf
          subst hf
          clear hne
          go_wp2
          go_quiet (fail)
          go_wp2
          go_returns
          have hfin : decide (zs = ys) = false := decide_eq_false fun e => by
            have := HX.out
            rw [e, HYY.out] at this
            have h3 := Prod.mk.inj this
            first | exact he.out ⟨h3.1.symm, h3.2.symm⟩ | exact he.out ⟨trivial, h3.2.symm⟩
          exact ⟨by rw [hfin]; rfl, BW.out.drewN _⟩
        · clear hne
          go_wp2
          go_quiet (fail)
          go_wp2
          go_returns
          have hfin : decide (zs = ys) = false := decide_eq_false fun e => by
            have := HX.out
            rw [e, HYY.out] at this
            have h3 := Prod.mk.inj this
            first | exact he.out ⟨h3.1.symm, h3.2.symm⟩ | exact he.out ⟨trivial, h3.2.symm⟩
          exact ⟨by rw [hfin]; rfl, BW.out.drewN _⟩
    · obtain rfl : kk = n := by omega
      go_wp2
      go_returns
      have hfin : decide (zs = ys) = true := decide_eq_true (by
        apply List.ext_getElem
        · rw [HZ.out, HY.out]
        · intro i a1 a2
          have := A.out i (by rw [← HZ.out]; exact a1)
          simpa [a1, a2] using this)
      exact ⟨by rw [hfin]; rfl, BW.out⟩
theorem same_len (a1 a2 : Option Addr) (n1 c1 n2 c2 : Nat) (h : ¬ n1 = n2) (w : World) :
    Calls Tryd.prog 23 #[.slice a1 n1 c1, .slice a2 n2 c2] w fun e w' => e = .returned (.bool false) ∧ Ext w w' := by
  have h' : ((n1 : Int) != (n2 : Int)) = true := by simp; omega
  go_enter Tryd.func23, Tryd.ntmps23
  go_wp2
  go_returns
  exact ⟨rfl, Ext.refl _⟩
theorem same_none (a1 a2 : Option Addr) (c1 c2 : Nat) (w : World) :
    Calls Tryd.prog 23 #[.slice a1 0 c1, .slice a2 0 c2] w fun e w' => e = .returned (.bool true) ∧ Ext w w' := by
  go_enter Tryd.func23, Tryd.ntmps23
  go_wp2
  go_rounds 1
  go_returns
  exact ⟨rfl, Ext.refl _⟩

theorem refIs_any (f n : Int) (h0 : 0 ≤ f) (w : World) : Calls Tryd.prog 15 #[.agg #[.int .u8 f, .int .i64 n]] w fun e w' => e = .returned (.bool (cellB f n)) ∧ Ext w w' := by
  by_cases hf : f = 0
  · subst hf
    by_cases h1 : -9999 ≤ n
    · by_cases h2 : n ≤ 9999
      · rw [cellB_num n h1 h2]
        go_enter Tryd.func15, Tryd.ntmps15
        go_wp2
        go_returns
        exact ⟨rfl, (by repeat' (first | (with_reducible exact Ext.refl _) | (with_reducible assumption) | (with_reducible refine Ext.alloc ?_ _) | (with_reducible refine Ext.drew ?_) | (with_reducible refine Ext.drewN ?_ _) | (with_reducible refine Ext.setCell ?_ ?_ _) | (with_reducible refine Ext.trans ?_ (by assumption)) | go_size))⟩
      · rw [show cellB 0 n = false by simp [cellB]; omega]
        go_enter Tryd.func15, Tryd.ntmps15
        go_wp2
        go_returns
        exact ⟨rfl, (by repeat' (first | (with_reducible exact Ext.refl _) | (with_reducible assumption) | (with_reducible refine Ext.alloc ?_ _) | (with_reducible refine Ext.drew ?_) | (with_reducible refine Ext.drewN ?_ _) | (with_reducible refine Ext.setCell ?_ ?_ _) | (with_reducible refine Ext.trans ?_ (by assumption)) | go_size))⟩
    · rw [show cellB 0 n = false by simp [cellB]; omega]
      go_enter Tryd.func15, Tryd.ntmps15
      go_wp2
      go_returns
      exact ⟨rfl, (by repeat' (first | (with_reducible exact Ext.refl _) | (with_reducible assumption) | (with_reducible refine Ext.alloc ?_ _) | (with_reducible refine Ext.drew ?_) | (with_reducible refine Ext.drewN ?_ _) | (with_reducible refine Ext.setCell ?_ ?_ _) | (with_reducible refine Ext.trans ?_ (by assumption)) | go_size))⟩
  · have hpos : 0 < f := by omega
    by_cases h1 : f ≤ 4
    · by_cases h2 : n = 0
      · subst h2
        rw [cellB_bad f hf h1]
        go_enter Tryd.func15, Tryd.ntmps15
        go_wp2
        go_returns
        exact ⟨rfl, (by repeat' (first | (with_reducible exact Ext.refl _) | (with_reducible assumption) | (with_reducible refine Ext.alloc ?_ _) | (with_reducible refine Ext.drew ?_) | (with_reducible refine Ext.drewN ?_ _) | (with_reducible refine Ext.setCell ?_ ?_ _) | (with_reducible refine Ext.trans ?_ (by assumption)) | go_size))⟩
      · have h3 : (n == 0) = false := by simp [h2]
        rw [show cellB f n = false by simp [cellB, hf, h2]]
        go_enter Tryd.func15, Tryd.ntmps15
        go_wp2
        go_returns
        exact ⟨rfl, (by repeat' (first | (with_reducible exact Ext.refl _) | (with_reducible assumption) | (with_reducible refine Ext.alloc ?_ _) | (with_reducible refine Ext.drew ?_) | (with_reducible refine Ext.drewN ?_ _) | (with_reducible refine Ext.setCell ?_ ?_ _) | (with_reducible refine Ext.trans ?_ (by assumption)) | go_size))⟩
    · rw [show cellB f n = false by simp [cellB, hf]; omega]
      go_enter Tryd.func15, Tryd.ntmps15
      go_wp2
      go_returns
      exact ⟨rfl, (by repeat' (first | (with_reducible exact Ext.refl _) | (with_reducible assumption) | (with_reducible refine Ext.alloc ?_ _) | (with_reducible refine Ext.drew ?_) | (with_reducible refine Ext.drewN ?_ _) | (with_reducible refine Ext.setCell ?_ ?_ _) | (with_reducible refine Ext.trans ?_ (by assumption)) | go_size))⟩
end Go.Proofs.YtaddlhebhiehgaaDoor
