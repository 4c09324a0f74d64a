/-
  The walks of the reference's All, Form and Faults.
-/
import Derived.Test.YtaddlhebhiehgaaDoorRef4
import Derived.Test.YtaddlhebhiehgaaDoorRef1
import Derived.Test.YtaddlhebhiehgaaDoorVal11
import Derived.Test.YtaddlhebhiehgaaDoorVal14
namespace Go.Proofs.YtaddlhebhiehgaaDoor
open Go.RowKit Go.Shelf

set_option maxHeartbeats 1000000 in
theorem refAll_some (b off n c : Nat) (zs : List (Int × Int)) (w : World) (hz : zs.length = n) (hbig : n ≤ 9223372036854775807) (h : Lies w b off zs) :
    Calls Tryd.prog 20 #[.slice (some ⟨b, off, none⟩) n c] w fun e w' => e = .returned (.bool (allB zs)) ∧ Ext w w' := by
  have H1 := Lib.hid h; clear h
  have HZ := Lib.hid hz; clear hz
  go_enter Tryd.func20, Tryd.ntmps20
  go_wp2
  go_loopw [3] (fun s3 wr => ∃ kk : Nat, kk ≤ n ∧ s3 = .int .i64 kk ∧ Hid (Ext w wr) ∧ Hid (∀ j, j < kk → cellB (zs[j]!).1 (zs[j]!).2 = true)) (fun s3 _ => n - (intOf s3).toNat)
  case atStart => exact ⟨0, Nat.zero_le _, rfl, Ext.refl _, fun j hj => absurd hj (Nat.not_lt_zero _)⟩
  case round =>
    obtain ⟨kk, hkk, rfl, BW, A⟩ := hrel
    by_cases hlt : kk < n
    · obtain ⟨h0, c0, d0⟩ := (H1.out.below BW.out).2 kk (by rw [HZ.out]; exact hlt)
      generalize hx : zs[kk]! = x at h0 c0 d0
      have HX := Lib.hid hx; clear hx
      obtain ⟨xf, xn⟩ := x
      simp only at h0 c0 d0
      have hi1 : (kk : Int) < (n : Int) := by omega
      have HI := fun w' => refIs_any xf xn h0 w'
      cases hc : cellB xf xn with
      | true =>
        rw [hc] at HI
        have HI := Lib.hid HI
        have hc := Lib.hid hc
        go_wp2_with (go_at_call 15; refine (HI.out _).mono ?_; rintro e w1 ⟨rfl, hb1⟩)
        go_roundw
        case measure => simp [intOf]; omega
        case rel =>
          refine ⟨kk + 1, by omega, by go_num, BW.out.trans (by repeat' (first | (with_reducible exact Ext.refl _) | (with_reducible assumption) | (with_reducible refine Ext.alloc ?_ _) | (with_reducible refine Ext.drew ?_) | (with_reducible refine Ext.drewN ?_ _) | (with_reducible refine Ext.setCell ?_ ?_ _) | (with_reducible refine Ext.trans ?_ (by assumption)) | go_size)), (show Hid _ from fun j hj => ?_)⟩
          by_cases e : j = kk
          · subst e
            rw [HX.out]; exact hc.out
          · exact A.out j (by omega)
      | false =>
        rw [hc] at HI
        have HI := Lib.hid HI
        have hc := Lib.hid hc
        go_wp2_with (go_at_call 15; refine (HI.out _).mono ?_; rintro e w1 ⟨rfl, hb1⟩)
        go_returns
        have hfin : allB zs = false := by
          rw [allB, List.all_eq_false]
          refine ⟨zs[kk]!, ?_, by rw [HX.out, hc.out]; simp⟩
          rw [getElem!_pos zs kk (by rw [HZ.out]; exact hlt)]
          exact List.getElem_mem _
        exact ⟨by rw [hfin]; rfl, BW.out.trans (by repeat' (first | (with_reducible exact Ext.refl _) | (with_reducible assumption) | (with_reducible refine Ext.alloc ?_ _) | (with_reducible refine Ext.drew ?_) | (with_reducible refine Ext.drewN ?_ _) | (with_reducible refine Ext.setCell ?_ ?_ _) | (with_reducible refine Ext.trans ?_ (by assumption)) | go_size))⟩
    · obtain rfl : kk = n := by omega
      go_wp2
      go_returns
      have hfin : allB zs = true := by
        rw [allB, List.all_eq_true]
        intro z hz
        obtain ⟨j, hj, rfl⟩ := List.getElem_of_mem hz
        have := A.out j (by rw [← HZ.out]; exact hj)
        rwa [getElem!_pos zs j hj] at this
      exact ⟨by rw [hfin]; rfl, BW.out⟩
theorem refAll_none (a : Option Addr) (c : Nat) (w : World) :
    Calls Tryd.prog 20 #[.slice a 0 c] w fun e w' => e = .returned (.bool true) ∧ Ext w w' := by
  go_enter Tryd.func20, Tryd.ntmps20
  go_wp2
  go_rounds 1
  go_returns
  exact ⟨rfl, Ext.refl _⟩
theorem refForm_yes (a : Option Addr) (len cap : Nat) (wide : Int) (h : FormOk (len : Int) wide) (w : World) :
    Calls Tryd.prog 24 #[.slice a len cap, .int .i64 wide] w fun e w' => e = .returned (.bool true) ∧ Ext w w' := by
  obtain ⟨h1, h2, h3, h4, h5, h6⟩ := h
  have h7 : wide ≤ (len : Int) := by
    by_cases hc : wide ≤ (len : Int)
    · exact hc
    · rw [Int.emod_eq_of_lt (by omega) (by omega)] at h5; omega
  have h8 := div_small (len : Int) wide h1 h3 h4
  have h0 : (wide == 0) = false := by simp; omega
  have h5' : ((len : Int) % wide == 0) = true := by simp [h5]
  clear h5
  go_enter Tryd.func24, Tryd.ntmps24
  go_wp2
  go_returns
  exact ⟨rfl, Ext.refl _⟩
theorem refForm_no (a : Option Addr) (len cap : Nat) (wide : Int) (hlen : len ≤ 40) (h : ¬ FormOk (len : Int) wide) (w : World) :
    Calls Tryd.prog 24 #[.slice a len cap, .int .i64 wide] w fun e w' => e = .returned (.bool false) ∧ Ext w w' := by
  by_cases h1 : 1 ≤ wide
  · by_cases h2 : wide ≤ 8
    · by_cases h7 : wide ≤ (len : Int)
      · by_cases h4 : (len : Int) ≤ 8
        · have h8 := div_small (len : Int) wide h1 (by omega) h4
          have h0 : (wide == 0) = false := by simp; omega
          by_cases h5 : (len : Int) % wide = 0
          · have h6 : ¬ (len : Int) / wide ≤ 6 := fun h6 => h ⟨h1, h2, by omega, h4, h5, h6⟩
            have h5' : ((len : Int) % wide == 0) = true := by simp [h5]
            clear h5 h
            go_enter Tryd.func24, Tryd.ntmps24
            go_wp2
            go_returns
            exact ⟨rfl, Ext.refl _⟩
          · have h5' : ((len : Int) % wide == 0) = false := by simp [h5]
            clear h5 h
            go_enter Tryd.func24, Tryd.ntmps24
            go_wp2
            go_returns
            exact ⟨rfl, Ext.refl _⟩
        · clear h
          go_enter Tryd.func24, Tryd.ntmps24
          go_wp2
          go_returns
          exact ⟨rfl, Ext.refl _⟩
      · clear h
        go_enter Tryd.func24, Tryd.ntmps24
        go_wp2
        go_returns
        exact ⟨rfl, Ext.refl _⟩
    · clear h
      go_enter Tryd.func24, Tryd.ntmps24
      go_wp2
      go_returns
      exact ⟨rfl, Ext.refl _⟩
  · clear h
    go_enter Tryd.func24, Tryd.ntmps24
    go_wp2
    go_returns
    exact ⟨rfl, Ext.refl _⟩
end Go.Proofs.YtaddlhebhiehgaaDoor
