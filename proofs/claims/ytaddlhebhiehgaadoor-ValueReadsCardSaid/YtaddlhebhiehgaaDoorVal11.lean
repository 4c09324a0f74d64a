/-
  The walks of package value, eleventh part: Faults.
-/
import Derived.Test.YtaddlhebhiehgaaDoorVal10
namespace Go.Proofs.YtaddlhebhiehgaaDoor
open Go.RowKit Go.Shelf

def fbit (f : Int) : Int := if f = 1 then 1 else if f = 2 then 2 else if f = 3 then 4 else 8
def fstep (b : Int) (z : Int × Int) : Int := if z.1 = 0 then b else bits .or .u8 b (fbit z.1)
def faultsOf (zs : List (Int × Int)) : Int := zs.foldl fstep 0
theorem faults_snoc (zs : List (Int × Int)) (k : Nat) (hk : k < zs.length) : faultsOf (zs.take (k + 1)) = fstep (faultsOf (zs.take k)) zs[k]! := by
  rw [List.take_succ_eq_append_getElem hk]
  unfold faultsOf
  rw [List.foldl_append]
  simp [hk]
theorem cellB_le {f n : Int} (h0 : 0 ≤ f) (h : cellB f n = true) : f = 0 ∨ f = 1 ∨ f = 2 ∨ f = 3 ∨ f = 4 := by
  unfold cellB at h
  split at h
  · omega
  · simp at h; omega

set_option maxHeartbeats 1000000 in
theorem faults_some (b off n c : Nat) (zs : List (Int × Int)) (w : World) (hn : zs.length = n) (hbig : n ≤ 9223372036854775807) (h : Lies w b off zs) (ha : allB zs = true) :
    Calls Tryd.prog 32 #[.slice (some ⟨b, off, none⟩) n c] w fun e w' => e = .returned (.tuple #[.int .u8 (faultsOf zs), .int .i64 0]) ∧ Ext w w' := by
  have H := fun w' h => areCells_some b off n c zs w' hn hbig h
  rw [ha] at H
  have H := Lib.hid H
  have HL := Lib.hid h; clear h
  have HN := Lib.hid hn; clear hn
  have HA := Lib.hid ha; clear ha
  have hf0 := Lib.hid (show faultsOf (zs.take 0) = 0 by simp [faultsOf])
  go_enter Tryd.func32, Tryd.ntmps32
  go_wp2_with (go_at_call 46; refine (H.out _ HL.out).mono ?_; rintro e w1 ⟨rfl, hb1⟩; obtain ⟨hc1, hf1, hs1⟩ := hb1.cells)
  go_loopw [2, 11] (fun s2 s11 wr => ∃ kk : Nat, kk ≤ n ∧ s11 = .int .i64 kk ∧ s2 = .int .u8 (faultsOf (zs.take kk)) ∧ Hid (Ext w wr)) (fun _ s11 _ => n - (intOf s11).toNat)
  case atStart => exact ⟨0, Nat.zero_le _, rfl, by rw [hf0.out], hb1⟩
  case round =>
    obtain ⟨kk, hkk, rfl, rfl, BW⟩ := hrel
    by_cases hlt : kk < n
    · obtain ⟨h0, c0, c1⟩ := (HL.out.below BW.out).2 kk (by rw [HN.out]; exact hlt)
      have hcell : cellB (zs[kk]!).1 (zs[kk]!).2 = true := by
        have := HA.out
        unfold allB at this
        rw [List.all_eq_true] at this
        have hk : kk < zs.length := by rw [HN.out]; exact hlt
        have := this zs[kk] (List.getElem_mem hk)
        simpa [hk] using this
      have hst := Lib.hid (faults_snoc zs kk (by rw [HN.out]; exact hlt))
      generalize hy : zs[kk]! = y at h0 c0 c1 hcell hst
      clear hy
      obtain ⟨yf, yn⟩ := y
      simp only at h0 c0 c1 hcell
      generalize faultsOf (zs.take kk) = fb at hst
      rcases cellB_le h0 hcell with rfl | rfl | rfl | rfl | rfl
      all_goals
        clear hcell
        go_wp2
        go_roundw
        case measure => simp [intOf]; omega
        case rel =>
          exact ⟨kk + 1, by omega, by go_num, by rw [hst.out]; rfl, BW.out.alloc _⟩
    · have : kk = n := by omega
      subst this
      have he := Lib.hid (show faultsOf (zs.take zs.length) = faultsOf zs by rw [List.take_length])
      go_wp2
      go_ret2
      refine ⟨?_, BW.out⟩
      rw [← he.out, HN.out]
      rfl
theorem faults_bad (b off n c : Nat) (zs : List (Int × Int)) (w : World) (hn : zs.length = n) (hbig : n ≤ 9223372036854775807) (h : Lies w b off zs) (ha : allB zs = false) :
    Calls Tryd.prog 32 #[.slice (some ⟨b, off, none⟩) n c] w fun e w' => e = .returned (.tuple #[.int .u8 0, .int .i64 2]) ∧ Ext w w' := by
  have H := fun w' h => areCells_some b off n c zs w' hn hbig h
  rw [ha] at H
  have H := Lib.hid H
  have HL := Lib.hid h; clear h hn ha
  go_enter Tryd.func32, Tryd.ntmps32
  go_wp2_with (go_at_call 46; refine (H.out _ HL.out).mono ?_; rintro e w1 ⟨rfl, hb1⟩; obtain ⟨hc1, hf1, hs1⟩ := hb1.cells)
  go_ret2
  exact ⟨rfl, hb1⟩
theorem faults_none (a : Option Addr) (c : Nat) (w : World) :
    Calls Tryd.prog 32 #[.slice a 0 c] w fun e w' => e = .returned (.tuple #[.int .u8 0, .int .i64 0]) ∧ Ext w w' := by
  go_enter Tryd.func32, Tryd.ntmps32
  go_wp2_with (go_at_call 46; refine (areCells_none _ _ _).mono ?_; rintro e w1 ⟨rfl, hb1⟩; obtain ⟨hc1, hf1, hs1⟩ := hb1.cells)
  go_rounds 1
  go_ret2
  exact ⟨rfl, hb1⟩
end Go.Proofs.YtaddlhebhiehgaaDoor
