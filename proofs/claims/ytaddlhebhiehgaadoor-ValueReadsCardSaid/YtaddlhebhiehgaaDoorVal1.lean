/-
  The walks of package value, first part: cells, lists of cells, the first fault.
-/
import Derived.Test.YtaddlhebhiehgaaDoorRows
import Derived.Test.YtaddlhebhiehgaaDoorKit
namespace Go.Proofs.YtaddlhebhiehgaaDoor
open Go.RowKit Go.Shelf

def cellB (f n : Int) : Bool := if f = 0 then decide (-9999 ≤ n ∧ n ≤ 9999) else decide (f ≤ 4 ∧ n = 0)
theorem cellB_num (n : Int) (h1 : -9999 ≤ n) (h2 : n ≤ 9999) : cellB 0 n = true := by simp [cellB, h1, h2]
theorem cellB_bad (f : Int) (h1 : ¬ f = 0) (h2 : f ≤ 4) : cellB f 0 = true := by simp [cellB, h1, h2]

theorem isCell_any (f n : Int) (h0 : 0 ≤ f) (w : World) :
    Calls Tryd.prog 56 #[.agg #[.int .u8 f, .int .i64 n]] w fun e w' => e = .returned (.bool (cellB f n)) ∧ Ext w w' := by
  by_cases hf : f = 0
  · subst hf
    by_cases h1 : n < -9999
    · have e : cellB 0 n = false := by simp [cellB]; omega
      rw [e]
      go_enter Tryd.func56, Tryd.ntmps56
      go_wp2
      go_rounds 2
      go_returns
      exact ⟨rfl, (by repeat' (first | (with_reducible exact Ext.refl _) | (with_reducible assumption) | (with_reducible refine Ext.alloc ?_ _) | (with_reducible refine Ext.drew ?_) | (with_reducible refine Ext.drewN ?_ _) | (with_reducible refine Ext.setCell ?_ ?_ _) | (with_reducible refine Ext.trans ?_ (by assumption)) | go_size))⟩
    by_cases h2 : 9999 < n
    · have e : cellB 0 n = false := by simp [cellB]; omega
      rw [e]
      go_enter Tryd.func56, Tryd.ntmps56
      go_wp2
      go_rounds 2
      go_returns
      exact ⟨rfl, (by repeat' (first | (with_reducible exact Ext.refl _) | (with_reducible assumption) | (with_reducible refine Ext.alloc ?_ _) | (with_reducible refine Ext.drew ?_) | (with_reducible refine Ext.drewN ?_ _) | (with_reducible refine Ext.setCell ?_ ?_ _) | (with_reducible refine Ext.trans ?_ (by assumption)) | go_size))⟩
    · have e : cellB 0 n = true := by simp [cellB]; omega
      rw [e]
      go_enter Tryd.func56, Tryd.ntmps56
      go_wp2
      go_rounds 2
      all_goals go_returns
      exact ⟨rfl, (by repeat' (first | (with_reducible exact Ext.refl _) | (with_reducible assumption) | (with_reducible refine Ext.alloc ?_ _) | (with_reducible refine Ext.drew ?_) | (with_reducible refine Ext.drewN ?_ _) | (with_reducible refine Ext.setCell ?_ ?_ _) | (with_reducible refine Ext.trans ?_ (by assumption)) | go_size))⟩
  · by_cases h1 : f ≤ 4
    · by_cases h2 : n = 0
      · subst h2
        have e : cellB f 0 = true := cellB_bad f hf h1
        rw [e]
        go_enter Tryd.func56, Tryd.ntmps56
        go_wp2
        go_returns
        exact ⟨rfl, (by repeat' (first | (with_reducible exact Ext.refl _) | (with_reducible assumption) | (with_reducible refine Ext.alloc ?_ _) | (with_reducible refine Ext.drew ?_) | (with_reducible refine Ext.drewN ?_ _) | (with_reducible refine Ext.setCell ?_ ?_ _) | (with_reducible refine Ext.trans ?_ (by assumption)) | go_size))⟩
      · have e : cellB f n = false := by simp [cellB, hf, h2]
        have h3 : (n == 0) = false := by simp [h2]
        rw [e]
        go_enter Tryd.func56, Tryd.ntmps56
        go_wp2
        go_returns
        exact ⟨rfl, (by repeat' (first | (with_reducible exact Ext.refl _) | (with_reducible assumption) | (with_reducible refine Ext.alloc ?_ _) | (with_reducible refine Ext.drew ?_) | (with_reducible refine Ext.drewN ?_ _) | (with_reducible refine Ext.setCell ?_ ?_ _) | (with_reducible refine Ext.trans ?_ (by assumption)) | go_size))⟩
    · have e : cellB f n = false := by simp [cellB, hf]; omega
      rw [e]
      go_enter Tryd.func56, Tryd.ntmps56
      go_wp2
      go_returns
      exact ⟨rfl, (by repeat' (first | (with_reducible exact Ext.refl _) | (with_reducible assumption) | (with_reducible refine Ext.alloc ?_ _) | (with_reducible refine Ext.drew ?_) | (with_reducible refine Ext.drewN ?_ _) | (with_reducible refine Ext.setCell ?_ ?_ _) | (with_reducible refine Ext.trans ?_ (by assumption)) | go_size))⟩

/-- A list of cells lies in memory from block b, offset off on. -/
def Lies (w : World) (b off : Nat) (zs : List (Int × Int)) : Prop :=
  b < w.heap.size ∧ ∀ j, j < zs.length → 0 ≤ (zs[j]!).1 ∧ w.cell? ⟨b, off + j * 2, none⟩ = some (.int .u8 (zs[j]!).1) ∧ w.cell? ⟨b, off + j * 2 + 1, none⟩ = some (.int .i64 (zs[j]!).2)
theorem Lies.below {w w' : World} {b off : Nat} {zs : List (Int × Int)} (h : Lies w b off zs) (hb : Ext w w') : Lies w' b off zs :=
  ⟨Nat.lt_of_lt_of_le h.1 hb.le, fun j hj => ⟨(h.2 j hj).1, (hb.cell h.1 _).trans (h.2 j hj).2.1, (hb.cell h.1 _).trans (h.2 j hj).2.2⟩⟩

theorem areCells1_any (f n : Int) (h0 : 0 ≤ f) (w : World) :
    Calls Tryd.prog 76 #[.agg #[.int .u8 f, .int .i64 n]] w fun e w' => e = .returned (.bool (!cellB f n)) ∧ Ext w w' := by
  go_enter Tryd.func76, Tryd.ntmps76
  go_wp2_with (go_at_call 56; refine (isCell_any _ _ h0 _).mono ?_; rintro e w' ⟨rfl, hb⟩)
  go_returns
  exact ⟨rfl, (by repeat' (first | (with_reducible exact Ext.refl _) | (with_reducible assumption) | (with_reducible refine Ext.alloc ?_ _) | (with_reducible refine Ext.drew ?_) | (with_reducible refine Ext.drewN ?_ _) | (with_reducible refine Ext.setCell ?_ ?_ _) | (with_reducible refine Ext.trans ?_ (by assumption)) | go_size))⟩
theorem firstFault1_any (f n : Int) (w : World) :
    Calls Tryd.prog 78 #[.agg #[.int .u8 f, .int .i64 n]] w fun e w' => e = .returned (.bool (f != 0)) ∧ Ext w w' := by
  go_enter Tryd.func78, Tryd.ntmps78
  go_wp2
  go_returns
  exact ⟨rfl, (by repeat' (first | (with_reducible exact Ext.refl _) | (with_reducible assumption) | (with_reducible refine Ext.alloc ?_ _) | (with_reducible refine Ext.drew ?_) | (with_reducible refine Ext.drewN ?_ _) | (with_reducible refine Ext.setCell ?_ ?_ _) | (with_reducible refine Ext.trans ?_ (by assumption)) | go_size))⟩

def idxP (p : Int → Int → Bool) (zs : List (Int × Int)) : Int := match zs.findIdx? fun z => p z.1 z.2 with | some i => (i : Int) | none => -1
theorem idxP_hit (p : Int → Int → Bool) (zs : List (Int × Int)) (k : Nat) (hk : k < zs.length) (h : p (zs[k]!).1 (zs[k]!).2 = true) (hb : ∀ j, j < k → p (zs[j]!).1 (zs[j]!).2 = false) : idxP p zs = (k : Int) := by
  have : zs.findIdx? (fun z => p z.1 z.2) = some k := by
    rw [List.findIdx?_eq_some_iff_getElem]
    refine ⟨hk, by simpa [hk] using h, fun j hj => ?_⟩
    have := hb j hj
    simpa [Nat.lt_trans hj hk] using this
  simp [idxP, this]
theorem idxP_miss (p : Int → Int → Bool) (zs : List (Int × Int)) (hb : ∀ j, j < zs.length → p (zs[j]!).1 (zs[j]!).2 = false) : idxP p zs = -1 := by
  have : zs.findIdx? (fun z => p z.1 z.2) = none := by
    rw [List.findIdx?_eq_none_iff]
    intro x hx
    obtain ⟨j, hj, rfl⟩ := List.getElem_of_mem hx
    have := hb j hj
    simpa [hj] using this
  simp [idxP, this]

set_option maxHeartbeats 1000000 in
theorem indexFunc_some (p : Int → Int → Bool) (g : Nat) (eg : ∀ args w, (callFunc g args).run Tryd.prog w = .ok (.enter g args) w)
    (hp : ∀ (f n : Int) (W : World), 0 ≤ f → Calls Tryd.prog g #[.agg #[.int .u8 f, .int .i64 n]] W fun e w' => e = .returned (.bool (p f n)) ∧ Ext W w')
    (b off n c : Nat) (zs : List (Int × Int)) (w : World) (hn : zs.length = n) (hbig : n ≤ 9223372036854775807) (h : Lies w b off zs) :
    Calls Tryd.prog 77 #[.slice (some ⟨b, off, none⟩) n c, .func (.func g) #[] #[]] w fun e w' => e = .returned (.int .i64 (idxP p zs)) ∧ Ext w w' := by
  have HN := Lib.hid hn; clear hn
  have HL := Lib.hid h; clear h
  have HP := Lib.hid hp; clear hp
  go_enter Tryd.func77, Tryd.ntmps77
  go_wp2
  go_loopw [5, 8] (fun _ s8 wr => ∃ kk : Nat, kk ≤ n ∧ s8 = .int .i64 kk ∧ Hid (Ext w wr) ∧ Hid (∀ j, j < kk → p (zs[j]!).1 (zs[j]!).2 = false)) (fun _ s8 _ => n - (intOf s8).toNat)
  case atStart => exact ⟨0, Nat.zero_le _, rfl, Ext.refl w, fun j hj => absurd hj (Nat.not_lt_zero _)⟩
  case round =>
    obtain ⟨kk, hkk, rfl, BW, A⟩ := hrel
    by_cases hlt : kk < n
    · obtain ⟨h0, c0, c1⟩ := (HL.out.below BW.out).2 kk (by rw [HN.out]; exact hlt)
      have hcall := HP.out (zs[kk]!).1 (zs[kk]!).2 wr h0
      generalize hy : zs[kk]! = y at h0 c0 c1 hcall
      have HY := Lib.hid hy; clear hy
      obtain ⟨yf, yn⟩ := y
      simp only at h0 c0 c1 hcall
      cases hq : p yf yn with
      | true =>
        rw [hq] at hcall
        have HQ := Lib.hid hq; clear hq
        go_wp2_with (go_at_fn g; refine hcall.mono ?_; rintro e w' ⟨rfl, hb'⟩)
        go_returns
        have e1 := idxP_hit p zs kk (by rw [HN.out]; exact hlt) (by rw [HY.out]; exact HQ.out) A.out
        exact ⟨by rw [e1]; rfl, BW.out.trans hb'⟩
      | false =>
        rw [hq] at hcall
        have HQ := Lib.hid hq; clear hq
        go_wp2_with (go_at_fn g; refine hcall.mono ?_; rintro e w' ⟨rfl, hb'⟩)
        go_roundw
        case measure => simp [intOf]; omega
        case rel =>
          refine ⟨kk + 1, by omega, by go_num, BW.out.trans hb', (show Hid _ from fun j hj => ?_)⟩
          by_cases e : j = kk
          · subst e
            rw [HY.out]; exact HQ.out
          · exact A.out j (by omega)
    · have : kk = n := by omega
      subst this
      go_wp2
      go_returns
      have e1 := idxP_miss p zs (fun j hj => A.out j (by rw [HN.out] at hj; exact hj))
      exact ⟨by rw [e1]; rfl, BW.out⟩
end Go.Proofs.YtaddlhebhiehgaaDoor
