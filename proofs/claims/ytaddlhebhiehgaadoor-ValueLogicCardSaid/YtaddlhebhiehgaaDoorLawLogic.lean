/-
  ValueLogic: the walk.
-/
import Derived.Test.YtaddlhebhiehgaaDoorLawKit
namespace Go.Proofs.YtaddlhebhiehgaaDoor.lawLogic
open Go.RowKit Go.Shelf Go.Proofs.YtaddlhebhiehgaaDoor.lawSums

/-- The cell that a byte is made into. -/
def cf (x : Int) : Int := if 1 < x % 6 ∧ x % 6 < 4 then 1 + x / 6 % 4 else 0
def cn (x : Int) : Int := if 1 < x % 6 ∧ x % 6 < 4 then 0 else x % 2

/-- The bytes, the kit, and the three cells. -/
def LAt (W : World) (b : Nat) (v0 v1 v2 a0 b0 a1 b1 a2 b2 : Int) : Prop :=
  b + 1 + 1 < W.heap.size ∧ (W.cell? ⟨b, 0, none⟩ = some (.int .u8 v0) ∧ W.cell? ⟨b, 1, none⟩ = some (.int .u8 v1) ∧ W.cell? ⟨b, 2, none⟩ = some (.int .u8 v2)) ∧
  (W.cell? ⟨b + 1, 0, none⟩ = some (.bool false) ∧ W.frozen? ⟨b + 1, 0, none⟩ = false) ∧
  (W.cell? ⟨b + 1 + 1, 0, none⟩ = some (.int .u8 a0) ∧ W.cell? ⟨b + 1 + 1, 1, none⟩ = some (.int .i64 b0) ∧ W.cell? ⟨b + 1 + 1, 2, none⟩ = some (.int .u8 a1) ∧ W.cell? ⟨b + 1 + 1, 3, none⟩ = some (.int .i64 b1) ∧ W.cell? ⟨b + 1 + 1, 4, none⟩ = some (.int .u8 a2) ∧ W.cell? ⟨b + 1 + 1, 5, none⟩ = some (.int .i64 b2)) ∧
  (W.frozen? ⟨b + 1 + 1, 0, none⟩ = false ∧ W.frozen? ⟨b + 1 + 1, 1, none⟩ = false ∧ W.frozen? ⟨b + 1 + 1, 2, none⟩ = false ∧ W.frozen? ⟨b + 1 + 1, 3, none⟩ = false ∧ W.frozen? ⟨b + 1 + 1, 4, none⟩ = false ∧ W.frozen? ⟨b + 1 + 1, 5, none⟩ = false)

theorem LAt.ext {W W' : World} {b : Nat} {v0 v1 v2 a0 b0 a1 b1 a2 b2 : Int} (h : LAt W b v0 v1 v2 a0 b0 a1 b1 a2 b2) (he : Ext W W') : LAt W' b v0 v1 v2 a0 b0 a1 b1 a2 b2 := by
  obtain ⟨z, ⟨x1, x2, x3⟩, ⟨k0, k1⟩, ⟨l0, l1, l2, l3, l4, l5⟩, ⟨g0, g1, g2, g3, g4, g5⟩⟩ := h
  have zb : b < W.heap.size := by omega
  have zk : b + 1 < W.heap.size := by omega
  exact ⟨Nat.lt_of_lt_of_le z he.le, ⟨(he.cell zb 0).trans x1, (he.cell zb 1).trans x2, (he.cell zb 2).trans x3⟩, ⟨(he.cell zk 0).trans k0, (he.frozen zk 0).trans k1⟩,
    ⟨(he.cell z 0).trans l0, (he.cell z 1).trans l1, (he.cell z 2).trans l2, (he.cell z 3).trans l3, (he.cell z 4).trans l4, (he.cell z 5).trans l5⟩,
    ⟨(he.frozen z 0).trans g0, (he.frozen z 1).trans g1, (he.frozen z 2).trans g2, (he.frozen z 3).trans g3, (he.frozen z 4).trans g4, (he.frozen z 5).trans g5⟩⟩

set_option maxRecDepth 100000 in
set_option maxHeartbeats 8000000 in
theorem walk (v0 v1 v2 : Int) (f1 n1 f2 n2 f3 n3 p1 q1 r1 s1 p2 q2 p3 q3 p4 q4 r2 s2 r3 s3 : Int) (hv0 : 0 ≤ v0) (hv0' : v0 ≤ 255) (hv1 : 0 ≤ v1) (hv1' : v1 ≤ 255) (hv2 : 0 ≤ v2) (hv2' : v2 ≤ 255)
    (e1 : Hid (cf v0 = f1 ∧ cn v0 = n1)) (e2 : Hid (cf v1 = f2 ∧ cn v1 = n2)) (e3 : Hid (cf v2 = f3 ∧ cn v2 = n3)) (w : World) (hg : Glob w)
    (HAB : Hid (∀ w', Calls Tryd.prog 14 #[.int .u8 15, .agg #[.int .u8 f1, .int .i64 n1], .agg #[.int .u8 f2, .int .i64 n2]] w' fun e w'' => e = .returned (.tuple #[.agg #[.int .u8 p1, .int .i64 q1], .int .i64 0]) ∧ Ext w' w''))
    (HNAB : Hid (∀ w', Calls Tryd.prog 41 #[.int .u8 6, .agg #[.int .u8 p1, .int .i64 q1]] w' fun e w'' => e = .returned (.tuple #[.agg #[.int .u8 r1, .int .i64 s1], .int .i64 0]) ∧ Ext w' w''))
    (HNA : Hid (∀ w', Calls Tryd.prog 41 #[.int .u8 6, .agg #[.int .u8 f1, .int .i64 n1]] w' fun e w'' => e = .returned (.tuple #[.agg #[.int .u8 p2, .int .i64 q2], .int .i64 0]) ∧ Ext w' w''))
    (HNB : Hid (∀ w', Calls Tryd.prog 41 #[.int .u8 6, .agg #[.int .u8 f2, .int .i64 n2]] w' fun e w'' => e = .returned (.tuple #[.agg #[.int .u8 p3, .int .i64 q3], .int .i64 0]) ∧ Ext w' w''))
    (HO1 : Hid (∀ w', Calls Tryd.prog 14 #[.int .u8 16, .agg #[.int .u8 p2, .int .i64 q2], .agg #[.int .u8 p3, .int .i64 q3]] w' fun e w'' => e = .returned (.tuple #[.agg #[.int .u8 r1, .int .i64 s1], .int .i64 0]) ∧ Ext w' w''))
    (HOB : Hid (∀ w', Calls Tryd.prog 14 #[.int .u8 16, .agg #[.int .u8 f1, .int .i64 n1], .agg #[.int .u8 f2, .int .i64 n2]] w' fun e w'' => e = .returned (.tuple #[.agg #[.int .u8 p4, .int .i64 q4], .int .i64 0]) ∧ Ext w' w''))
    (HNOB : Hid (∀ w', Calls Tryd.prog 41 #[.int .u8 6, .agg #[.int .u8 p4, .int .i64 q4]] w' fun e w'' => e = .returned (.tuple #[.agg #[.int .u8 r2, .int .i64 s2], .int .i64 0]) ∧ Ext w' w''))
    (HA2 : Hid (∀ w', Calls Tryd.prog 14 #[.int .u8 15, .agg #[.int .u8 p2, .int .i64 q2], .agg #[.int .u8 p3, .int .i64 q3]] w' fun e w'' => e = .returned (.tuple #[.agg #[.int .u8 r2, .int .i64 s2], .int .i64 0]) ∧ Ext w' w''))
    (HC1 : Hid (∀ w', Calls Tryd.prog 19 #[.agg #[.int .u8 f1, .int .i64 n1], .agg #[.int .u8 f2, .int .i64 n2], .agg #[.int .u8 0, .int .i64 0]] w' fun e w'' => e = .returned (.tuple #[.agg #[.int .u8 p1, .int .i64 q1], .int .i64 0]) ∧ Ext w' w''))
    (HC2 : Hid (∀ w', Calls Tryd.prog 19 #[.agg #[.int .u8 f1, .int .i64 n1], .agg #[.int .u8 0, .int .i64 1], .agg #[.int .u8 f2, .int .i64 n2]] w' fun e w'' => e = .returned (.tuple #[.agg #[.int .u8 p4, .int .i64 q4], .int .i64 0]) ∧ Ext w' w''))
    (HC3 : Hid (∀ w', Calls Tryd.prog 19 #[.agg #[.int .u8 p2, .int .i64 q2], .agg #[.int .u8 f2, .int .i64 n2], .agg #[.int .u8 f3, .int .i64 n3]] w' fun e w'' => e = .returned (.tuple #[.agg #[.int .u8 r3, .int .i64 s3], .int .i64 0]) ∧ Ext w' w''))
    (HC4 : Hid (∀ w', Calls Tryd.prog 19 #[.agg #[.int .u8 f1, .int .i64 n1], .agg #[.int .u8 f3, .int .i64 n3], .agg #[.int .u8 f2, .int .i64 n2]] w' fun e w'' => e = .returned (.tuple #[.agg #[.int .u8 r3, .int .i64 s3], .int .i64 0]) ∧ Ext w' w''))
    (HNN : Hid (∀ w', Calls Tryd.prog 41 #[.int .u8 6, .agg #[.int .u8 p2, .int .i64 q2]] w' fun e w'' => e = .returned (.tuple #[.agg #[.int .u8 f1, .int .i64 n1], .int .i64 0]) ∧ Ext w' w''))
    : Calls Tryd.prog 11 #[.agg #[.int .u8 v0, .int .u8 v1, .int .u8 v2]] w fun e w' => e = .returned (.bool true) ∧ Ext w w' := by
  go_enter Tryd.func11, Tryd.ntmps11
  go_upto_region 2 with fail
  obtain ⟨b, hbb⟩ : ∃ b, b = w.heap.size := ⟨_, rfl⟩
  have HB := Lib.hid hbb
  have KA : LAt _ b v0 v1 v2 0 0 0 0 0 0 := (by subst hbb; exact ⟨by simp, ⟨by simp [go_sem], by simp [go_sem], by simp [go_sem]⟩, ⟨by simp [go_sem], by simp [go_sem]⟩, ⟨by simp [go_sem], by simp [go_sem], by simp [go_sem], by simp [go_sem], by simp [go_sem], by simp [go_sem]⟩, ⟨by simp [go_sem], by simp [go_sem], by simp [go_sem], by simp [go_sem], by simp [go_sem], by simp [go_sem]⟩⟩ : LAt (((w.alloc (.cells #[.int .u8 v0, .int .u8 v1, .int .u8 v2] 67)).alloc (.cells #[.bool false] 60)).alloc (.cells #[.int .u8 0, .int .i64 0, .int .u8 0, .int .i64 0, .int .u8 0, .int .i64 0] 32)) b v0 v1 v2 0 0 0 0 0 0)
  have KA := Lib.hid KA
  rw [← hbb]
  clear hbb
  go_wp2_with fail
  go_loopw [5] (fun s5 wr => Hid (Ext w wr) ∧ ((s5 = .int .i64 0 ∧ Hid (LAt wr b v0 v1 v2 0 0 0 0 0 0)) ∨ (s5 = .int .i64 1 ∧ Hid (LAt wr b v0 v1 v2 f1 n1 0 0 0 0)) ∨ (s5 = .int .i64 2 ∧ Hid (LAt wr b v0 v1 v2 f1 n1 f2 n2 0 0)) ∨ (s5 = .int .i64 3 ∧ Hid (LAt wr b v0 v1 v2 f1 n1 f2 n2 f3 n3)))) (fun s5 _ => 3 - (intOf s5).toNat)
  case atStart => exact ⟨Lib.hid (by repeat' (first | (with_reducible exact Ext.refl _) | (with_reducible assumption) | (with_reducible refine Ext.alloc ?_ _) | (with_reducible refine Ext.drew ?_) | (with_reducible refine Ext.drewN ?_ _) | (with_reducible refine Ext.setCell ?_ ?_ _) | (with_reducible refine Ext.trans ?_ (by assumption)) | go_size)), .inl ⟨rfl, KA⟩⟩
  case round =>
    obtain ⟨E0, ⟨rfl, LA⟩ | ⟨rfl, LA⟩ | ⟨rfl, LA⟩ | ⟨rfl, LA⟩⟩ := hrel
    · obtain ⟨z, ⟨a1, a2, a3⟩, ⟨k0, k1⟩, ⟨l0, l1, l2, l3, l4, l5⟩, ⟨g0, g1, g2, g3, g4, g5⟩⟩ := LA.out
      clear HAB HNAB HNA HNB HO1 HOB HNOB HA2 HC1 HC2 HC3 HC4 HNN
      by_cases hc : 1 < v0 % 6 ∧ v0 % 6 < 4
      · have E := e1.out
        rw [cf, cn, if_pos hc, if_pos hc] at E
        obtain ⟨h1, h2⟩ := hc
        replace E := Lib.hid E
        have m1 : 0 ≤ v0 / 6 % 4 := by omega
        have m2 : v0 / 6 % 4 < 4 := by omega
        go_wp2_with (first | (go_at_call 16; refine (num_any _ _).mono ?_; rintro e x1 ⟨rfl, y1⟩; (try (have hz1_0 : b < x1.heap.size := (by have h := y1.le; (try simp at h); omega); have hc1_0 := y1.cell (b := b) (by first | omega | (simp; done) | (simp; omega)); have hf1_0 := y1.frozen (b := b) (by first | omega | (simp; done) | (simp; omega)))); (try (have hz1_1 : b + 1 < x1.heap.size := (by have h := y1.le; (try simp at h); omega); have hc1_1 := y1.cell (b := b + 1) (by first | omega | (simp; done) | (simp; omega)); have hf1_1 := y1.frozen (b := b + 1) (by first | omega | (simp; done) | (simp; omega)))); (try (have hz1_2 : b + 1 + 1 < x1.heap.size := (by have h := y1.le; (try simp at h); omega); have hc1_2 := y1.cell (b := b + 1 + 1) (by first | omega | (simp; done) | (simp; omega)); have hf1_2 := y1.frozen (b := b + 1 + 1) (by first | omega | (simp; done) | (simp; omega))))) | (go_at_call 39; refine (bad_any _ _).mono ?_; rintro e x2 ⟨rfl, y2⟩; (try (have hz2_0 : b < x2.heap.size := (by have h := y2.le; (try simp at h); omega); have hc2_0 := y2.cell (b := b) (by first | omega | (simp; done) | (simp; omega)); have hf2_0 := y2.frozen (b := b) (by first | omega | (simp; done) | (simp; omega)))); (try (have hz2_1 : b + 1 < x2.heap.size := (by have h := y2.le; (try simp at h); omega); have hc2_1 := y2.cell (b := b + 1) (by first | omega | (simp; done) | (simp; omega)); have hf2_1 := y2.frozen (b := b + 1) (by first | omega | (simp; done) | (simp; omega)))); (try (have hz2_2 : b + 1 + 1 < x2.heap.size := (by have h := y2.le; (try simp at h); omega); have hc2_2 := y2.cell (b := b + 1 + 1) (by first | omega | (simp; done) | (simp; omega)); have hf2_2 := y2.frozen (b := b + 1 + 1) (by first | omega | (simp; done) | (simp; omega))))))
        obtain ⟨rfl, rfl⟩ := E.out
        refine ⟨⟨Lib.hid ?_, .inr (.inl ⟨rfl, Lib.hid ?_⟩)⟩, by simp [intOf]⟩
        · have hE := E0.out
          have q := HB.out
          exact (by repeat' (first | (with_reducible exact Ext.refl _) | (with_reducible assumption) | (with_reducible refine Ext.alloc ?_ _) | (with_reducible refine Ext.drew ?_) | (with_reducible refine Ext.drewN ?_ _) | (with_reducible refine Ext.setCell ?_ ?_ _) | (with_reducible refine Ext.trans ?_ (by assumption)) | go_size))
        · refine ⟨?_, ⟨?_, ?_, ?_⟩, ⟨?_, ?_⟩, ⟨?_, ?_, ?_, ?_, ?_, ?_⟩, ⟨?_, ?_, ?_, ?_, ?_, ?_⟩⟩ <;> (first | omega | (simp [go_sem, *]; done) | (simp [go_sem, *]; omega) | exact World.cell?_setCell_same' _ _ _ (by simp [go_sem, hc2_2, hc1_2, l0, l1, l2, l3, l4, l5]))
      · have E := e1.out
        rw [cf, cn, if_neg hc, if_neg hc] at E
        replace E := Lib.hid E
        by_cases h1 : 1 < v0 % 6
        · have h2 : ¬ v0 % 6 < 4 := fun h => hc ⟨h1, h⟩
          clear hc
          go_wp2_with (first | (go_at_call 16; refine (num_any _ _).mono ?_; rintro e x1 ⟨rfl, y1⟩; (try (have hz1_0 : b < x1.heap.size := (by have h := y1.le; (try simp at h); omega); have hc1_0 := y1.cell (b := b) (by first | omega | (simp; done) | (simp; omega)); have hf1_0 := y1.frozen (b := b) (by first | omega | (simp; done) | (simp; omega)))); (try (have hz1_1 : b + 1 < x1.heap.size := (by have h := y1.le; (try simp at h); omega); have hc1_1 := y1.cell (b := b + 1) (by first | omega | (simp; done) | (simp; omega)); have hf1_1 := y1.frozen (b := b + 1) (by first | omega | (simp; done) | (simp; omega)))); (try (have hz1_2 : b + 1 + 1 < x1.heap.size := (by have h := y1.le; (try simp at h); omega); have hc1_2 := y1.cell (b := b + 1 + 1) (by first | omega | (simp; done) | (simp; omega)); have hf1_2 := y1.frozen (b := b + 1 + 1) (by first | omega | (simp; done) | (simp; omega))))))
          obtain ⟨rfl, rfl⟩ := E.out
          refine ⟨⟨Lib.hid ?_, .inr (.inl ⟨rfl, Lib.hid ?_⟩)⟩, by simp [intOf]⟩
          · have hE := E0.out
            have q := HB.out
            exact (by repeat' (first | (with_reducible exact Ext.refl _) | (with_reducible assumption) | (with_reducible refine Ext.alloc ?_ _) | (with_reducible refine Ext.drew ?_) | (with_reducible refine Ext.drewN ?_ _) | (with_reducible refine Ext.setCell ?_ ?_ _) | (with_reducible refine Ext.trans ?_ (by assumption)) | go_size))
          · refine ⟨?_, ⟨?_, ?_, ?_⟩, ⟨?_, ?_⟩, ⟨?_, ?_, ?_, ?_, ?_, ?_⟩, ⟨?_, ?_, ?_, ?_, ?_, ?_⟩⟩ <;> (first | omega | (simp [go_sem, *]; done) | (simp [go_sem, *]; omega) | exact World.cell?_setCell_same' _ _ _ (by simp [go_sem, hc2_2, hc1_2, l0, l1, l2, l3, l4, l5]))
        · clear hc
          go_wp2_with (first | (go_at_call 16; refine (num_any _ _).mono ?_; rintro e x1 ⟨rfl, y1⟩; (try (have hz1_0 : b < x1.heap.size := (by have h := y1.le; (try simp at h); omega); have hc1_0 := y1.cell (b := b) (by first | omega | (simp; done) | (simp; omega)); have hf1_0 := y1.frozen (b := b) (by first | omega | (simp; done) | (simp; omega)))); (try (have hz1_1 : b + 1 < x1.heap.size := (by have h := y1.le; (try simp at h); omega); have hc1_1 := y1.cell (b := b + 1) (by first | omega | (simp; done) | (simp; omega)); have hf1_1 := y1.frozen (b := b + 1) (by first | omega | (simp; done) | (simp; omega)))); (try (have hz1_2 : b + 1 + 1 < x1.heap.size := (by have h := y1.le; (try simp at h); omega); have hc1_2 := y1.cell (b := b + 1 + 1) (by first | omega | (simp; done) | (simp; omega)); have hf1_2 := y1.frozen (b := b + 1 + 1) (by first | omega | (simp; done) | (simp; omega))))))
          obtain ⟨rfl, rfl⟩ := E.out
          refine ⟨⟨Lib.hid ?_, .inr (.inl ⟨rfl, Lib.hid ?_⟩)⟩, by simp [intOf]⟩
          · have hE := E0.out
            have q := HB.out
            exact (by repeat' (first | (with_reducible exact Ext.refl _) | (with_reducible assumption) | (with_reducible refine Ext.alloc ?_ _) | (with_reducible refine Ext.drew ?_) | (with_reducible refine Ext.drewN ?_ _) | (with_reducible refine Ext.setCell ?_ ?_ _) | (with_reducible refine Ext.trans ?_ (by assumption)) | go_size))
          · refine ⟨?_, ⟨?_, ?_, ?_⟩, ⟨?_, ?_⟩, ⟨?_, ?_, ?_, ?_, ?_, ?_⟩, ⟨?_, ?_, ?_, ?_, ?_, ?_⟩⟩ <;> (first | omega | (simp [go_sem, *]; done) | (simp [go_sem, *]; omega) | exact World.cell?_setCell_same' _ _ _ (by simp [go_sem, hc2_2, hc1_2, l0, l1, l2, l3, l4, l5]))
    · obtain ⟨z, ⟨a1, a2, a3⟩, ⟨k0, k1⟩, ⟨l0, l1, l2, l3, l4, l5⟩, ⟨g0, g1, g2, g3, g4, g5⟩⟩ := LA.out
      clear HAB HNAB HNA HNB HO1 HOB HNOB HA2 HC1 HC2 HC3 HC4 HNN
      by_cases hc : 1 < v1 % 6 ∧ v1 % 6 < 4
      · have E := e2.out
        rw [cf, cn, if_pos hc, if_pos hc] at E
        obtain ⟨h1, h2⟩ := hc
        replace E := Lib.hid E
        have m1 : 0 ≤ v1 / 6 % 4 := by omega
        have m2 : v1 / 6 % 4 < 4 := by omega
        go_wp2_with (first | (go_at_call 16; refine (num_any _ _).mono ?_; rintro e x1 ⟨rfl, y1⟩; (try (have hz1_0 : b < x1.heap.size := (by have h := y1.le; (try simp at h); omega); have hc1_0 := y1.cell (b := b) (by first | omega | (simp; done) | (simp; omega)); have hf1_0 := y1.frozen (b := b) (by first | omega | (simp; done) | (simp; omega)))); (try (have hz1_1 : b + 1 < x1.heap.size := (by have h := y1.le; (try simp at h); omega); have hc1_1 := y1.cell (b := b + 1) (by first | omega | (simp; done) | (simp; omega)); have hf1_1 := y1.frozen (b := b + 1) (by first | omega | (simp; done) | (simp; omega)))); (try (have hz1_2 : b + 1 + 1 < x1.heap.size := (by have h := y1.le; (try simp at h); omega); have hc1_2 := y1.cell (b := b + 1 + 1) (by first | omega | (simp; done) | (simp; omega)); have hf1_2 := y1.frozen (b := b + 1 + 1) (by first | omega | (simp; done) | (simp; omega))))) | (go_at_call 39; refine (bad_any _ _).mono ?_; rintro e x2 ⟨rfl, y2⟩; (try (have hz2_0 : b < x2.heap.size := (by have h := y2.le; (try simp at h); omega); have hc2_0 := y2.cell (b := b) (by first | omega | (simp; done) | (simp; omega)); have hf2_0 := y2.frozen (b := b) (by first | omega | (simp; done) | (simp; omega)))); (try (have hz2_1 : b + 1 < x2.heap.size := (by have h := y2.le; (try simp at h); omega); have hc2_1 := y2.cell (b := b + 1) (by first | omega | (simp; done) | (simp; omega)); have hf2_1 := y2.frozen (b := b + 1) (by first | omega | (simp; done) | (simp; omega)))); (try (have hz2_2 : b + 1 + 1 < x2.heap.size := (by have h := y2.le; (try simp at h); omega); have hc2_2 := y2.cell (b := b + 1 + 1) (by first | omega | (simp; done) | (simp; omega)); have hf2_2 := y2.frozen (b := b + 1 + 1) (by first | omega | (simp; done) | (simp; omega))))))
        obtain ⟨rfl, rfl⟩ := E.out
        refine ⟨⟨Lib.hid ?_, .inr (.inr (.inl ⟨rfl, Lib.hid ?_⟩))⟩, by simp [intOf]⟩
        · have hE := E0.out
          have q := HB.out
          exact (by repeat' (first | (with_reducible exact Ext.refl _) | (with_reducible assumption) | (with_reducible refine Ext.alloc ?_ _) | (with_reducible refine Ext.drew ?_) | (with_reducible refine Ext.drewN ?_ _) | (with_reducible refine Ext.setCell ?_ ?_ _) | (with_reducible refine Ext.trans ?_ (by assumption)) | go_size))
        · refine ⟨?_, ⟨?_, ?_, ?_⟩, ⟨?_, ?_⟩, ⟨?_, ?_, ?_, ?_, ?_, ?_⟩, ⟨?_, ?_, ?_, ?_, ?_, ?_⟩⟩ <;> (first | omega | (simp [go_sem, *]; done) | (simp [go_sem, *]; omega) | exact World.cell?_setCell_same' _ _ _ (by simp [go_sem, hc2_2, hc1_2, l0, l1, l2, l3, l4, l5]))
      · have E := e2.out
        rw [cf, cn, if_neg hc, if_neg hc] at E
        replace E := Lib.hid E
        by_cases h1 : 1 < v1 % 6
        · have h2 : ¬ v1 % 6 < 4 := fun h => hc ⟨h1, h⟩
          clear hc
          go_wp2_with (first | (go_at_call 16; refine (num_any _ _).mono ?_; rintro e x1 ⟨rfl, y1⟩; (try (have hz1_0 : b < x1.heap.size := (by have h := y1.le; (try simp at h); omega); have hc1_0 := y1.cell (b := b) (by first | omega | (simp; done) | (simp; omega)); have hf1_0 := y1.frozen (b := b) (by first | omega | (simp; done) | (simp; omega)))); (try (have hz1_1 : b + 1 < x1.heap.size := (by have h := y1.le; (try simp at h); omega); have hc1_1 := y1.cell (b := b + 1) (by first | omega | (simp; done) | (simp; omega)); have hf1_1 := y1.frozen (b := b + 1) (by first | omega | (simp; done) | (simp; omega)))); (try (have hz1_2 : b + 1 + 1 < x1.heap.size := (by have h := y1.le; (try simp at h); omega); have hc1_2 := y1.cell (b := b + 1 + 1) (by first | omega | (simp; done) | (simp; omega)); have hf1_2 := y1.frozen (b := b + 1 + 1) (by first | omega | (simp; done) | (simp; omega))))))
          obtain ⟨rfl, rfl⟩ := E.out
          refine ⟨⟨Lib.hid ?_, .inr (.inr (.inl ⟨rfl, Lib.hid ?_⟩))⟩, by simp [intOf]⟩
          · have hE := E0.out
            have q := HB.out
            exact (by repeat' (first | (with_reducible exact Ext.refl _) | (with_reducible assumption) | (with_reducible refine Ext.alloc ?_ _) | (with_reducible refine Ext.drew ?_) | (with_reducible refine Ext.drewN ?_ _) | (with_reducible refine Ext.setCell ?_ ?_ _) | (with_reducible refine Ext.trans ?_ (by assumption)) | go_size))
          · refine ⟨?_, ⟨?_, ?_, ?_⟩, ⟨?_, ?_⟩, ⟨?_, ?_, ?_, ?_, ?_, ?_⟩, ⟨?_, ?_, ?_, ?_, ?_, ?_⟩⟩ <;> (first | omega | (simp [go_sem, *]; done) | (simp [go_sem, *]; omega) | exact World.cell?_setCell_same' _ _ _ (by simp [go_sem, hc2_2, hc1_2, l0, l1, l2, l3, l4, l5]))
        · clear hc
          go_wp2_with (first | (go_at_call 16; refine (num_any _ _).mono ?_; rintro e x1 ⟨rfl, y1⟩; (try (have hz1_0 : b < x1.heap.size := (by have h := y1.le; (try simp at h); omega); have hc1_0 := y1.cell (b := b) (by first | omega | (simp; done) | (simp; omega)); have hf1_0 := y1.frozen (b := b) (by first | omega | (simp; done) | (simp; omega)))); (try (have hz1_1 : b + 1 < x1.heap.size := (by have h := y1.le; (try simp at h); omega); have hc1_1 := y1.cell (b := b + 1) (by first | omega | (simp; done) | (simp; omega)); have hf1_1 := y1.frozen (b := b + 1) (by first | omega | (simp; done) | (simp; omega)))); (try (have hz1_2 : b + 1 + 1 < x1.heap.size := (by have h := y1.le; (try simp at h); omega); have hc1_2 := y1.cell (b := b + 1 + 1) (by first | omega | (simp; done) | (simp; omega)); have hf1_2 := y1.frozen (b := b + 1 + 1) (by first | omega | (simp; done) | (simp; omega))))))
          obtain ⟨rfl, rfl⟩ := E.out
          refine ⟨⟨Lib.hid ?_, .inr (.inr (.inl ⟨rfl, Lib.hid ?_⟩))⟩, by simp [intOf]⟩
          · have hE := E0.out
            have q := HB.out
            exact (by repeat' (first | (with_reducible exact Ext.refl _) | (with_reducible assumption) | (with_reducible refine Ext.alloc ?_ _) | (with_reducible refine Ext.drew ?_) | (with_reducible refine Ext.drewN ?_ _) | (with_reducible refine Ext.setCell ?_ ?_ _) | (with_reducible refine Ext.trans ?_ (by assumption)) | go_size))
          · refine ⟨?_, ⟨?_, ?_, ?_⟩, ⟨?_, ?_⟩, ⟨?_, ?_, ?_, ?_, ?_, ?_⟩, ⟨?_, ?_, ?_, ?_, ?_, ?_⟩⟩ <;> (first | omega | (simp [go_sem, *]; done) | (simp [go_sem, *]; omega) | exact World.cell?_setCell_same' _ _ _ (by simp [go_sem, hc2_2, hc1_2, l0, l1, l2, l3, l4, l5]))
    · obtain ⟨z, ⟨a1, a2, a3⟩, ⟨k0, k1⟩, ⟨l0, l1, l2, l3, l4, l5⟩, ⟨g0, g1, g2, g3, g4, g5⟩⟩ := LA.out
      clear HAB HNAB HNA HNB HO1 HOB HNOB HA2 HC1 HC2 HC3 HC4 HNN
      by_cases hc : 1 < v2 % 6 ∧ v2 % 6 < 4
      · have E := e3.out
        rw [cf, cn, if_pos hc, if_pos hc] at E
        obtain ⟨h1, h2⟩ := hc
        replace E := Lib.hid E
        have m1 : 0 ≤ v2 / 6 % 4 := by omega
        have m2 : v2 / 6 % 4 < 4 := by omega
        go_wp2_with (first | (go_at_call 16; refine (num_any _ _).mono ?_; rintro e x1 ⟨rfl, y1⟩; (try (have hz1_0 : b < x1.heap.size := (by have h := y1.le; (try simp at h); omega); have hc1_0 := y1.cell (b := b) (by first | omega | (simp; done) | (simp; omega)); have hf1_0 := y1.frozen (b := b) (by first | omega | (simp; done) | (simp; omega)))); (try (have hz1_1 : b + 1 < x1.heap.size := (by have h := y1.le; (try simp at h); omega); have hc1_1 := y1.cell (b := b + 1) (by first | omega | (simp; done) | (simp; omega)); have hf1_1 := y1.frozen (b := b + 1) (by first | omega | (simp; done) | (simp; omega)))); (try (have hz1_2 : b + 1 + 1 < x1.heap.size := (by have h := y1.le; (try simp at h); omega); have hc1_2 := y1.cell (b := b + 1 + 1) (by first | omega | (simp; done) | (simp; omega)); have hf1_2 := y1.frozen (b := b + 1 + 1) (by first | omega | (simp; done) | (simp; omega))))) | (go_at_call 39; refine (bad_any _ _).mono ?_; rintro e x2 ⟨rfl, y2⟩; (try (have hz2_0 : b < x2.heap.size := (by have h := y2.le; (try simp at h); omega); have hc2_0 := y2.cell (b := b) (by first | omega | (simp; done) | (simp; omega)); have hf2_0 := y2.frozen (b := b) (by first | omega | (simp; done) | (simp; omega)))); (try (have hz2_1 : b + 1 < x2.heap.size := (by have h := y2.le; (try simp at h); omega); have hc2_1 := y2.cell (b := b + 1) (by first | omega | (simp; done) | (simp; omega)); have hf2_1 := y2.frozen (b := b + 1) (by first | omega | (simp; done) | (simp; omega)))); (try (have hz2_2 : b + 1 + 1 < x2.heap.size := (by have h := y2.le; (try simp at h); omega); have hc2_2 := y2.cell (b := b + 1 + 1) (by first | omega | (simp; done) | (simp; omega)); have hf2_2 := y2.frozen (b := b + 1 + 1) (by first | omega | (simp; done) | (simp; omega))))))
        obtain ⟨rfl, rfl⟩ := E.out
        refine ⟨⟨Lib.hid ?_, .inr (.inr (.inr ⟨rfl, Lib.hid ?_⟩))⟩, by simp [intOf]⟩
        · have hE := E0.out
          have q := HB.out
          exact (by repeat' (first | (with_reducible exact Ext.refl _) | (with_reducible assumption) | (with_reducible refine Ext.alloc ?_ _) | (with_reducible refine Ext.drew ?_) | (with_reducible refine Ext.drewN ?_ _) | (with_reducible refine Ext.setCell ?_ ?_ _) | (with_reducible refine Ext.trans ?_ (by assumption)) | go_size))
        · refine ⟨?_, ⟨?_, ?_, ?_⟩, ⟨?_, ?_⟩, ⟨?_, ?_, ?_, ?_, ?_, ?_⟩, ⟨?_, ?_, ?_, ?_, ?_, ?_⟩⟩ <;> (first | omega | (simp [go_sem, *]; done) | (simp [go_sem, *]; omega) | exact World.cell?_setCell_same' _ _ _ (by simp [go_sem, hc2_2, hc1_2, l0, l1, l2, l3, l4, l5]))
      · have E := e3.out
        rw [cf, cn, if_neg hc, if_neg hc] at E
        replace E := Lib.hid E
        by_cases h1 : 1 < v2 % 6
        · have h2 : ¬ v2 % 6 < 4 := fun h => hc ⟨h1, h⟩
          clear hc
          go_wp2_with (first | (go_at_call 16; refine (num_any _ _).mono ?_; rintro e x1 ⟨rfl, y1⟩; (try (have hz1_0 : b < x1.heap.size := (by have h := y1.le; (try simp at h); omega); have hc1_0 := y1.cell (b := b) (by first | omega | (simp; done) | (simp; omega)); have hf1_0 := y1.frozen (b := b) (by first | omega | (simp; done) | (simp; omega)))); (try (have hz1_1 : b + 1 < x1.heap.size := (by have h := y1.le; (try simp at h); omega); have hc1_1 := y1.cell (b := b + 1) (by first | omega | (simp; done) | (simp; omega)); have hf1_1 := y1.frozen (b := b + 1) (by first | omega | (simp; done) | (simp; omega)))); (try (have hz1_2 : b + 1 + 1 < x1.heap.size := (by have h := y1.le; (try simp at h); omega); have hc1_2 := y1.cell (b := b + 1 + 1) (by first | omega | (simp; done) | (simp; omega)); have hf1_2 := y1.frozen (b := b + 1 + 1) (by first | omega | (simp; done) | (simp; omega))))))
          obtain ⟨rfl, rfl⟩ := E.out
          refine ⟨⟨Lib.hid ?_, .inr (.inr (.inr ⟨rfl, Lib.hid ?_⟩))⟩, by simp [intOf]⟩
          · have hE := E0.out
            have q := HB.out
            exact (by repeat' (first | (with_reducible exact Ext.refl _) | (with_reducible assumption) | (with_reducible refine Ext.alloc ?_ _) | (with_reducible refine Ext.drew ?_) | (with_reducible refine Ext.drewN ?_ _) | (with_reducible refine Ext.setCell ?_ ?_ _) | (with_reducible refine Ext.trans ?_ (by assumption)) | go_size))
          · refine ⟨?_, ⟨?_, ?_, ?_⟩, ⟨?_, ?_⟩, ⟨?_, ?_, ?_, ?_, ?_, ?_⟩, ⟨?_, ?_, ?_, ?_, ?_, ?_⟩⟩ <;> (first | omega | (simp [go_sem, *]; done) | (simp [go_sem, *]; omega) | exact World.cell?_setCell_same' _ _ _ (by simp [go_sem, hc2_2, hc1_2, l0, l1, l2, l3, l4, l5]))
        · clear hc
          go_wp2_with (first | (go_at_call 16; refine (num_any _ _).mono ?_; rintro e x1 ⟨rfl, y1⟩; (try (have hz1_0 : b < x1.heap.size := (by have h := y1.le; (try simp at h); omega); have hc1_0 := y1.cell (b := b) (by first | omega | (simp; done) | (simp; omega)); have hf1_0 := y1.frozen (b := b) (by first | omega | (simp; done) | (simp; omega)))); (try (have hz1_1 : b + 1 < x1.heap.size := (by have h := y1.le; (try simp at h); omega); have hc1_1 := y1.cell (b := b + 1) (by first | omega | (simp; done) | (simp; omega)); have hf1_1 := y1.frozen (b := b + 1) (by first | omega | (simp; done) | (simp; omega)))); (try (have hz1_2 : b + 1 + 1 < x1.heap.size := (by have h := y1.le; (try simp at h); omega); have hc1_2 := y1.cell (b := b + 1 + 1) (by first | omega | (simp; done) | (simp; omega)); have hf1_2 := y1.frozen (b := b + 1 + 1) (by first | omega | (simp; done) | (simp; omega))))))
          obtain ⟨rfl, rfl⟩ := E.out
          refine ⟨⟨Lib.hid ?_, .inr (.inr (.inr ⟨rfl, Lib.hid ?_⟩))⟩, by simp [intOf]⟩
          · have hE := E0.out
            have q := HB.out
            exact (by repeat' (first | (with_reducible exact Ext.refl _) | (with_reducible assumption) | (with_reducible refine Ext.alloc ?_ _) | (with_reducible refine Ext.drew ?_) | (with_reducible refine Ext.drewN ?_ _) | (with_reducible refine Ext.setCell ?_ ?_ _) | (with_reducible refine Ext.trans ?_ (by assumption)) | go_size))
          · refine ⟨?_, ⟨?_, ?_, ?_⟩, ⟨?_, ?_⟩, ⟨?_, ?_, ?_, ?_, ?_, ?_⟩, ⟨?_, ?_, ?_, ?_, ?_, ?_⟩⟩ <;> (first | omega | (simp [go_sem, *]; done) | (simp [go_sem, *]; omega) | exact World.cell?_setCell_same' _ _ _ (by simp [go_sem, hc2_2, hc1_2, l0, l1, l2, l3, l4, l5]))
    · go_wp2_with fail
      clear e1 e2 e3 KA
      have KT := Lib.hid (fun (W : World) (h : Ext wr W) => (show KitAt W (b + 1) from ⟨(LA.out.ext h).2.2.1.1, (LA.out.ext h).2.2.1.2⟩))
      have hg := Lib.hid (hg.ext E0.out)
      refine wp_region_held_drew (S := fun W => Ext wr W) (by kernel_rfl) ?_ (fun hS => ?_)
      · exact (by repeat' (first | (with_reducible exact Ext.refl _) | (with_reducible assumption) | (with_reducible refine Ext.alloc ?_ _) | (with_reducible refine Ext.drew ?_) | (with_reducible refine Ext.drewN ?_ _) | (with_reducible refine Ext.setCell ?_ ?_ _) | (with_reducible refine Ext.trans ?_ (by assumption)) | go_size))
      refine' wpAnyH_take (i := 0) (v := ?v0_1) rfl (by kernel_rfl) (by kernel_rfl) (by kernel_rfl) (fun _ _ _ h => h) (Or.inl ⟨by rfl, ?hy0_1⟩) (by assumption) ?rest0_1
      case hy0_1 => (intro w hSw; (obtain ⟨-, -, -, ⟨l0, l1, l2, l3, l4, l5⟩, -⟩ := LA.out.ext hSw); go_simp; (try with_reducible rfl))
      (try simp only [List.getElem_toArray, List.getElem_cons_zero, Act.put, List.setIfInBounds_toArray, List.set_cons_zero, List.set_cons_succ])
      refine' wpAnyH_take (i := 1) (v := ?v1_2) rfl (by kernel_rfl) (by kernel_rfl) (by kernel_rfl) (fun _ _ _ h => h) (Or.inl ⟨by rfl, ?hy1_2⟩) (by assumption) ?rest1_2
      case hy1_2 => (intro w hSw; (obtain ⟨-, -, -, ⟨l0, l1, l2, l3, l4, l5⟩, -⟩ := LA.out.ext hSw); go_simp; (try with_reducible rfl))
      (try simp only [List.getElem_toArray, List.getElem_cons_zero, List.getElem_cons_succ, Act.put, List.setIfInBounds_toArray, List.set_cons_zero, List.set_cons_succ])
      refine' wpAnyH_take (i := 2) (v := ?v2_3) rfl (by kernel_rfl) (by kernel_rfl) (by kernel_rfl) (fun _ _ _ h => h) (Or.inl ⟨by rfl, ?hy2_3⟩) (by assumption) ?rest2_3
      case hy2_3 => (intro w hSw; (obtain ⟨-, -, -, ⟨l0, l1, l2, l3, l4, l5⟩, -⟩ := LA.out.ext hSw); go_simp; (try with_reducible rfl))
      (try simp only [List.getElem_toArray, List.getElem_cons_zero, List.getElem_cons_succ, Act.put, List.setIfInBounds_toArray, List.set_cons_zero, List.set_cons_succ])
      refine' wpAnyH_take (i := 3) (v := ?v3_4) rfl (by kernel_rfl) (by kernel_rfl) (by kernel_rfl) (fun _ _ _ h => h) (Or.inl ⟨by rfl, ?hy3_4⟩) (by assumption) ?rest3_4
      case hy3_4 => (intro w hSw; (obtain ⟨-, -, -, ⟨l0, l1, l2, l3, l4, l5⟩, -⟩ := LA.out.ext hSw); go_simp; (try with_reducible rfl))
      (try simp only [List.getElem_toArray, List.getElem_cons_zero, List.getElem_cons_succ, Act.put, List.setIfInBounds_toArray, List.set_cons_zero, List.set_cons_succ])
      refine' wpAnyH_take (i := 4) (v := ?v4_5) rfl (by kernel_rfl) (by kernel_rfl) (by kernel_rfl) (fun _ _ _ h => h) (Or.inl ⟨by rfl, ?hy4_5⟩) (by assumption) ?rest4_5
      case hy4_5 => (intro w hSw; (obtain ⟨-, -, -, ⟨l0, l1, l2, l3, l4, l5⟩, -⟩ := LA.out.ext hSw); go_simp; (try with_reducible rfl))
      (try simp only [List.getElem_toArray, List.getElem_cons_zero, List.getElem_cons_succ, Act.put, List.setIfInBounds_toArray, List.set_cons_zero, List.set_cons_succ])
      refine' wpAnyH_take (i := 5) (v := ?v5_6) rfl (by kernel_rfl) (by kernel_rfl) (by kernel_rfl) (fun _ _ _ h => h) (Or.inl ⟨by rfl, ?hy5_6⟩) (by assumption) ?rest5_6
      case hy5_6 => (intro w hSw; (obtain ⟨-, -, -, ⟨l0, l1, l2, l3, l4, l5⟩, -⟩ := LA.out.ext hSw); go_simp; (try with_reducible rfl))
      (try simp only [List.getElem_toArray, List.getElem_cons_zero, List.getElem_cons_succ, Act.put, List.setIfInBounds_toArray, List.set_cons_zero, List.set_cons_succ])
      refine wpAnyH_slots [6, 7, 8, 9, 10, 11] [6, 7, 8] (fun L vs W => ∃ v1 v2 v3 : Value, vs = [v1, v2, v3] ∧ Ext wr W ∧ Slot wr W v1 (L 6) (L 9) (f1) (n1) ∧ Slot wr W v2 (L 7) (L 10) (f2) (n2) ∧ Slot wr W v3 (L 8) (L 11) (f3) (n3) ∧ (L 6 = true → L 7 = true → v1 ≠ v2) ∧ (L 6 = true → L 8 = true → v1 ≠ v3) ∧ (L 7 = true → L 8 = true → v2 ≠ v3)) (by kernel_rfl) (by kernel_rfl) ?h0wd ?hstepswd ?hendwd
      case h0wd => exact ⟨_, _, _, rfl, hS, ⟨(fun h => by cases h), (fun h => by cases h)⟩, ⟨(fun h => by cases h), (fun h => by cases h)⟩, ⟨(fun h => by cases h), (fun h => by cases h)⟩, (fun h => by cases h), (fun h => by cases h), (fun h => by cases h)⟩
      case hstepswd =>
        refine StepsInv.cons rfl ?_ (StepsInv.cons rfl ?_ (StepsInv.cons rfl ?_ (StepsInv.cons rfl ?_ (StepsInv.cons rfl ?_ (StepsInv.cons rfl ?_ StepsInv.nil)))))
        all_goals (try simp only [List.getElem_toArray, List.getElem_cons_zero, List.getElem_cons_succ])
        all_goals
          rintro L a w ⟨vs, ha, v1, v2, v3, rfl, hE, J1, J2, J3, D0_1, D0_2, D1_2⟩ hL hC
          obtain rfl := ha
          intro K' hK
          (try simp only [putAll, Act.put, List.setIfInBounds_toArray, List.set_cons_zero, List.set_cons_succ])
        · go_simp
          exact hK.out _ _ (hE.alloc _) ⟨[.pointer (some ⟨w.heap.size, 0, none⟩), v2, v3], rfl, _, _, _, rfl, hE.alloc _, J1.make _ hE hL rfl rfl, J2.ext (Ext.alloc (Ext.refl _) _), J3.ext (Ext.alloc (Ext.refl _) _), fun _ h => J2.fresh h, fun _ h => J3.fresh h, D1_2⟩
        · go_simp
          exact hK.out _ _ (hE.alloc _) ⟨[v1, .pointer (some ⟨w.heap.size, 0, none⟩), v3], rfl, _, _, _, rfl, hE.alloc _, J1.ext (Ext.alloc (Ext.refl _) _), J2.make _ hE hL rfl rfl, J3.ext (Ext.alloc (Ext.refl _) _), fun h _ => (J1.fresh h).symm, D0_2, fun _ h => J3.fresh h⟩
        · go_simp
          exact hK.out _ _ (hE.alloc _) ⟨[v1, v2, .pointer (some ⟨w.heap.size, 0, none⟩)], rfl, _, _, _, rfl, hE.alloc _, J1.ext (Ext.alloc (Ext.refl _) _), J2.ext (Ext.alloc (Ext.refl _) _), J3.make _ hE hL rfl rfl, D0_1, fun h _ => (J1.fresh h).symm, fun h _ => (J2.fresh h).symm⟩
        · have ca : L 6 = true := hC ⟨6, .data⟩ (by simp) rfl
          obtain ⟨g, x, y, rfl, hg, ho, -⟩ := J1.2 ca
          obtain ⟨⟨d0, d1⟩, f0, f1⟩ := id ho
          go_simp
          exact hK.out _ _ (Ext.setCell (Ext.setCell hE hg _) hg _) ⟨[_, v2, v3], rfl, _, _, _, rfl, Ext.setCell (Ext.setCell hE hg _) hg _, ⟨fun _ => ca, fun _ => ⟨g, _, _, rfl, hg, ho.set, fun _ => ⟨rfl, rfl⟩⟩⟩, J2.far (fun h => D0_1 ca h), J3.far (fun h => D0_2 ca h), D0_1, D0_2, D1_2⟩
        · have ca : L 7 = true := hC ⟨7, .data⟩ (by simp) rfl
          obtain ⟨g, x, y, rfl, hg, ho, -⟩ := J2.2 ca
          obtain ⟨⟨d0, d1⟩, f0, f1⟩ := id ho
          go_simp
          exact hK.out _ _ (Ext.setCell (Ext.setCell hE hg _) hg _) ⟨[v1, _, v3], rfl, _, _, _, rfl, Ext.setCell (Ext.setCell hE hg _) hg _, J1.far (fun h => (D0_1 h ca).symm), ⟨fun _ => ca, fun _ => ⟨g, _, _, rfl, hg, ho.set, fun _ => ⟨rfl, rfl⟩⟩⟩, J3.far (fun h => D1_2 ca h), D0_1, D0_2, D1_2⟩
        · have ca : L 8 = true := hC ⟨8, .data⟩ (by simp) rfl
          obtain ⟨g, x, y, rfl, hg, ho, -⟩ := J3.2 ca
          obtain ⟨⟨d0, d1⟩, f0, f1⟩ := id ho
          go_simp
          exact hK.out _ _ (Ext.setCell (Ext.setCell hE hg _) hg _) ⟨[v1, v2, _], rfl, _, _, _, rfl, Ext.setCell (Ext.setCell hE hg _) hg _, J1.far (fun h => (D0_2 h ca).symm), J2.far (fun h => (D1_2 h ca).symm), ⟨fun _ => ca, fun _ => ⟨g, _, _, rfl, hg, ho.set, fun _ => ⟨rfl, rfl⟩⟩⟩, D0_1, D0_2, D1_2⟩
      rintro L _ wd ⟨v1, v2, v3, rfl, Ewd, J1, J2, J3, D0_1, D0_2, D1_2⟩ hall
      obtain ⟨g6, x1, y1, rfl, -, ⟨B6, -⟩, ho⟩ := J1.2 (hall 6 (by simp))
      rw [(ho (hall 9 (by simp))).1, (ho (hall 9 (by simp))).2] at B6
      clear ho x1 y1
      obtain ⟨g7, x1, y1, rfl, -, ⟨B7, -⟩, ho⟩ := J2.2 (hall 7 (by simp))
      rw [(ho (hall 10 (by simp))).1, (ho (hall 10 (by simp))).2] at B7
      clear ho x1 y1
      obtain ⟨g8, x1, y1, rfl, -, ⟨B8, -⟩, ho⟩ := J3.2 (hall 8 (by simp))
      rw [(ho (hall 11 (by simp))).1, (ho (hall 11 (by simp))).2] at B8
      clear ho x1 y1
      clear hall J1 J2 J3 D0_1 D0_2 D1_2
      simp only [putAll, Act.put, List.setIfInBounds_toArray, List.set_cons_zero, List.set_cons_succ]
      clear LA
      have X0 : Ext wr wd := Ewd
      have BA := B6
      have BB := B7
      have BC := B8
      clear B6 B7 B8
      go_wp2_with fail
      refine wp_region_seq (S := fun W => Ext wd W) (R := Ext) (by kernel_rfl) Ext.refl ?_ ?_
      · exact (by repeat' (first | (with_reducible exact Ext.refl _) | (with_reducible assumption) | (with_reducible refine Ext.alloc ?_ _) | (with_reducible refine Ext.drew ?_) | (with_reducible refine Ext.drewN ?_ _) | (with_reducible refine Ext.setCell ?_ ?_ _) | (with_reducible refine Ext.trans ?_ (by assumption)) | go_size))
      refine' wpAnyR_take (i := 0) (v := ?v0_7) Ext.refl (fun _ _ _ => Ext.trans) rfl (by kernel_rfl) (by kernel_rfl) (by kernel_rfl) (fun _ _ _ h => h) (Or.inl (Or.inl ⟨by rfl, ?hy0_7⟩)) ?rest0_7
      case hy0_7 => (intro w hSw; (obtain ⟨c1, c2⟩ := BA.ext (hSw); obtain ⟨c3, c4⟩ := BB.ext (hSw); obtain ⟨c5, c6⟩ := BC.ext (hSw)); go_simp; (try with_reducible rfl))
      (try simp only [List.getElem_toArray, List.getElem_cons_zero, Act.put, List.setIfInBounds_toArray, List.set_cons_zero, List.set_cons_succ])
      refine' wpAnyR_take (i := 1) (v := ?v1_8) Ext.refl (fun _ _ _ => Ext.trans) rfl (by kernel_rfl) (by kernel_rfl) (by kernel_rfl) (fun _ _ _ h => h) (Or.inl (Or.inl ⟨by rfl, ?hy1_8⟩)) ?rest1_8
      case hy1_8 => (intro w hSw; (obtain ⟨c1, c2⟩ := BA.ext (hSw); obtain ⟨c3, c4⟩ := BB.ext (hSw); obtain ⟨c5, c6⟩ := BC.ext (hSw)); go_simp; (try with_reducible rfl))
      (try simp only [List.getElem_toArray, List.getElem_cons_zero, List.getElem_cons_succ, Act.put, List.setIfInBounds_toArray, List.set_cons_zero, List.set_cons_succ])
      refine' wpAnyR_take (i := 2) (v := ?v2_9) Ext.refl (fun _ _ _ => Ext.trans) rfl (by kernel_rfl) (by kernel_rfl) (by kernel_rfl) (fun _ _ _ h => h) (Or.inl (Or.inl ⟨by rfl, ?hy2_9⟩)) ?rest2_9
      case hy2_9 => (intro w hSw; (obtain ⟨c1, c2⟩ := BA.ext (hSw); obtain ⟨c3, c4⟩ := BB.ext (hSw); obtain ⟨c5, c6⟩ := BC.ext (hSw)); go_simp; (try with_reducible rfl))
      (try simp only [List.getElem_toArray, List.getElem_cons_zero, List.getElem_cons_succ, Act.put, List.setIfInBounds_toArray, List.set_cons_zero, List.set_cons_succ])
      refine' wpAnyR_take (i := 3) (v := ?v3_10) Ext.refl (fun _ _ _ => Ext.trans) rfl (by kernel_rfl) (by kernel_rfl) (by kernel_rfl) (fun _ _ _ h => h) (Or.inl (Or.inl ⟨by rfl, ?hy3_10⟩)) ?rest3_10
      case hy3_10 => (intro w hSw; (obtain ⟨c1, c2⟩ := BA.ext (hSw); obtain ⟨c3, c4⟩ := BB.ext (hSw); obtain ⟨c5, c6⟩ := BC.ext (hSw)); go_simp; (try with_reducible rfl))
      (try simp only [List.getElem_toArray, List.getElem_cons_zero, List.getElem_cons_succ, Act.put, List.setIfInBounds_toArray, List.set_cons_zero, List.set_cons_succ])
      refine' wpAnyR_take (i := 4) (v := .agg #[.int .u8 p1, .int .i64 q1]) Ext.refl (fun _ _ _ => Ext.trans) rfl (by kernel_rfl) (by kernel_rfl) (by kernel_rfl) (fun _ _ _ h => h) (Or.inr ⟨by rfl, 37, _, ?hx4_11, ?hy4_11⟩) ?rest4_11
      case hx4_11 => (intro w hSw; go_simp; (try with_reducible rfl))
      case hy4_11 => exact fun w hE => (two_any _ 15 f1 n1 f2 n2 p1 q1 _ ((KT.out _ (Ext.trans X0 hE))) HAB).mono (fun _ _ h => ⟨h.1, h.2, Ext.trans hE h.2⟩)
      (try simp only [List.getElem_toArray, List.getElem_cons_zero, List.getElem_cons_succ, Act.put, List.setIfInBounds_toArray, List.set_cons_zero, List.set_cons_succ])
      refine' wpAnyR_take (i := 5) (v := .agg #[.int .u8 r1, .int .i64 s1]) Ext.refl (fun _ _ _ => Ext.trans) rfl (by kernel_rfl) (by kernel_rfl) (by kernel_rfl) (fun _ _ _ h => h) (Or.inr ⟨by rfl, 35, _, ?hx5_12, ?hy5_12⟩) ?rest5_12
      case hx5_12 => (intro w hSw; go_simp; (try with_reducible rfl))
      case hy5_12 => exact fun w hE => (one_any _ 6 p1 q1 r1 s1 _ ((KT.out _ (Ext.trans X0 hE))) HNAB).mono (fun _ _ h => ⟨h.1, h.2, Ext.trans hE h.2⟩)
      (try simp only [List.getElem_toArray, List.getElem_cons_zero, List.getElem_cons_succ, Act.put, List.setIfInBounds_toArray, List.set_cons_zero, List.set_cons_succ])
      refine' wpAnyR_take (i := 6) (v := ?v6_13) Ext.refl (fun _ _ _ => Ext.trans) rfl (by kernel_rfl) (by kernel_rfl) (by kernel_rfl) (fun _ _ _ h => h) (Or.inl (Or.inl ⟨by rfl, ?hy6_13⟩)) ?rest6_13
      case hy6_13 => (intro w hSw; (obtain ⟨c1, c2⟩ := BA.ext (hSw); obtain ⟨c3, c4⟩ := BB.ext (hSw); obtain ⟨c5, c6⟩ := BC.ext (hSw)); go_simp; (try with_reducible rfl))
      (try simp only [List.getElem_toArray, List.getElem_cons_zero, List.getElem_cons_succ, Act.put, List.setIfInBounds_toArray, List.set_cons_zero, List.set_cons_succ])
      refine' wpAnyR_take (i := 7) (v := ?v7_14) Ext.refl (fun _ _ _ => Ext.trans) rfl (by kernel_rfl) (by kernel_rfl) (by kernel_rfl) (fun _ _ _ h => h) (Or.inl (Or.inl ⟨by rfl, ?hy7_14⟩)) ?rest7_14
      case hy7_14 => (intro w hSw; (obtain ⟨c1, c2⟩ := BA.ext (hSw); obtain ⟨c3, c4⟩ := BB.ext (hSw); obtain ⟨c5, c6⟩ := BC.ext (hSw)); go_simp; (try with_reducible rfl))
      (try simp only [List.getElem_toArray, List.getElem_cons_zero, List.getElem_cons_succ, Act.put, List.setIfInBounds_toArray, List.set_cons_zero, List.set_cons_succ])
      refine' wpAnyR_take (i := 8) (v := ?v8_15) Ext.refl (fun _ _ _ => Ext.trans) rfl (by kernel_rfl) (by kernel_rfl) (by kernel_rfl) (fun _ _ _ h => h) (Or.inl (Or.inl ⟨by rfl, ?hy8_15⟩)) ?rest8_15
      case hy8_15 => (intro w hSw; (obtain ⟨c1, c2⟩ := BA.ext (hSw); obtain ⟨c3, c4⟩ := BB.ext (hSw); obtain ⟨c5, c6⟩ := BC.ext (hSw)); go_simp; (try with_reducible rfl))
      (try simp only [List.getElem_toArray, List.getElem_cons_zero, List.getElem_cons_succ, Act.put, List.setIfInBounds_toArray, List.set_cons_zero, List.set_cons_succ])
      refine' wpAnyR_take (i := 9) (v := .agg #[.int .u8 p2, .int .i64 q2]) Ext.refl (fun _ _ _ => Ext.trans) rfl (by kernel_rfl) (by kernel_rfl) (by kernel_rfl) (fun _ _ _ h => h) (Or.inr ⟨by rfl, 35, _, ?hx9_16, ?hy9_16⟩) ?rest9_16
      case hx9_16 => (intro w hSw; go_simp; (try with_reducible rfl))
      case hy9_16 => exact fun w hE => (one_any _ 6 f1 n1 p2 q2 _ ((KT.out _ (Ext.trans X0 hE))) HNA).mono (fun _ _ h => ⟨h.1, h.2, Ext.trans hE h.2⟩)
      (try simp only [List.getElem_toArray, List.getElem_cons_zero, List.getElem_cons_succ, Act.put, List.setIfInBounds_toArray, List.set_cons_zero, List.set_cons_succ])
      refine' wpAnyR_take (i := 10) (v := ?v10_17) Ext.refl (fun _ _ _ => Ext.trans) rfl (by kernel_rfl) (by kernel_rfl) (by kernel_rfl) (fun _ _ _ h => h) (Or.inl (Or.inl ⟨by rfl, ?hy10_17⟩)) ?rest10_17
      case hy10_17 => (intro w hSw; (obtain ⟨c1, c2⟩ := BA.ext (hSw); obtain ⟨c3, c4⟩ := BB.ext (hSw); obtain ⟨c5, c6⟩ := BC.ext (hSw)); go_simp; (try with_reducible rfl))
      (try simp only [List.getElem_toArray, List.getElem_cons_zero, List.getElem_cons_succ, Act.put, List.setIfInBounds_toArray, List.set_cons_zero, List.set_cons_succ])
      refine' wpAnyR_take (i := 11) (v := ?v11_18) Ext.refl (fun _ _ _ => Ext.trans) rfl (by kernel_rfl) (by kernel_rfl) (by kernel_rfl) (fun _ _ _ h => h) (Or.inl (Or.inl ⟨by rfl, ?hy11_18⟩)) ?rest11_18
      case hy11_18 => (intro w hSw; (obtain ⟨c1, c2⟩ := BA.ext (hSw); obtain ⟨c3, c4⟩ := BB.ext (hSw); obtain ⟨c5, c6⟩ := BC.ext (hSw)); go_simp; (try with_reducible rfl))
      (try simp only [List.getElem_toArray, List.getElem_cons_zero, List.getElem_cons_succ, Act.put, List.setIfInBounds_toArray, List.set_cons_zero, List.set_cons_succ])
      refine' wpAnyR_take (i := 12) (v := .agg #[.int .u8 p3, .int .i64 q3]) Ext.refl (fun _ _ _ => Ext.trans) rfl (by kernel_rfl) (by kernel_rfl) (by kernel_rfl) (fun _ _ _ h => h) (Or.inr ⟨by rfl, 35, _, ?hx12_19, ?hy12_19⟩) ?rest12_19
      case hx12_19 => (intro w hSw; go_simp; (try with_reducible rfl))
      case hy12_19 => exact fun w hE => (one_any _ 6 f2 n2 p3 q3 _ ((KT.out _ (Ext.trans X0 hE))) HNB).mono (fun _ _ h => ⟨h.1, h.2, Ext.trans hE h.2⟩)
      (try simp only [List.getElem_toArray, List.getElem_cons_zero, List.getElem_cons_succ, Act.put, List.setIfInBounds_toArray, List.set_cons_zero, List.set_cons_succ])
      refine' wpAnyR_take (i := 13) (v := .agg #[.int .u8 r1, .int .i64 s1]) Ext.refl (fun _ _ _ => Ext.trans) rfl (by kernel_rfl) (by kernel_rfl) (by kernel_rfl) (fun _ _ _ h => h) (Or.inr ⟨by rfl, 37, _, ?hx13_20, ?hy13_20⟩) ?rest13_20
      case hx13_20 => (intro w hSw; go_simp; (try with_reducible rfl))
      case hy13_20 => exact fun w hE => (two_any _ 16 p2 q2 p3 q3 r1 s1 _ ((KT.out _ (Ext.trans X0 hE))) HO1).mono (fun _ _ h => ⟨h.1, h.2, Ext.trans hE h.2⟩)
      (try simp only [List.getElem_toArray, List.getElem_cons_zero, List.getElem_cons_succ, Act.put, List.setIfInBounds_toArray, List.set_cons_zero, List.set_cons_succ])
      refine' wpAnyR_take (i := 14) (v := ?v14_21) Ext.refl (fun _ _ _ => Ext.trans) rfl (by kernel_rfl) (by kernel_rfl) (by kernel_rfl) (fun _ _ _ h => h) (Or.inl (Or.inl ⟨by rfl, ?hy14_21⟩)) ?rest14_21
      case hy14_21 => (intro w hSw; (obtain ⟨c1, c2⟩ := BA.ext (hSw); obtain ⟨c3, c4⟩ := BB.ext (hSw); obtain ⟨c5, c6⟩ := BC.ext (hSw)); go_simp; (try with_reducible rfl))
      (try simp only [List.getElem_toArray, List.getElem_cons_zero, List.getElem_cons_succ, Act.put, List.setIfInBounds_toArray, List.set_cons_zero, List.set_cons_succ])
      refine' wpAnyR_take (i := 15) (v := ?v15_22) Ext.refl (fun _ _ _ => Ext.trans) rfl (by kernel_rfl) (by kernel_rfl) (by kernel_rfl) (fun _ _ _ h => h) (Or.inl (Or.inl ⟨by rfl, ?hy15_22⟩)) ?rest15_22
      case hy15_22 => (intro w hSw; (obtain ⟨c1, c2⟩ := BA.ext (hSw); obtain ⟨c3, c4⟩ := BB.ext (hSw); obtain ⟨c5, c6⟩ := BC.ext (hSw)); go_simp; (try with_reducible rfl))
      (try simp only [List.getElem_toArray, List.getElem_cons_zero, List.getElem_cons_succ, Act.put, List.setIfInBounds_toArray, List.set_cons_zero, List.set_cons_succ])
      refine' wpAnyR_take (i := 16) (v := ?v16_23) Ext.refl (fun _ _ _ => Ext.trans) rfl (by kernel_rfl) (by kernel_rfl) (by kernel_rfl) (fun _ _ _ h => h) (Or.inl (Or.inl ⟨by rfl, ?hy16_23⟩)) ?rest16_23
      case hy16_23 => (intro w hSw; (obtain ⟨c1, c2⟩ := BA.ext (hSw); obtain ⟨c3, c4⟩ := BB.ext (hSw); obtain ⟨c5, c6⟩ := BC.ext (hSw)); go_simp; (try with_reducible rfl))
      (try simp only [List.getElem_toArray, List.getElem_cons_zero, List.getElem_cons_succ, Act.put, List.setIfInBounds_toArray, List.set_cons_zero, List.set_cons_succ])
      refine' wpAnyR_take (i := 17) (v := ?v17_24) Ext.refl (fun _ _ _ => Ext.trans) rfl (by kernel_rfl) (by kernel_rfl) (by kernel_rfl) (fun _ _ _ h => h) (Or.inl (Or.inl ⟨by rfl, ?hy17_24⟩)) ?rest17_24
      case hy17_24 => (intro w hSw; (obtain ⟨c1, c2⟩ := BA.ext (hSw); obtain ⟨c3, c4⟩ := BB.ext (hSw); obtain ⟨c5, c6⟩ := BC.ext (hSw)); go_simp; (try with_reducible rfl))
      (try simp only [List.getElem_toArray, List.getElem_cons_zero, List.getElem_cons_succ, Act.put, List.setIfInBounds_toArray, List.set_cons_zero, List.set_cons_succ])
      refine' wpAnyR_take (i := 18) (v := ?v18_25) Ext.refl (fun _ _ _ => Ext.trans) rfl (by kernel_rfl) (by kernel_rfl) (by kernel_rfl) (fun _ _ _ h => h) (Or.inl (Or.inl ⟨by rfl, ?hy18_25⟩)) ?rest18_25
      case hy18_25 => (intro w hSw; (obtain ⟨c1, c2⟩ := BA.ext (hSw); obtain ⟨c3, c4⟩ := BB.ext (hSw); obtain ⟨c5, c6⟩ := BC.ext (hSw)); go_simp; (try with_reducible rfl))
      (try simp only [List.getElem_toArray, List.getElem_cons_zero, List.getElem_cons_succ, Act.put, List.setIfInBounds_toArray, List.set_cons_zero, List.set_cons_succ])
      refine' wpAnyR_take (i := 19) (v := ?v19_26) Ext.refl (fun _ _ _ => Ext.trans) rfl (by kernel_rfl) (by kernel_rfl) (by kernel_rfl) (fun _ _ _ h => h) (Or.inl (Or.inl ⟨by rfl, ?hy19_26⟩)) ?rest19_26
      case hy19_26 => (intro w hSw; (obtain ⟨c1, c2⟩ := BA.ext (hSw); obtain ⟨c3, c4⟩ := BB.ext (hSw); obtain ⟨c5, c6⟩ := BC.ext (hSw)); go_simp; (try with_reducible rfl))
      (try simp only [List.getElem_toArray, List.getElem_cons_zero, List.getElem_cons_succ, Act.put, List.setIfInBounds_toArray, List.set_cons_zero, List.set_cons_succ])
      refine' wpAnyR_take (i := 20) (v := .agg #[.int .u8 p4, .int .i64 q4]) Ext.refl (fun _ _ _ => Ext.trans) rfl (by kernel_rfl) (by kernel_rfl) (by kernel_rfl) (fun _ _ _ h => h) (Or.inr ⟨by rfl, 37, _, ?hx20_27, ?hy20_27⟩) ?rest20_27
      case hx20_27 => (intro w hSw; go_simp; (try with_reducible rfl))
      case hy20_27 => exact fun w hE => (two_any _ 16 f1 n1 f2 n2 p4 q4 _ ((KT.out _ (Ext.trans X0 hE))) HOB).mono (fun _ _ h => ⟨h.1, h.2, Ext.trans hE h.2⟩)
      (try simp only [List.getElem_toArray, List.getElem_cons_zero, List.getElem_cons_succ, Act.put, List.setIfInBounds_toArray, List.set_cons_zero, List.set_cons_succ])
      refine' wpAnyR_take (i := 21) (v := .agg #[.int .u8 r2, .int .i64 s2]) Ext.refl (fun _ _ _ => Ext.trans) rfl (by kernel_rfl) (by kernel_rfl) (by kernel_rfl) (fun _ _ _ h => h) (Or.inr ⟨by rfl, 35, _, ?hx21_28, ?hy21_28⟩) ?rest21_28
      case hx21_28 => (intro w hSw; go_simp; (try with_reducible rfl))
      case hy21_28 => exact fun w hE => (one_any _ 6 p4 q4 r2 s2 _ ((KT.out _ (Ext.trans X0 hE))) HNOB).mono (fun _ _ h => ⟨h.1, h.2, Ext.trans hE h.2⟩)
      (try simp only [List.getElem_toArray, List.getElem_cons_zero, List.getElem_cons_succ, Act.put, List.setIfInBounds_toArray, List.set_cons_zero, List.set_cons_succ])
      refine' wpAnyR_take (i := 22) (v := ?v22_29) Ext.refl (fun _ _ _ => Ext.trans) rfl (by kernel_rfl) (by kernel_rfl) (by kernel_rfl) (fun _ _ _ h => h) (Or.inl (Or.inl ⟨by rfl, ?hy22_29⟩)) ?rest22_29
      case hy22_29 => (intro w hSw; (obtain ⟨c1, c2⟩ := BA.ext (hSw); obtain ⟨c3, c4⟩ := BB.ext (hSw); obtain ⟨c5, c6⟩ := BC.ext (hSw)); go_simp; (try with_reducible rfl))
      (try simp only [List.getElem_toArray, List.getElem_cons_zero, List.getElem_cons_succ, Act.put, List.setIfInBounds_toArray, List.set_cons_zero, List.set_cons_succ])
      refine' wpAnyR_take (i := 23) (v := ?v23_30) Ext.refl (fun _ _ _ => Ext.trans) rfl (by kernel_rfl) (by kernel_rfl) (by kernel_rfl) (fun _ _ _ h => h) (Or.inl (Or.inl ⟨by rfl, ?hy23_30⟩)) ?rest23_30
      case hy23_30 => (intro w hSw; (obtain ⟨c1, c2⟩ := BA.ext (hSw); obtain ⟨c3, c4⟩ := BB.ext (hSw); obtain ⟨c5, c6⟩ := BC.ext (hSw)); go_simp; (try with_reducible rfl))
      (try simp only [List.getElem_toArray, List.getElem_cons_zero, List.getElem_cons_succ, Act.put, List.setIfInBounds_toArray, List.set_cons_zero, List.set_cons_succ])
      refine' wpAnyR_take (i := 24) (v := ?v24_31) Ext.refl (fun _ _ _ => Ext.trans) rfl (by kernel_rfl) (by kernel_rfl) (by kernel_rfl) (fun _ _ _ h => h) (Or.inl (Or.inl ⟨by rfl, ?hy24_31⟩)) ?rest24_31
      case hy24_31 => (intro w hSw; (obtain ⟨c1, c2⟩ := BA.ext (hSw); obtain ⟨c3, c4⟩ := BB.ext (hSw); obtain ⟨c5, c6⟩ := BC.ext (hSw)); go_simp; (try with_reducible rfl))
      (try simp only [List.getElem_toArray, List.getElem_cons_zero, List.getElem_cons_succ, Act.put, List.setIfInBounds_toArray, List.set_cons_zero, List.set_cons_succ])
      refine' wpAnyR_take (i := 25) (v := .agg #[.int .u8 p2, .int .i64 q2]) Ext.refl (fun _ _ _ => Ext.trans) rfl (by kernel_rfl) (by kernel_rfl) (by kernel_rfl) (fun _ _ _ h => h) (Or.inr ⟨by rfl, 35, _, ?hx25_32, ?hy25_32⟩) ?rest25_32
      case hx25_32 => (intro w hSw; go_simp; (try with_reducible rfl))
      case hy25_32 => exact fun w hE => (one_any _ 6 f1 n1 p2 q2 _ ((KT.out _ (Ext.trans X0 hE))) HNA).mono (fun _ _ h => ⟨h.1, h.2, Ext.trans hE h.2⟩)
      (try simp only [List.getElem_toArray, List.getElem_cons_zero, List.getElem_cons_succ, Act.put, List.setIfInBounds_toArray, List.set_cons_zero, List.set_cons_succ])
      refine' wpAnyR_take (i := 26) (v := ?v26_33) Ext.refl (fun _ _ _ => Ext.trans) rfl (by kernel_rfl) (by kernel_rfl) (by kernel_rfl) (fun _ _ _ h => h) (Or.inl (Or.inl ⟨by rfl, ?hy26_33⟩)) ?rest26_33
      case hy26_33 => (intro w hSw; (obtain ⟨c1, c2⟩ := BA.ext (hSw); obtain ⟨c3, c4⟩ := BB.ext (hSw); obtain ⟨c5, c6⟩ := BC.ext (hSw)); go_simp; (try with_reducible rfl))
      (try simp only [List.getElem_toArray, List.getElem_cons_zero, List.getElem_cons_succ, Act.put, List.setIfInBounds_toArray, List.set_cons_zero, List.set_cons_succ])
      refine' wpAnyR_take (i := 27) (v := ?v27_34) Ext.refl (fun _ _ _ => Ext.trans) rfl (by kernel_rfl) (by kernel_rfl) (by kernel_rfl) (fun _ _ _ h => h) (Or.inl (Or.inl ⟨by rfl, ?hy27_34⟩)) ?rest27_34
      case hy27_34 => (intro w hSw; (obtain ⟨c1, c2⟩ := BA.ext (hSw); obtain ⟨c3, c4⟩ := BB.ext (hSw); obtain ⟨c5, c6⟩ := BC.ext (hSw)); go_simp; (try with_reducible rfl))
      (try simp only [List.getElem_toArray, List.getElem_cons_zero, List.getElem_cons_succ, Act.put, List.setIfInBounds_toArray, List.set_cons_zero, List.set_cons_succ])
      refine' wpAnyR_take (i := 28) (v := .agg #[.int .u8 p3, .int .i64 q3]) Ext.refl (fun _ _ _ => Ext.trans) rfl (by kernel_rfl) (by kernel_rfl) (by kernel_rfl) (fun _ _ _ h => h) (Or.inr ⟨by rfl, 35, _, ?hx28_35, ?hy28_35⟩) ?rest28_35
      case hx28_35 => (intro w hSw; go_simp; (try with_reducible rfl))
      case hy28_35 => exact fun w hE => (one_any _ 6 f2 n2 p3 q3 _ ((KT.out _ (Ext.trans X0 hE))) HNB).mono (fun _ _ h => ⟨h.1, h.2, Ext.trans hE h.2⟩)
      (try simp only [List.getElem_toArray, List.getElem_cons_zero, List.getElem_cons_succ, Act.put, List.setIfInBounds_toArray, List.set_cons_zero, List.set_cons_succ])
      refine' wpAnyR_take (i := 29) (v := .agg #[.int .u8 r2, .int .i64 s2]) Ext.refl (fun _ _ _ => Ext.trans) rfl (by kernel_rfl) (by kernel_rfl) (by kernel_rfl) (fun _ _ _ h => h) (Or.inr ⟨by rfl, 37, _, ?hx29_36, ?hy29_36⟩) ?rest29_36
      case hx29_36 => (intro w hSw; go_simp; (try with_reducible rfl))
      case hy29_36 => exact fun w hE => (two_any _ 15 p2 q2 p3 q3 r2 s2 _ ((KT.out _ (Ext.trans X0 hE))) HA2).mono (fun _ _ h => ⟨h.1, h.2, Ext.trans hE h.2⟩)
      (try simp only [List.getElem_toArray, List.getElem_cons_zero, List.getElem_cons_succ, Act.put, List.setIfInBounds_toArray, List.set_cons_zero, List.set_cons_succ])
      refine' wpAnyR_take (i := 30) (v := ?v30_37) Ext.refl (fun _ _ _ => Ext.trans) rfl (by kernel_rfl) (by kernel_rfl) (by kernel_rfl) (fun _ _ _ h => h) (Or.inl (Or.inl ⟨by rfl, ?hy30_37⟩)) ?rest30_37
      case hy30_37 => (intro w hSw; (obtain ⟨c1, c2⟩ := BA.ext (hSw); obtain ⟨c3, c4⟩ := BB.ext (hSw); obtain ⟨c5, c6⟩ := BC.ext (hSw)); go_simp; (try with_reducible rfl))
      (try simp only [List.getElem_toArray, List.getElem_cons_zero, List.getElem_cons_succ, Act.put, List.setIfInBounds_toArray, List.set_cons_zero, List.set_cons_succ])
      refine' wpAnyR_take (i := 31) (v := ?v31_38) Ext.refl (fun _ _ _ => Ext.trans) rfl (by kernel_rfl) (by kernel_rfl) (by kernel_rfl) (fun _ _ _ h => h) (Or.inl (Or.inl ⟨by rfl, ?hy31_38⟩)) ?rest31_38
      case hy31_38 => (intro w hSw; (obtain ⟨c1, c2⟩ := BA.ext (hSw); obtain ⟨c3, c4⟩ := BB.ext (hSw); obtain ⟨c5, c6⟩ := BC.ext (hSw)); go_simp; (try with_reducible rfl))
      (try simp only [List.getElem_toArray, List.getElem_cons_zero, List.getElem_cons_succ, Act.put, List.setIfInBounds_toArray, List.set_cons_zero, List.set_cons_succ])
      refine wpAnyR_done (by kernel_rfl) ?_ _
      intro we _ Ewe
      have X1 : Ext wr we := Ext.trans X0 Ewe
      go_wp2_with fail
      refine wp_region_seq (S := fun W => Ext we W) (R := Ext) (by kernel_rfl) Ext.refl ?_ ?_
      · exact (by repeat' (first | (with_reducible exact Ext.refl _) | (with_reducible assumption) | (with_reducible refine Ext.alloc ?_ _) | (with_reducible refine Ext.drew ?_) | (with_reducible refine Ext.drewN ?_ _) | (with_reducible refine Ext.setCell ?_ ?_ _) | (with_reducible refine Ext.trans ?_ (by assumption)) | go_size))
      refine' wpAnyR_take (i := 0) (v := ?v0_39) Ext.refl (fun _ _ _ => Ext.trans) rfl (by kernel_rfl) (by kernel_rfl) (by kernel_rfl) (fun _ _ _ h => h) (Or.inl (Or.inl ⟨by rfl, ?hy0_39⟩)) ?rest0_39
      case hy0_39 => (intro w hSw; (obtain ⟨c1, c2⟩ := BA.ext (Ext.trans Ewe hSw); obtain ⟨c3, c4⟩ := BB.ext (Ext.trans Ewe hSw); obtain ⟨c5, c6⟩ := BC.ext (Ext.trans Ewe hSw)); go_simp; (try with_reducible rfl))
      (try simp only [List.getElem_toArray, List.getElem_cons_zero, Act.put, List.setIfInBounds_toArray, List.set_cons_zero, List.set_cons_succ])
      refine' wpAnyR_take (i := 1) (v := ?v1_40) Ext.refl (fun _ _ _ => Ext.trans) rfl (by kernel_rfl) (by kernel_rfl) (by kernel_rfl) (fun _ _ _ h => h) (Or.inl (Or.inl ⟨by rfl, ?hy1_40⟩)) ?rest1_40
      case hy1_40 => (intro w hSw; (obtain ⟨c1, c2⟩ := BA.ext (Ext.trans Ewe hSw); obtain ⟨c3, c4⟩ := BB.ext (Ext.trans Ewe hSw); obtain ⟨c5, c6⟩ := BC.ext (Ext.trans Ewe hSw)); go_simp; (try with_reducible rfl))
      (try simp only [List.getElem_toArray, List.getElem_cons_zero, List.getElem_cons_succ, Act.put, List.setIfInBounds_toArray, List.set_cons_zero, List.set_cons_succ])
      refine' wpAnyR_take (i := 2) (v := ?v2_41) Ext.refl (fun _ _ _ => Ext.trans) rfl (by kernel_rfl) (by kernel_rfl) (by kernel_rfl) (fun _ _ _ h => h) (Or.inl (Or.inl ⟨by rfl, ?hy2_41⟩)) ?rest2_41
      case hy2_41 => (intro w hSw; (obtain ⟨c1, c2⟩ := BA.ext (Ext.trans Ewe hSw); obtain ⟨c3, c4⟩ := BB.ext (Ext.trans Ewe hSw); obtain ⟨c5, c6⟩ := BC.ext (Ext.trans Ewe hSw)); go_simp; (try with_reducible rfl))
      (try simp only [List.getElem_toArray, List.getElem_cons_zero, List.getElem_cons_succ, Act.put, List.setIfInBounds_toArray, List.set_cons_zero, List.set_cons_succ])
      refine' wpAnyR_take (i := 3) (v := .agg #[.int .u8 0, .int .i64 0]) Ext.refl (fun _ _ _ => Ext.trans) rfl (by kernel_rfl) (by kernel_rfl) (by kernel_rfl) (fun _ _ _ h => h) (Or.inr ⟨by rfl, 16, _, ?hx3_42, ?hy3_42⟩) ?rest3_42
      case hx3_42 => (intro w hSw; go_simp; (try with_reducible rfl))
      case hy3_42 => exact fun w hE => (num_any 0 _).mono (fun _ _ h => ⟨h.1, h.2, Ext.trans hE h.2⟩)
      (try simp only [List.getElem_toArray, List.getElem_cons_zero, List.getElem_cons_succ, Act.put, List.setIfInBounds_toArray, List.set_cons_zero, List.set_cons_succ])
      refine' wpAnyR_take (i := 4) (v := .agg #[.int .u8 p1, .int .i64 q1]) Ext.refl (fun _ _ _ => Ext.trans) rfl (by kernel_rfl) (by kernel_rfl) (by kernel_rfl) (fun _ _ _ h => h) (Or.inr ⟨by rfl, 36, _, ?hx4_43, ?hy4_43⟩) ?rest4_43
      case hx4_43 => (intro w hSw; go_simp; (try with_reducible rfl))
      case hy4_43 => exact fun w hE => (choose_any _ f1 n1 f2 n2 0 0 p1 q1 _ ((KT.out _ (Ext.trans X1 hE))) HC1).mono (fun _ _ h => ⟨h.1, h.2, Ext.trans hE h.2⟩)
      (try simp only [List.getElem_toArray, List.getElem_cons_zero, List.getElem_cons_succ, Act.put, List.setIfInBounds_toArray, List.set_cons_zero, List.set_cons_succ])
      refine' wpAnyR_take (i := 5) (v := ?v5_44) Ext.refl (fun _ _ _ => Ext.trans) rfl (by kernel_rfl) (by kernel_rfl) (by kernel_rfl) (fun _ _ _ h => h) (Or.inl (Or.inl ⟨by rfl, ?hy5_44⟩)) ?rest5_44
      case hy5_44 => (intro w hSw; (obtain ⟨c1, c2⟩ := BA.ext (Ext.trans Ewe hSw); obtain ⟨c3, c4⟩ := BB.ext (Ext.trans Ewe hSw); obtain ⟨c5, c6⟩ := BC.ext (Ext.trans Ewe hSw)); go_simp; (try with_reducible rfl))
      (try simp only [List.getElem_toArray, List.getElem_cons_zero, List.getElem_cons_succ, Act.put, List.setIfInBounds_toArray, List.set_cons_zero, List.set_cons_succ])
      refine' wpAnyR_take (i := 6) (v := ?v6_45) Ext.refl (fun _ _ _ => Ext.trans) rfl (by kernel_rfl) (by kernel_rfl) (by kernel_rfl) (fun _ _ _ h => h) (Or.inl (Or.inl ⟨by rfl, ?hy6_45⟩)) ?rest6_45
      case hy6_45 => (intro w hSw; (obtain ⟨c1, c2⟩ := BA.ext (Ext.trans Ewe hSw); obtain ⟨c3, c4⟩ := BB.ext (Ext.trans Ewe hSw); obtain ⟨c5, c6⟩ := BC.ext (Ext.trans Ewe hSw)); go_simp; (try with_reducible rfl))
      (try simp only [List.getElem_toArray, List.getElem_cons_zero, List.getElem_cons_succ, Act.put, List.setIfInBounds_toArray, List.set_cons_zero, List.set_cons_succ])
      refine' wpAnyR_take (i := 7) (v := ?v7_46) Ext.refl (fun _ _ _ => Ext.trans) rfl (by kernel_rfl) (by kernel_rfl) (by kernel_rfl) (fun _ _ _ h => h) (Or.inl (Or.inl ⟨by rfl, ?hy7_46⟩)) ?rest7_46
      case hy7_46 => (intro w hSw; (obtain ⟨c1, c2⟩ := BA.ext (Ext.trans Ewe hSw); obtain ⟨c3, c4⟩ := BB.ext (Ext.trans Ewe hSw); obtain ⟨c5, c6⟩ := BC.ext (Ext.trans Ewe hSw)); go_simp; (try with_reducible rfl))
      (try simp only [List.getElem_toArray, List.getElem_cons_zero, List.getElem_cons_succ, Act.put, List.setIfInBounds_toArray, List.set_cons_zero, List.set_cons_succ])
      refine' wpAnyR_take (i := 8) (v := .agg #[.int .u8 p1, .int .i64 q1]) Ext.refl (fun _ _ _ => Ext.trans) rfl (by kernel_rfl) (by kernel_rfl) (by kernel_rfl) (fun _ _ _ h => h) (Or.inr ⟨by rfl, 37, _, ?hx8_47, ?hy8_47⟩) ?rest8_47
      case hx8_47 => (intro w hSw; go_simp; (try with_reducible rfl))
      case hy8_47 => exact fun w hE => (two_any _ 15 f1 n1 f2 n2 p1 q1 _ ((KT.out _ (Ext.trans X1 hE))) HAB).mono (fun _ _ h => ⟨h.1, h.2, Ext.trans hE h.2⟩)
      (try simp only [List.getElem_toArray, List.getElem_cons_zero, List.getElem_cons_succ, Act.put, List.setIfInBounds_toArray, List.set_cons_zero, List.set_cons_succ])
      refine' wpAnyR_take (i := 9) (v := ?v9_48) Ext.refl (fun _ _ _ => Ext.trans) rfl (by kernel_rfl) (by kernel_rfl) (by kernel_rfl) (fun _ _ _ h => h) (Or.inl (Or.inl ⟨by rfl, ?hy9_48⟩)) ?rest9_48
      case hy9_48 => (intro w hSw; (obtain ⟨c1, c2⟩ := BA.ext (Ext.trans Ewe hSw); obtain ⟨c3, c4⟩ := BB.ext (Ext.trans Ewe hSw); obtain ⟨c5, c6⟩ := BC.ext (Ext.trans Ewe hSw)); go_simp; (try with_reducible rfl))
      (try simp only [List.getElem_toArray, List.getElem_cons_zero, List.getElem_cons_succ, Act.put, List.setIfInBounds_toArray, List.set_cons_zero, List.set_cons_succ])
      refine' wpAnyR_take (i := 10) (v := ?v10_49) Ext.refl (fun _ _ _ => Ext.trans) rfl (by kernel_rfl) (by kernel_rfl) (by kernel_rfl) (fun _ _ _ h => h) (Or.inl (Or.inl ⟨by rfl, ?hy10_49⟩)) ?rest10_49
      case hy10_49 => (intro w hSw; (obtain ⟨c1, c2⟩ := BA.ext (Ext.trans Ewe hSw); obtain ⟨c3, c4⟩ := BB.ext (Ext.trans Ewe hSw); obtain ⟨c5, c6⟩ := BC.ext (Ext.trans Ewe hSw)); go_simp; (try with_reducible rfl))
      (try simp only [List.getElem_toArray, List.getElem_cons_zero, List.getElem_cons_succ, Act.put, List.setIfInBounds_toArray, List.set_cons_zero, List.set_cons_succ])
      refine' wpAnyR_take (i := 11) (v := ?v11_50) Ext.refl (fun _ _ _ => Ext.trans) rfl (by kernel_rfl) (by kernel_rfl) (by kernel_rfl) (fun _ _ _ h => h) (Or.inl (Or.inl ⟨by rfl, ?hy11_50⟩)) ?rest11_50
      case hy11_50 => (intro w hSw; (obtain ⟨c1, c2⟩ := BA.ext (Ext.trans Ewe hSw); obtain ⟨c3, c4⟩ := BB.ext (Ext.trans Ewe hSw); obtain ⟨c5, c6⟩ := BC.ext (Ext.trans Ewe hSw)); go_simp; (try with_reducible rfl))
      (try simp only [List.getElem_toArray, List.getElem_cons_zero, List.getElem_cons_succ, Act.put, List.setIfInBounds_toArray, List.set_cons_zero, List.set_cons_succ])
      refine' wpAnyR_take (i := 12) (v := ?v12_51) Ext.refl (fun _ _ _ => Ext.trans) rfl (by kernel_rfl) (by kernel_rfl) (by kernel_rfl) (fun _ _ _ h => h) (Or.inl (Or.inl ⟨by rfl, ?hy12_51⟩)) ?rest12_51
      case hy12_51 => (intro w hSw; (obtain ⟨c1, c2⟩ := BA.ext (Ext.trans Ewe hSw); obtain ⟨c3, c4⟩ := BB.ext (Ext.trans Ewe hSw); obtain ⟨c5, c6⟩ := BC.ext (Ext.trans Ewe hSw)); go_simp; (try with_reducible rfl))
      (try simp only [List.getElem_toArray, List.getElem_cons_zero, List.getElem_cons_succ, Act.put, List.setIfInBounds_toArray, List.set_cons_zero, List.set_cons_succ])
      refine' wpAnyR_take (i := 13) (v := .agg #[.int .u8 0, .int .i64 1]) Ext.refl (fun _ _ _ => Ext.trans) rfl (by kernel_rfl) (by kernel_rfl) (by kernel_rfl) (fun _ _ _ h => h) (Or.inr ⟨by rfl, 16, _, ?hx13_52, ?hy13_52⟩) ?rest13_52
      case hx13_52 => (intro w hSw; go_simp; (try with_reducible rfl))
      case hy13_52 => exact fun w hE => (num_any 1 _).mono (fun _ _ h => ⟨h.1, h.2, Ext.trans hE h.2⟩)
      (try simp only [List.getElem_toArray, List.getElem_cons_zero, List.getElem_cons_succ, Act.put, List.setIfInBounds_toArray, List.set_cons_zero, List.set_cons_succ])
      refine' wpAnyR_take (i := 14) (v := ?v14_53) Ext.refl (fun _ _ _ => Ext.trans) rfl (by kernel_rfl) (by kernel_rfl) (by kernel_rfl) (fun _ _ _ h => h) (Or.inl (Or.inl ⟨by rfl, ?hy14_53⟩)) ?rest14_53
      case hy14_53 => (intro w hSw; (obtain ⟨c1, c2⟩ := BA.ext (Ext.trans Ewe hSw); obtain ⟨c3, c4⟩ := BB.ext (Ext.trans Ewe hSw); obtain ⟨c5, c6⟩ := BC.ext (Ext.trans Ewe hSw)); go_simp; (try with_reducible rfl))
      (try simp only [List.getElem_toArray, List.getElem_cons_zero, List.getElem_cons_succ, Act.put, List.setIfInBounds_toArray, List.set_cons_zero, List.set_cons_succ])
      refine' wpAnyR_take (i := 15) (v := .agg #[.int .u8 p4, .int .i64 q4]) Ext.refl (fun _ _ _ => Ext.trans) rfl (by kernel_rfl) (by kernel_rfl) (by kernel_rfl) (fun _ _ _ h => h) (Or.inr ⟨by rfl, 36, _, ?hx15_54, ?hy15_54⟩) ?rest15_54
      case hx15_54 => (intro w hSw; go_simp; (try with_reducible rfl))
      case hy15_54 => exact fun w hE => (choose_any _ f1 n1 0 1 f2 n2 p4 q4 _ ((KT.out _ (Ext.trans X1 hE))) HC2).mono (fun _ _ h => ⟨h.1, h.2, Ext.trans hE h.2⟩)
      (try simp only [List.getElem_toArray, List.getElem_cons_zero, List.getElem_cons_succ, Act.put, List.setIfInBounds_toArray, List.set_cons_zero, List.set_cons_succ])
      refine' wpAnyR_take (i := 16) (v := ?v16_55) Ext.refl (fun _ _ _ => Ext.trans) rfl (by kernel_rfl) (by kernel_rfl) (by kernel_rfl) (fun _ _ _ h => h) (Or.inl (Or.inl ⟨by rfl, ?hy16_55⟩)) ?rest16_55
      case hy16_55 => (intro w hSw; (obtain ⟨c1, c2⟩ := BA.ext (Ext.trans Ewe hSw); obtain ⟨c3, c4⟩ := BB.ext (Ext.trans Ewe hSw); obtain ⟨c5, c6⟩ := BC.ext (Ext.trans Ewe hSw)); go_simp; (try with_reducible rfl))
      (try simp only [List.getElem_toArray, List.getElem_cons_zero, List.getElem_cons_succ, Act.put, List.setIfInBounds_toArray, List.set_cons_zero, List.set_cons_succ])
      refine' wpAnyR_take (i := 17) (v := ?v17_56) Ext.refl (fun _ _ _ => Ext.trans) rfl (by kernel_rfl) (by kernel_rfl) (by kernel_rfl) (fun _ _ _ h => h) (Or.inl (Or.inl ⟨by rfl, ?hy17_56⟩)) ?rest17_56
      case hy17_56 => (intro w hSw; (obtain ⟨c1, c2⟩ := BA.ext (Ext.trans Ewe hSw); obtain ⟨c3, c4⟩ := BB.ext (Ext.trans Ewe hSw); obtain ⟨c5, c6⟩ := BC.ext (Ext.trans Ewe hSw)); go_simp; (try with_reducible rfl))
      (try simp only [List.getElem_toArray, List.getElem_cons_zero, List.getElem_cons_succ, Act.put, List.setIfInBounds_toArray, List.set_cons_zero, List.set_cons_succ])
      refine' wpAnyR_take (i := 18) (v := ?v18_57) Ext.refl (fun _ _ _ => Ext.trans) rfl (by kernel_rfl) (by kernel_rfl) (by kernel_rfl) (fun _ _ _ h => h) (Or.inl (Or.inl ⟨by rfl, ?hy18_57⟩)) ?rest18_57
      case hy18_57 => (intro w hSw; (obtain ⟨c1, c2⟩ := BA.ext (Ext.trans Ewe hSw); obtain ⟨c3, c4⟩ := BB.ext (Ext.trans Ewe hSw); obtain ⟨c5, c6⟩ := BC.ext (Ext.trans Ewe hSw)); go_simp; (try with_reducible rfl))
      (try simp only [List.getElem_toArray, List.getElem_cons_zero, List.getElem_cons_succ, Act.put, List.setIfInBounds_toArray, List.set_cons_zero, List.set_cons_succ])
      refine' wpAnyR_take (i := 19) (v := .agg #[.int .u8 p4, .int .i64 q4]) Ext.refl (fun _ _ _ => Ext.trans) rfl (by kernel_rfl) (by kernel_rfl) (by kernel_rfl) (fun _ _ _ h => h) (Or.inr ⟨by rfl, 37, _, ?hx19_58, ?hy19_58⟩) ?rest19_58
      case hx19_58 => (intro w hSw; go_simp; (try with_reducible rfl))
      case hy19_58 => exact fun w hE => (two_any _ 16 f1 n1 f2 n2 p4 q4 _ ((KT.out _ (Ext.trans X1 hE))) HOB).mono (fun _ _ h => ⟨h.1, h.2, Ext.trans hE h.2⟩)
      (try simp only [List.getElem_toArray, List.getElem_cons_zero, List.getElem_cons_succ, Act.put, List.setIfInBounds_toArray, List.set_cons_zero, List.set_cons_succ])
      refine' wpAnyR_take (i := 20) (v := ?v20_59) Ext.refl (fun _ _ _ => Ext.trans) rfl (by kernel_rfl) (by kernel_rfl) (by kernel_rfl) (fun _ _ _ h => h) (Or.inl (Or.inl ⟨by rfl, ?hy20_59⟩)) ?rest20_59
      case hy20_59 => (intro w hSw; (obtain ⟨c1, c2⟩ := BA.ext (Ext.trans Ewe hSw); obtain ⟨c3, c4⟩ := BB.ext (Ext.trans Ewe hSw); obtain ⟨c5, c6⟩ := BC.ext (Ext.trans Ewe hSw)); go_simp; (try with_reducible rfl))
      (try simp only [List.getElem_toArray, List.getElem_cons_zero, List.getElem_cons_succ, Act.put, List.setIfInBounds_toArray, List.set_cons_zero, List.set_cons_succ])
      refine' wpAnyR_take (i := 21) (v := ?v21_60) Ext.refl (fun _ _ _ => Ext.trans) rfl (by kernel_rfl) (by kernel_rfl) (by kernel_rfl) (fun _ _ _ h => h) (Or.inl (Or.inl ⟨by rfl, ?hy21_60⟩)) ?rest21_60
      case hy21_60 => (intro w hSw; (obtain ⟨c1, c2⟩ := BA.ext (Ext.trans Ewe hSw); obtain ⟨c3, c4⟩ := BB.ext (Ext.trans Ewe hSw); obtain ⟨c5, c6⟩ := BC.ext (Ext.trans Ewe hSw)); go_simp; (try with_reducible rfl))
      (try simp only [List.getElem_toArray, List.getElem_cons_zero, List.getElem_cons_succ, Act.put, List.setIfInBounds_toArray, List.set_cons_zero, List.set_cons_succ])
      refine' wpAnyR_take (i := 22) (v := ?v22_61) Ext.refl (fun _ _ _ => Ext.trans) rfl (by kernel_rfl) (by kernel_rfl) (by kernel_rfl) (fun _ _ _ h => h) (Or.inl (Or.inl ⟨by rfl, ?hy22_61⟩)) ?rest22_61
      case hy22_61 => (intro w hSw; (obtain ⟨c1, c2⟩ := BA.ext (Ext.trans Ewe hSw); obtain ⟨c3, c4⟩ := BB.ext (Ext.trans Ewe hSw); obtain ⟨c5, c6⟩ := BC.ext (Ext.trans Ewe hSw)); go_simp; (try with_reducible rfl))
      (try simp only [List.getElem_toArray, List.getElem_cons_zero, List.getElem_cons_succ, Act.put, List.setIfInBounds_toArray, List.set_cons_zero, List.set_cons_succ])
      refine' wpAnyR_take (i := 23) (v := ?v23_62) Ext.refl (fun _ _ _ => Ext.trans) rfl (by kernel_rfl) (by kernel_rfl) (by kernel_rfl) (fun _ _ _ h => h) (Or.inl (Or.inl ⟨by rfl, ?hy23_62⟩)) ?rest23_62
      case hy23_62 => (intro w hSw; (obtain ⟨c1, c2⟩ := BA.ext (Ext.trans Ewe hSw); obtain ⟨c3, c4⟩ := BB.ext (Ext.trans Ewe hSw); obtain ⟨c5, c6⟩ := BC.ext (Ext.trans Ewe hSw)); go_simp; (try with_reducible rfl))
      (try simp only [List.getElem_toArray, List.getElem_cons_zero, List.getElem_cons_succ, Act.put, List.setIfInBounds_toArray, List.set_cons_zero, List.set_cons_succ])
      refine' wpAnyR_take (i := 24) (v := ?v24_63) Ext.refl (fun _ _ _ => Ext.trans) rfl (by kernel_rfl) (by kernel_rfl) (by kernel_rfl) (fun _ _ _ h => h) (Or.inl (Or.inl ⟨by rfl, ?hy24_63⟩)) ?rest24_63
      case hy24_63 => (intro w hSw; (obtain ⟨c1, c2⟩ := BA.ext (Ext.trans Ewe hSw); obtain ⟨c3, c4⟩ := BB.ext (Ext.trans Ewe hSw); obtain ⟨c5, c6⟩ := BC.ext (Ext.trans Ewe hSw)); go_simp; (try with_reducible rfl))
      (try simp only [List.getElem_toArray, List.getElem_cons_zero, List.getElem_cons_succ, Act.put, List.setIfInBounds_toArray, List.set_cons_zero, List.set_cons_succ])
      refine' wpAnyR_take (i := 25) (v := ?v25_64) Ext.refl (fun _ _ _ => Ext.trans) rfl (by kernel_rfl) (by kernel_rfl) (by kernel_rfl) (fun _ _ _ h => h) (Or.inl (Or.inl ⟨by rfl, ?hy25_64⟩)) ?rest25_64
      case hy25_64 => (intro w hSw; (obtain ⟨c1, c2⟩ := BA.ext (Ext.trans Ewe hSw); obtain ⟨c3, c4⟩ := BB.ext (Ext.trans Ewe hSw); obtain ⟨c5, c6⟩ := BC.ext (Ext.trans Ewe hSw)); go_simp; (try with_reducible rfl))
      (try simp only [List.getElem_toArray, List.getElem_cons_zero, List.getElem_cons_succ, Act.put, List.setIfInBounds_toArray, List.set_cons_zero, List.set_cons_succ])
      refine' wpAnyR_take (i := 26) (v := .agg #[.int .u8 p2, .int .i64 q2]) Ext.refl (fun _ _ _ => Ext.trans) rfl (by kernel_rfl) (by kernel_rfl) (by kernel_rfl) (fun _ _ _ h => h) (Or.inr ⟨by rfl, 35, _, ?hx26_65, ?hy26_65⟩) ?rest26_65
      case hx26_65 => (intro w hSw; go_simp; (try with_reducible rfl))
      case hy26_65 => exact fun w hE => (one_any _ 6 f1 n1 p2 q2 _ ((KT.out _ (Ext.trans X1 hE))) HNA).mono (fun _ _ h => ⟨h.1, h.2, Ext.trans hE h.2⟩)
      (try simp only [List.getElem_toArray, List.getElem_cons_zero, List.getElem_cons_succ, Act.put, List.setIfInBounds_toArray, List.set_cons_zero, List.set_cons_succ])
      refine' wpAnyR_take (i := 27) (v := ?v27_66) Ext.refl (fun _ _ _ => Ext.trans) rfl (by kernel_rfl) (by kernel_rfl) (by kernel_rfl) (fun _ _ _ h => h) (Or.inl (Or.inl ⟨by rfl, ?hy27_66⟩)) ?rest27_66
      case hy27_66 => (intro w hSw; (obtain ⟨c1, c2⟩ := BA.ext (Ext.trans Ewe hSw); obtain ⟨c3, c4⟩ := BB.ext (Ext.trans Ewe hSw); obtain ⟨c5, c6⟩ := BC.ext (Ext.trans Ewe hSw)); go_simp; (try with_reducible rfl))
      (try simp only [List.getElem_toArray, List.getElem_cons_zero, List.getElem_cons_succ, Act.put, List.setIfInBounds_toArray, List.set_cons_zero, List.set_cons_succ])
      refine' wpAnyR_take (i := 28) (v := ?v28_67) Ext.refl (fun _ _ _ => Ext.trans) rfl (by kernel_rfl) (by kernel_rfl) (by kernel_rfl) (fun _ _ _ h => h) (Or.inl (Or.inl ⟨by rfl, ?hy28_67⟩)) ?rest28_67
      case hy28_67 => (intro w hSw; (obtain ⟨c1, c2⟩ := BA.ext (Ext.trans Ewe hSw); obtain ⟨c3, c4⟩ := BB.ext (Ext.trans Ewe hSw); obtain ⟨c5, c6⟩ := BC.ext (Ext.trans Ewe hSw)); go_simp; (try with_reducible rfl))
      (try simp only [List.getElem_toArray, List.getElem_cons_zero, List.getElem_cons_succ, Act.put, List.setIfInBounds_toArray, List.set_cons_zero, List.set_cons_succ])
      refine' wpAnyR_take (i := 29) (v := .agg #[.int .u8 r3, .int .i64 s3]) Ext.refl (fun _ _ _ => Ext.trans) rfl (by kernel_rfl) (by kernel_rfl) (by kernel_rfl) (fun _ _ _ h => h) (Or.inr ⟨by rfl, 36, _, ?hx29_68, ?hy29_68⟩) ?rest29_68
      case hx29_68 => (intro w hSw; go_simp; (try with_reducible rfl))
      case hy29_68 => exact fun w hE => (choose_any _ p2 q2 f2 n2 f3 n3 r3 s3 _ ((KT.out _ (Ext.trans X1 hE))) HC3).mono (fun _ _ h => ⟨h.1, h.2, Ext.trans hE h.2⟩)
      (try simp only [List.getElem_toArray, List.getElem_cons_zero, List.getElem_cons_succ, Act.put, List.setIfInBounds_toArray, List.set_cons_zero, List.set_cons_succ])
      refine' wpAnyR_take (i := 30) (v := ?v30_69) Ext.refl (fun _ _ _ => Ext.trans) rfl (by kernel_rfl) (by kernel_rfl) (by kernel_rfl) (fun _ _ _ h => h) (Or.inl (Or.inl ⟨by rfl, ?hy30_69⟩)) ?rest30_69
      case hy30_69 => (intro w hSw; (obtain ⟨c1, c2⟩ := BA.ext (Ext.trans Ewe hSw); obtain ⟨c3, c4⟩ := BB.ext (Ext.trans Ewe hSw); obtain ⟨c5, c6⟩ := BC.ext (Ext.trans Ewe hSw)); go_simp; (try with_reducible rfl))
      (try simp only [List.getElem_toArray, List.getElem_cons_zero, List.getElem_cons_succ, Act.put, List.setIfInBounds_toArray, List.set_cons_zero, List.set_cons_succ])
      refine' wpAnyR_take (i := 31) (v := ?v31_70) Ext.refl (fun _ _ _ => Ext.trans) rfl (by kernel_rfl) (by kernel_rfl) (by kernel_rfl) (fun _ _ _ h => h) (Or.inl (Or.inl ⟨by rfl, ?hy31_70⟩)) ?rest31_70
      case hy31_70 => (intro w hSw; (obtain ⟨c1, c2⟩ := BA.ext (Ext.trans Ewe hSw); obtain ⟨c3, c4⟩ := BB.ext (Ext.trans Ewe hSw); obtain ⟨c5, c6⟩ := BC.ext (Ext.trans Ewe hSw)); go_simp; (try with_reducible rfl))
      (try simp only [List.getElem_toArray, List.getElem_cons_zero, List.getElem_cons_succ, Act.put, List.setIfInBounds_toArray, List.set_cons_zero, List.set_cons_succ])
      refine' wpAnyR_take (i := 32) (v := ?v32_71) Ext.refl (fun _ _ _ => Ext.trans) rfl (by kernel_rfl) (by kernel_rfl) (by kernel_rfl) (fun _ _ _ h => h) (Or.inl (Or.inl ⟨by rfl, ?hy32_71⟩)) ?rest32_71
      case hy32_71 => (intro w hSw; (obtain ⟨c1, c2⟩ := BA.ext (Ext.trans Ewe hSw); obtain ⟨c3, c4⟩ := BB.ext (Ext.trans Ewe hSw); obtain ⟨c5, c6⟩ := BC.ext (Ext.trans Ewe hSw)); go_simp; (try with_reducible rfl))
      (try simp only [List.getElem_toArray, List.getElem_cons_zero, List.getElem_cons_succ, Act.put, List.setIfInBounds_toArray, List.set_cons_zero, List.set_cons_succ])
      refine' wpAnyR_take (i := 33) (v := ?v33_72) Ext.refl (fun _ _ _ => Ext.trans) rfl (by kernel_rfl) (by kernel_rfl) (by kernel_rfl) (fun _ _ _ h => h) (Or.inl (Or.inl ⟨by rfl, ?hy33_72⟩)) ?rest33_72
      case hy33_72 => (intro w hSw; (obtain ⟨c1, c2⟩ := BA.ext (Ext.trans Ewe hSw); obtain ⟨c3, c4⟩ := BB.ext (Ext.trans Ewe hSw); obtain ⟨c5, c6⟩ := BC.ext (Ext.trans Ewe hSw)); go_simp; (try with_reducible rfl))
      (try simp only [List.getElem_toArray, List.getElem_cons_zero, List.getElem_cons_succ, Act.put, List.setIfInBounds_toArray, List.set_cons_zero, List.set_cons_succ])
      refine' wpAnyR_take (i := 34) (v := .agg #[.int .u8 r3, .int .i64 s3]) Ext.refl (fun _ _ _ => Ext.trans) rfl (by kernel_rfl) (by kernel_rfl) (by kernel_rfl) (fun _ _ _ h => h) (Or.inr ⟨by rfl, 36, _, ?hx34_73, ?hy34_73⟩) ?rest34_73
      case hx34_73 => (intro w hSw; go_simp; (try with_reducible rfl))
      case hy34_73 => exact fun w hE => (choose_any _ f1 n1 f3 n3 f2 n2 r3 s3 _ ((KT.out _ (Ext.trans X1 hE))) HC4).mono (fun _ _ h => ⟨h.1, h.2, Ext.trans hE h.2⟩)
      (try simp only [List.getElem_toArray, List.getElem_cons_zero, List.getElem_cons_succ, Act.put, List.setIfInBounds_toArray, List.set_cons_zero, List.set_cons_succ])
      refine' wpAnyR_take (i := 35) (v := ?v35_74) Ext.refl (fun _ _ _ => Ext.trans) rfl (by kernel_rfl) (by kernel_rfl) (by kernel_rfl) (fun _ _ _ h => h) (Or.inl (Or.inl ⟨by rfl, ?hy35_74⟩)) ?rest35_74
      case hy35_74 => (intro w hSw; (obtain ⟨c1, c2⟩ := BA.ext (Ext.trans Ewe hSw); obtain ⟨c3, c4⟩ := BB.ext (Ext.trans Ewe hSw); obtain ⟨c5, c6⟩ := BC.ext (Ext.trans Ewe hSw)); go_simp; (try with_reducible rfl))
      (try simp only [List.getElem_toArray, List.getElem_cons_zero, List.getElem_cons_succ, Act.put, List.setIfInBounds_toArray, List.set_cons_zero, List.set_cons_succ])
      refine' wpAnyR_take (i := 36) (v := ?v36_75) Ext.refl (fun _ _ _ => Ext.trans) rfl (by kernel_rfl) (by kernel_rfl) (by kernel_rfl) (fun _ _ _ h => h) (Or.inl (Or.inl ⟨by rfl, ?hy36_75⟩)) ?rest36_75
      case hy36_75 => (intro w hSw; (obtain ⟨c1, c2⟩ := BA.ext (Ext.trans Ewe hSw); obtain ⟨c3, c4⟩ := BB.ext (Ext.trans Ewe hSw); obtain ⟨c5, c6⟩ := BC.ext (Ext.trans Ewe hSw)); go_simp; (try with_reducible rfl))
      (try simp only [List.getElem_toArray, List.getElem_cons_zero, List.getElem_cons_succ, Act.put, List.setIfInBounds_toArray, List.set_cons_zero, List.set_cons_succ])
      refine' wpAnyR_take (i := 37) (v := ?v37_76) Ext.refl (fun _ _ _ => Ext.trans) rfl (by kernel_rfl) (by kernel_rfl) (by kernel_rfl) (fun _ _ _ h => h) (Or.inl (Or.inl ⟨by rfl, ?hy37_76⟩)) ?rest37_76
      case hy37_76 => (intro w hSw; (obtain ⟨c1, c2⟩ := BA.ext (Ext.trans Ewe hSw); obtain ⟨c3, c4⟩ := BB.ext (Ext.trans Ewe hSw); obtain ⟨c5, c6⟩ := BC.ext (Ext.trans Ewe hSw)); go_simp; (try with_reducible rfl))
      (try simp only [List.getElem_toArray, List.getElem_cons_zero, List.getElem_cons_succ, Act.put, List.setIfInBounds_toArray, List.set_cons_zero, List.set_cons_succ])
      refine' wpAnyR_take (i := 38) (v := ?v38_77) Ext.refl (fun _ _ _ => Ext.trans) rfl (by kernel_rfl) (by kernel_rfl) (by kernel_rfl) (fun _ _ _ h => h) (Or.inl (Or.inl ⟨by rfl, ?hy38_77⟩)) ?rest38_77
      case hy38_77 => (intro w hSw; (obtain ⟨c1, c2⟩ := BA.ext (Ext.trans Ewe hSw); obtain ⟨c3, c4⟩ := BB.ext (Ext.trans Ewe hSw); obtain ⟨c5, c6⟩ := BC.ext (Ext.trans Ewe hSw)); go_simp; (try with_reducible rfl))
      (try simp only [List.getElem_toArray, List.getElem_cons_zero, List.getElem_cons_succ, Act.put, List.setIfInBounds_toArray, List.set_cons_zero, List.set_cons_succ])
      refine' wpAnyR_take (i := 39) (v := ?v39_78) Ext.refl (fun _ _ _ => Ext.trans) rfl (by kernel_rfl) (by kernel_rfl) (by kernel_rfl) (fun _ _ _ h => h) (Or.inl (Or.inl ⟨by rfl, ?hy39_78⟩)) ?rest39_78
      case hy39_78 => (intro w hSw; (obtain ⟨c1, c2⟩ := BA.ext (Ext.trans Ewe hSw); obtain ⟨c3, c4⟩ := BB.ext (Ext.trans Ewe hSw); obtain ⟨c5, c6⟩ := BC.ext (Ext.trans Ewe hSw)); go_simp; (try with_reducible rfl))
      (try simp only [List.getElem_toArray, List.getElem_cons_zero, List.getElem_cons_succ, Act.put, List.setIfInBounds_toArray, List.set_cons_zero, List.set_cons_succ])
      refine' wpAnyR_take (i := 40) (v := ?v40_79) Ext.refl (fun _ _ _ => Ext.trans) rfl (by kernel_rfl) (by kernel_rfl) (by kernel_rfl) (fun _ _ _ h => h) (Or.inl (Or.inl ⟨by rfl, ?hy40_79⟩)) ?rest40_79
      case hy40_79 => (intro w hSw; (obtain ⟨c1, c2⟩ := BA.ext (Ext.trans Ewe hSw); obtain ⟨c3, c4⟩ := BB.ext (Ext.trans Ewe hSw); obtain ⟨c5, c6⟩ := BC.ext (Ext.trans Ewe hSw)); go_simp; (try with_reducible rfl))
      (try simp only [List.getElem_toArray, List.getElem_cons_zero, List.getElem_cons_succ, Act.put, List.setIfInBounds_toArray, List.set_cons_zero, List.set_cons_succ])
      refine' wpAnyR_take (i := 41) (v := .agg #[.int .u8 p2, .int .i64 q2]) Ext.refl (fun _ _ _ => Ext.trans) rfl (by kernel_rfl) (by kernel_rfl) (by kernel_rfl) (fun _ _ _ h => h) (Or.inr ⟨by rfl, 35, _, ?hx41_80, ?hy41_80⟩) ?rest41_80
      case hx41_80 => (intro w hSw; go_simp; (try with_reducible rfl))
      case hy41_80 => exact fun w hE => (one_any _ 6 f1 n1 p2 q2 _ ((KT.out _ (Ext.trans X1 hE))) HNA).mono (fun _ _ h => ⟨h.1, h.2, Ext.trans hE h.2⟩)
      (try simp only [List.getElem_toArray, List.getElem_cons_zero, List.getElem_cons_succ, Act.put, List.setIfInBounds_toArray, List.set_cons_zero, List.set_cons_succ])
      refine' wpAnyR_take (i := 42) (v := .agg #[.int .u8 f1, .int .i64 n1]) Ext.refl (fun _ _ _ => Ext.trans) rfl (by kernel_rfl) (by kernel_rfl) (by kernel_rfl) (fun _ _ _ h => h) (Or.inr ⟨by rfl, 35, _, ?hx42_81, ?hy42_81⟩) ?rest42_81
      case hx42_81 => (intro w hSw; go_simp; (try with_reducible rfl))
      case hy42_81 => exact fun w hE => (one_any _ 6 p2 q2 f1 n1 _ ((KT.out _ (Ext.trans X1 hE))) HNN).mono (fun _ _ h => ⟨h.1, h.2, Ext.trans hE h.2⟩)
      (try simp only [List.getElem_toArray, List.getElem_cons_zero, List.getElem_cons_succ, Act.put, List.setIfInBounds_toArray, List.set_cons_zero, List.set_cons_succ])
      refine' wpAnyR_take (i := 43) (v := ?v43_82) Ext.refl (fun _ _ _ => Ext.trans) rfl (by kernel_rfl) (by kernel_rfl) (by kernel_rfl) (fun _ _ _ h => h) (Or.inl (Or.inl ⟨by rfl, ?hy43_82⟩)) ?rest43_82
      case hy43_82 => (intro w hSw; (obtain ⟨c1, c2⟩ := BA.ext (Ext.trans Ewe hSw); obtain ⟨c3, c4⟩ := BB.ext (Ext.trans Ewe hSw); obtain ⟨c5, c6⟩ := BC.ext (Ext.trans Ewe hSw)); go_simp; (try with_reducible rfl))
      (try simp only [List.getElem_toArray, List.getElem_cons_zero, List.getElem_cons_succ, Act.put, List.setIfInBounds_toArray, List.set_cons_zero, List.set_cons_succ])
      refine' wpAnyR_take (i := 44) (v := ?v44_83) Ext.refl (fun _ _ _ => Ext.trans) rfl (by kernel_rfl) (by kernel_rfl) (by kernel_rfl) (fun _ _ _ h => h) (Or.inl (Or.inl ⟨by rfl, ?hy44_83⟩)) ?rest44_83
      case hy44_83 => (intro w hSw; (obtain ⟨c1, c2⟩ := BA.ext (Ext.trans Ewe hSw); obtain ⟨c3, c4⟩ := BB.ext (Ext.trans Ewe hSw); obtain ⟨c5, c6⟩ := BC.ext (Ext.trans Ewe hSw)); go_simp; (try with_reducible rfl))
      (try simp only [List.getElem_toArray, List.getElem_cons_zero, List.getElem_cons_succ, Act.put, List.setIfInBounds_toArray, List.set_cons_zero, List.set_cons_succ])
      refine' wpAnyR_take (i := 45) (v := ?v45_84) Ext.refl (fun _ _ _ => Ext.trans) rfl (by kernel_rfl) (by kernel_rfl) (by kernel_rfl) (fun _ _ _ h => h) (Or.inl (Or.inl ⟨by rfl, ?hy45_84⟩)) ?rest45_84
      case hy45_84 => (intro w hSw; (obtain ⟨c1, c2⟩ := BA.ext (Ext.trans Ewe hSw); obtain ⟨c3, c4⟩ := BB.ext (Ext.trans Ewe hSw); obtain ⟨c5, c6⟩ := BC.ext (Ext.trans Ewe hSw)); go_simp; (try with_reducible rfl))
      (try simp only [List.getElem_toArray, List.getElem_cons_zero, List.getElem_cons_succ, Act.put, List.setIfInBounds_toArray, List.set_cons_zero, List.set_cons_succ])
      refine wpAnyR_done (by kernel_rfl) ?_ _
      intro wf _ Ewf
      have X2 : Ext wr wf := Ext.trans X1 Ewf
      obtain ⟨k0, k1⟩ := KT.out _ X2
      go_wp2_with (first | (go_at_call 17; refine (known_any _ (hg.out.ext X2)).mono ?_; rintro e x6 ⟨rfl, y6⟩))
      go_returns
      exact ⟨rfl, Ext.trans E0.out (Ext.trans X2 y6)⟩
end Go.Proofs.YtaddlhebhiehgaaDoor.lawLogic
