/-
  ValueCompares: the walk, joined out of its cases.
-/
import Derived.Test.YtaddlhebhiehgaaDoorLawCmp1
import Derived.Test.YtaddlhebhiehgaaDoorLawCmp2
import Derived.Test.YtaddlhebhiehgaaDoorLawCmp3
import Derived.Test.YtaddlhebhiehgaaDoorLawCmp4
namespace Go.Proofs.YtaddlhebhiehgaaDoor.lawCompares
open Go.RowKit Go.Shelf

theorem h13 (a b : Int) (h1 : -9999 ≤ a) (h2 : a ≤ 9999) (h3 : -9999 ≤ b) (h4 : b ≤ 9999) (v : Int) (hv : bit (decide (a < b)) = v) :
    Hid (∀ w', Calls Tryd.prog 14 #[.int .u8 13, .agg #[.int .u8 0, .int .i64 a], .agg #[.int .u8 0, .int .i64 b]] w' fun e w'' => e = .returned (.tuple #[.agg #[.int .u8 0, .int .i64 v], .int .i64 0]) ∧ Ext w' w'') := by
  have H := fun w' => op2_num13 a b h1 h2 h3 h4 w'
  rw [cmpI_lt, hv] at H
  exact Lib.hid H
theorem h12 (a b : Int) (h1 : -9999 ≤ a) (h2 : a ≤ 9999) (h3 : -9999 ≤ b) (h4 : b ≤ 9999) (v : Int) (hv : bit (decide (a = b)) = v) :
    Hid (∀ w', Calls Tryd.prog 14 #[.int .u8 12, .agg #[.int .u8 0, .int .i64 a], .agg #[.int .u8 0, .int .i64 b]] w' fun e w'' => e = .returned (.tuple #[.agg #[.int .u8 0, .int .i64 v], .int .i64 0]) ∧ Ext w' w'') := by
  have H := fun w' => op2_num12 a b h1 h2 h3 h4 w'
  rw [cmpI_eq, hv] at H
  exact Lib.hid H
theorem h14 (a b : Int) (h1 : -9999 ≤ a) (h2 : a ≤ 9999) (h3 : -9999 ≤ b) (h4 : b ≤ 9999) (v : Int) (hv : bit (decide (a ≤ b)) = v) :
    Hid (∀ w', Calls Tryd.prog 14 #[.int .u8 14, .agg #[.int .u8 0, .int .i64 a], .agg #[.int .u8 0, .int .i64 b]] w' fun e w'' => e = .returned (.tuple #[.agg #[.int .u8 0, .int .i64 v], .int .i64 0]) ∧ Ext w' w'') := by
  have H := fun w' => op2_num14 a b h1 h2 h3 h4 w'
  rw [cmpI_le, hv] at H
  exact Lib.hid H
theorem hnot (n : Int) (h1 : -9999 ≤ n) (h2 : n ≤ 9999) (v : Int) (hv : bit (n == 0) = v) :
    Hid (∀ w', Calls Tryd.prog 41 #[.int .u8 6, .agg #[.int .u8 0, .int .i64 n]] w' fun e w'' => e = .returned (.tuple #[.agg #[.int .u8 0, .int .i64 v], .int .i64 0]) ∧ Ext w' w'') := by
  have H := fun w' => op1_not n h1 h2 w'
  rw [hv] at H
  exact Lib.hid H
theorem b1 {p : Prop} [Decidable p] (h : p) : bit (decide p) = 1 := by simp [bit, h]
theorem b0 {p : Prop} [Decidable p] (h : ¬ p) : bit (decide p) = 0 := by simp [bit, h]

theorem walkAt (x y z : Int) (hx1 : -32768 ≤ x) (hx2 : x ≤ 32767) (hy1 : -32768 ≤ y) (hy2 : y ≤ 32767) (hz1 : -32768 ≤ z) (hz2 : z ≤ 32767) (w : World) (hg : Glob w) :
    Calls Tryd.prog 10 #[.int .i16 x, .int .i16 y, .int .i16 z] w fun e w' => e = .returned (.bool true) ∧ Ext w w' := by
  obtain ⟨a1, a2⟩ := lawSums.tmod_bd x
  obtain ⟨b1', b2'⟩ := lawSums.tmod_bd y
  obtain ⟨c1, c2⟩ := lawSums.tmod_bd z
  obtain ⟨a, ha⟩ : ∃ a, a = x.tmod 10000 := ⟨_, rfl⟩
  obtain ⟨b, hb⟩ : ∃ b, b = y.tmod 10000 := ⟨_, rfl⟩
  obtain ⟨c, hc⟩ : ∃ c, c = z.tmod 10000 := ⟨_, rfl⟩
  rw [← ha] at a1 a2
  rw [← hb] at b1' b2'
  rw [← hc] at c1 c2
  have N0 := hnot 0 (by omega) (by omega) 1 rfl
  have N1 := hnot 1 (by omega) (by omega) 0 rfl
  by_cases h : a < b
  · by_cases h2 : b < c
    · exact walk_lt1 x y z a b c hx1 hx2 hy1 hy2 hz1 hz2 ha hb hc w hg (h13 a b a1 a2 b1' b2' 1 (b1 h)) (h13 b a b1' b2' a1 a2 0 (b0 (by omega))) (h12 a b a1 a2 b1' b2' 0 (b0 (by omega))) (h14 a b a1 a2 b1' b2' 1 (b1 (by omega))) N0 N1 (h13 b c b1' b2' c1 c2 1 (b1 h2)) (h13 a c a1 a2 c1 c2 1 (b1 (by omega)))
    · exact walk_lt0 x y z a b c hx1 hx2 hy1 hy2 hz1 hz2 ha hb hc w hg (h13 a b a1 a2 b1' b2' 1 (b1 h)) (h13 b a b1' b2' a1 a2 0 (b0 (by omega))) (h12 a b a1 a2 b1' b2' 0 (b0 (by omega))) (h14 a b a1 a2 b1' b2' 1 (b1 (by omega))) N0 N1 (h13 b c b1' b2' c1 c2 0 (b0 h2))
  · by_cases h2 : a = b
    · subst h2
      exact walk_eq x y z a c hx1 hx2 hy1 hy2 hz1 hz2 ha hb hc w hg (h13 a a a1 a2 a1 a2 0 (b0 (by omega))) (h13 a a a1 a2 a1 a2 0 (b0 (by omega))) (h12 a a a1 a2 a1 a2 1 (b1 rfl)) (h14 a a a1 a2 a1 a2 1 (b1 (by omega))) N0 N1
    · exact walk_gt x y z a b c hx1 hx2 hy1 hy2 hz1 hz2 ha hb hc w hg (h13 a b a1 a2 b1' b2' 0 (b0 (by omega))) (h13 b a b1' b2' a1 a2 1 (b1 (by omega))) (h12 a b a1 a2 b1' b2' 0 (b0 h2)) (h14 a b a1 a2 b1' b2' 0 (b0 (by omega))) N1 N0
end Go.Proofs.YtaddlhebhiehgaaDoor.lawCompares
