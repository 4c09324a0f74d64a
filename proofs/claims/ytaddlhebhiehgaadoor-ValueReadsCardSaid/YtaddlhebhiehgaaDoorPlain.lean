/-
  Plain laws on integers that the walks and the laws share. No program stands here.
-/
import Derived.WalkKit
namespace Go.Proofs.YtaddlhebhiehgaaDoor
open Go.RowKit

theorem tmod_bd (a b : Int) (_h : ¬ b = 0) : (0 < b → -b < a.tmod b ∧ a.tmod b < b) ∧ (b < 0 → b < a.tmod b ∧ a.tmod b < -b) := by
  constructor
  · intro hb
    exact ⟨Int.lt_tmod_of_pos a hb, Int.tmod_lt_of_pos a hb⟩
  · intro hb
    have h1 := Int.lt_tmod_of_pos a (show 0 < -b by omega)
    have h2 := Int.tmod_lt_of_pos a (show 0 < -b by omega)
    rw [Int.tmod_neg] at h1 h2
    omega
theorem fdiv_keep (a b : Int) (h : ¬ b = 0) (hk : a.tmod b = 0 ∨ (a.tmod b < 0 ↔ b < 0)) : a.fdiv b = a.tdiv b ∧ a.fmod b = a.tmod b := by
  have hd := Int.mul_tdiv_add_tmod a b
  obtain ⟨p1, p2⟩ := tmod_bd a b h
  by_cases hb : 0 < b
  · have := p1 hb
    exact (Int.fdiv_fmod_unique hb).2 ⟨by omega, by omega, by omega⟩
  · have := p2 (by omega)
    exact (Int.fdiv_fmod_unique' (by omega)).2 ⟨by omega, by omega, by omega⟩
theorem fdiv_turn (a b : Int) (h : ¬ b = 0) (h0 : ¬ a.tmod b = 0) (hk : ¬ (a.tmod b < 0 ↔ b < 0)) : a.fdiv b = a.tdiv b - 1 ∧ a.fmod b = a.tmod b + b := by
  have hd := Int.mul_tdiv_add_tmod a b
  have hm : b * (a.tdiv b - 1) = b * a.tdiv b - b := by rw [Int.mul_sub, Int.mul_one]
  obtain ⟨p1, p2⟩ := tmod_bd a b h
  by_cases hb : 0 < b
  · have := p1 hb
    exact (Int.fdiv_fmod_unique hb).2 ⟨by omega, by omega, by omega⟩
  · have := p2 (by omega)
    exact (Int.fdiv_fmod_unique' (by omega)).2 ⟨by omega, by omega, by omega⟩
theorem tdiv_bd (a b : Int) (h1 : -9999 ≤ a) (h2 : a ≤ 9999) : -9999 ≤ a.tdiv b ∧ a.tdiv b ≤ 9999 := by
  have h := Int.natAbs_tdiv_le_natAbs a b
  omega
theorem fmod_bd (a b : Int) (h1 : -9999 ≤ b) (h2 : b ≤ 9999) (h : ¬ b = 0) : -9999 ≤ a.fmod b ∧ a.fmod b ≤ 9999 := by
  by_cases hb : 0 < b
  · have := Int.fmod_nonneg_of_pos a hb; have := Int.fmod_lt_of_pos a hb; omega
  · have hb : 0 < -b := by omega
    have h3 := Int.fmod_nonneg_of_pos (-a) hb; have h4 := Int.fmod_lt_of_pos (-a) hb
    rw [Int.neg_fmod_neg] at h3 h4
    omega
theorem fdiv_bd (a b : Int) (h1 : -9999 ≤ a) (h2 : a ≤ 9999) (h : ¬ b = 0) : -9999 ≤ a.fdiv b ∧ a.fdiv b ≤ 9999 := by
  have hd := Int.mul_tdiv_add_tmod a b
  have hb := tdiv_bd a b h1 h2
  by_cases h0 : a.tmod b = 0
  · have := fdiv_keep a b h (.inl h0); omega
  · by_cases hk : a.tmod b < 0 ↔ b < 0
    · have := fdiv_keep a b h (.inr hk); omega
    · obtain ⟨e1, e2⟩ := fdiv_turn a b h h0 hk
      obtain ⟨p1, p2⟩ := tmod_bd a b h
      by_cases hx : a.tdiv b = -9999
      · exfalso
        rw [hx] at hd
        by_cases hb : 0 < b
        · have := p1 hb; omega
        · have := p2 (by omega); omega
      · omega
end Go.Proofs.YtaddlhebhiehgaaDoor
