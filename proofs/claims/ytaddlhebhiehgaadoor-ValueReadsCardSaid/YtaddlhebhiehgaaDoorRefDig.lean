/-
  The walk of the reference's Digits: the decimal numeral.
-/
import Derived.Test.YtaddlhebhiehgaaDoorKit
import Derived.Lib.ItoaMem
import Derived.Test.YtaddlhebhiehgaaDoorProg
namespace Go.Proofs.YtaddlhebhiehgaaDoor
open Go.RowKit

/-- What digits spell. -/
def dec (l : List UInt8) : Int := l.foldl (fun a c => 10 * a + ((c.toNat : Int) - 48)) 0
theorem dec_snoc (l : List UInt8) (c : UInt8) : dec (l ++ [c]) = 10 * dec l + ((c.toNat : Int) - 48) := by
  unfold dec; rw [List.foldl_append]; rfl
theorem digit_nat (u : Nat) (h : u < 10) : (UInt8.ofNat (48 + u)).toNat = 48 + u := by
  simp; omega
theorem dec_digits (u : Nat) : dec (Lib.decDigits u) = (u : Int) := by
  induction u using Nat.strongRecOn with
  | _ u ih =>
    by_cases h : u < 10
    · rw [Lib.decDigits, dif_pos h]
      simp only [dec, List.foldl_cons, List.foldl_nil, digit_nat u h]
      omega
    · rw [Lib.decDigits, dif_neg h, dec_snoc, ih (u / 10) (by omega), digit_nat (u % 10) (by omega)]
      omega
theorem digits_are (u : Nat) : ∀ c ∈ Lib.decDigits u, 48 ≤ c.toNat ∧ c.toNat ≤ 57 := by
  induction u using Nat.strongRecOn with
  | _ u ih =>
    intro c hc
    by_cases h : u < 10
    · rw [Lib.decDigits, dif_pos h] at hc
      simp only [List.mem_singleton] at hc
      rw [hc, digit_nat u h]; omega
    · rw [Lib.decDigits, dif_neg h] at hc
      rcases List.mem_append.1 hc with hc | hc
      · exact ih (u / 10) (by omega) c hc
      · simp only [List.mem_singleton] at hc
        rw [hc, digit_nat (u % 10) (by omega)]; omega
theorem dec_bd : ∀ (l : List UInt8), (∀ c ∈ l, 48 ≤ c.toNat ∧ c.toNat ≤ 57) → 0 ≤ dec l ∧ dec l < 10 ^ l.length := by
  intro l
  induction h : l.length generalizing l with
  | zero =>
    intro _
    obtain rfl := List.eq_nil_of_length_eq_zero h
    simp [dec]
  | succ n ih =>
    intro hd
    obtain ⟨l', c, rfl⟩ : ∃ l' c, l = l' ++ [c] := ⟨l.dropLast, l.getLast (by intro e; simp [e] at h), (List.dropLast_concat_getLast _).symm⟩
    have hl : l'.length = n := by simpa using h
    obtain ⟨h1, h2⟩ := ih l' hl (fun c hc => hd c (List.mem_append_left _ hc))
    have h3 := hd c (List.mem_append_right _ (List.mem_singleton.2 rfl))
    rw [dec_snoc]
    rw [Int.pow_succ]
    omega
theorem dec_bd4 (l : List UInt8) (hd : ∀ c ∈ l, 48 ≤ c.toNat ∧ c.toNat ≤ 57) (hl : l.length ≤ 4) : 0 ≤ dec l ∧ dec l ≤ 9999 := by
  obtain ⟨h1, h2⟩ := dec_bd l hd
  have h3 : l.length = 0 ∨ l.length = 1 ∨ l.length = 2 ∨ l.length = 3 ∨ l.length = 4 := by omega
  rcases h3 with h | h | h | h | h <;> (rw [h] at h2; simp at h2; omega)
theorem dec_bd5 (l : List UInt8) (hd : ∀ c ∈ l, 48 ≤ c.toNat ∧ c.toNat ≤ 57) (hl : l.length ≤ 5) : 0 ≤ dec l ∧ dec l ≤ 99999 := by
  obtain ⟨h1, h2⟩ := dec_bd l hd
  have h3 : l.length ≤ 4 ∨ l.length = 5 := by omega
  rcases h3 with h | h
  · have := dec_bd4 l hd h; omega
  · rw [h] at h2; simp at h2; omega
theorem digits_len (u : Nat) (h : u ≤ 9999) : 1 ≤ (Lib.decDigits u).length ∧ (Lib.decDigits u).length ≤ 4 := by
  rw [Lib.decDigits_length]
  refine ⟨Lib.nDigits_pos u, ?_⟩
  by_cases h1 : u < 10
  · rw [Lib.nDigits_small h1]; omega
  · rw [Lib.nDigits_big h1]
    by_cases h2 : u / 10 < 10
    · rw [Lib.nDigits_small h2]; omega
    · rw [Lib.nDigits_big h2]
      by_cases h3 : u / 10 / 10 < 10
      · rw [Lib.nDigits_small h3]; omega
      · rw [Lib.nDigits_big h3, Lib.nDigits_small (by omega)]; omega

theorem bytes_append (a b : Array UInt8) : (⟨a⟩ : ByteArray) ++ ⟨b⟩ = ⟨a ++ b⟩ := ByteArray.ext (by simp)
/-- One byte, made a string. -/
theorem conv_byte (W : World) (b : Nat) (v : Int) (c : UInt8) (hc : UInt8.ofNat v.toNat = c) (h : W.cell? ⟨b, 0, none⟩ = some (.int .u8 v)) : (convert 110 9 (.slice (some ⟨b, 0, none⟩) 1 1)).run Tryd.prog W = .ok (.string ⟨#[c]⟩) W := by
  have hl := run_loadCells_list (P := Tryd.prog) (w := W) ⟨b, 0, none⟩ [.int .u8 v] (fun j u hj => by
    rcases j with _ | j
    · simp only [List.getElem?_cons_zero, Option.some.injEq] at hj
      subst hj
      exact h
    · simp at hj)
  rw [run_convert_bytes_string W 110 9 5 _ _ _ Tryd.underlying110 Tryd.underlying5 Tryd.underlying9]
  rw [run_bytesToString W (⟨b, 0, none⟩ : Addr) 1 1 [v] hl, ← hc]
  rfl
set_option maxRecDepth 100000 in
set_option maxHeartbeats 1000000 in
theorem digits_small (u : Nat) (h : u < 10) (w : World) : Calls Tryd.prog 59 #[.int .i64 (u : Int)] w fun e w' => e = .returned (.string ⟨(Lib.decDigits u).toArray⟩) ∧ Ext w w' := by
  rw [Lib.decDigits, dif_pos h]
  have h1 : ¬ (u : Int) < 0 := by omega
  have h2 : ¬ 10 ≤ (u : Int) := by omega
  have h3 : (u : Int) % 10 = u := by omega
  obtain ⟨c, hc⟩ : ∃ c, c = UInt8.ofNat (48 + u) := ⟨_, rfl⟩
  rw [← hc]
  have hc := conv_byte (w.alloc (.cells #[.int .u8 (48 + (u : Int))] 5)) w.heap.size (48 + (u : Int)) c (by rw [hc, show (48 + (u : Int)).toNat = 48 + u by omega]) (by simp [go_sem])
  go_enter Tryd.func59, Tryd.ntmps59
  go_wp2_with fail
  go_returns
  exact ⟨rfl, (by repeat' (first | (with_reducible exact Ext.refl _) | (with_reducible assumption) | (with_reducible refine Ext.alloc ?_ _) | (with_reducible refine Ext.drew ?_) | (with_reducible refine Ext.drewN ?_ _) | (with_reducible refine Ext.setCell ?_ ?_ _) | (with_reducible refine Ext.trans ?_ (by assumption)) | go_size))⟩
set_option maxRecDepth 100000 in
set_option maxHeartbeats 1000000 in
theorem digits_nat (u : Nat) : ∀ (w : World), u ≤ 9999 → Calls Tryd.prog 59 #[.int .i64 (u : Int)] w fun e w' => e = .returned (.string ⟨(Lib.decDigits u).toArray⟩) ∧ Ext w w' := by
  induction u using Nat.strongRecOn with
  | _ u ih =>
    intro w hu
    by_cases h : u < 10
    · exact digits_small u h w
    · have IH := fun w' => ih (u / 10) (by omega) w' (by omega)
      clear ih
      rw [Lib.decDigits, dif_neg h]
      have h1 : ¬ (u : Int) < 0 := by omega
      have h2 : 10 ≤ (u : Int) := by omega
      obtain ⟨c, hq⟩ : ∃ c, c = UInt8.ofNat (48 + u % 10) := ⟨_, rfl⟩
      rw [← hq]
      have hc := fun r : Int => fun hr : (u : Int) % 10 = r => conv_byte (w.alloc (.cells #[.int .u8 (48 + r)] 5)) w.heap.size (48 + r) c (by rw [hq, show (48 + r).toNat = 48 + u % 10 by omega]) (by simp [go_sem])
      have hd : ((u / 10 : Nat) : Int) = (u : Int) / 10 := by omega
      rw [hd] at IH
      have hlen := (digits_len (u / 10) (by omega)).2
      generalize Lib.decDigits (u / 10) = l at IH hlen
      have hlen2 : ¬ 9223372036854775807 < l.length + 1 := by omega
      have IH := Lib.hid IH
      have hr3 : 0 ≤ (u : Int) % 10 := by omega
      have hr4 : (u : Int) % 10 < 10 := by omega
      have hc := hc _ rfl
      have hu2 : (u : Int) ≤ 9999 := by omega
      clear hu hd hq
      go_enter Tryd.func59, Tryd.ntmps59
      go_wp2_with fail
      refine (IH.out _).mono ?_
      rintro e w1 ⟨rfl, hb1⟩
      go_wp2_with fail
      go_returns
      exact ⟨by rw [bytes_append]; simp, (by repeat' (first | (with_reducible exact Ext.refl _) | (with_reducible assumption) | (with_reducible refine Ext.alloc ?_ _) | (with_reducible refine Ext.drew ?_) | (with_reducible refine Ext.drewN ?_ _) | (with_reducible refine Ext.setCell ?_ ?_ _) | (with_reducible refine Ext.trans ?_ (by assumption)) | go_size))⟩
set_option maxRecDepth 100000 in
set_option maxHeartbeats 1000000 in
theorem digits_any (n : Int) (h1 : -9999 ≤ n) (h2 : n ≤ 9999) (w : World) : Calls Tryd.prog 59 #[.int .i64 n] w fun e w' => e = .returned (.string ⟨(Lib.itoa n).toArray⟩) ∧ Ext w w' := by
  by_cases h : n < 0
  · obtain ⟨u, rfl⟩ : ∃ u : Nat, n = -(u : Int) := ⟨n.natAbs, by omega⟩
    rw [Lib.itoa_neg u (by omega)]
    have IH := Lib.hid (fun w' => digits_nat u w' (by omega))
    have h3 : - -(u : Int) = u := by omega
    have hlen := (digits_len u (by omega)).2
    have hlen2 : ¬ 9223372036854775807 < 1 + (Lib.decDigits u).length := by omega
    go_enter Tryd.func59, Tryd.ntmps59
    go_wp2_with fail
    refine (IH.out _).mono ?_
    rintro e w1 ⟨rfl, hb1⟩
    go_wp2_with fail
    go_returns
    exact ⟨by rw [bytes_append]; simp, (by repeat' (first | (with_reducible exact Ext.refl _) | (with_reducible assumption) | (with_reducible refine Ext.alloc ?_ _) | (with_reducible refine Ext.drew ?_) | (with_reducible refine Ext.drewN ?_ _) | (with_reducible refine Ext.setCell ?_ ?_ _) | (with_reducible refine Ext.trans ?_ (by assumption)) | go_size))⟩
  · obtain ⟨u, rfl⟩ : ∃ u : Nat, n = u := ⟨n.toNat, by omega⟩
    rw [Lib.itoa_nonneg]
    exact digits_nat u w (by omega)
end Go.Proofs.YtaddlhebhiehgaaDoor
