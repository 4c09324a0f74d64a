/-
  ValueChooses: the walk's facts, laid for every three values, list and width.
-/
import Derived.Test.YtaddlhebhiehgaaDoorLawChooses
namespace Go.Proofs.YtaddlhebhiehgaaDoor.lawChooses
open Go.RowKit Go.Shelf Go.Proofs.YtaddlhebhiehgaaDoor.lawOrders

theorem refChoose_any (f0 n0 f1 n1 f2 n2 : Int) (g0 : 0 ≤ f0) (w : World) :
    Calls Tryd.prog 21 #[.agg #[.int .u8 f0, .int .i64 n0], .agg #[.int .u8 f1, .int .i64 n1], .agg #[.int .u8 f2, .int .i64 n2]] w fun e w' => e = .returned (.agg #[.int .u8 (chF f0 n0 f1 f2), .int .i64 (if f0 = 0 then (if n0 = 0 then n2 else n1) else n0)]) ∧ Ext w w' := by
  by_cases h : f0 = 0
  · subst h
    by_cases h2 : n0 = 0
    · subst h2; exact refChoose_zero f1 n1 f2 n2 w
    · have e1 : chF 0 n0 f1 f2 = f1 := by simp [chF, h2]
      rw [e1, if_pos rfl, if_neg h2]
      exact refChoose_one n0 f1 n1 f2 n2 h2 w
  · have e1 : chF f0 n0 f1 f2 = f0 := by simp [chF, h]
    rw [e1, if_neg h]
    exact refChoose_fault f0 n0 f1 n1 f2 n2 (by omega) w
theorem all3 (f0 n0 f1 n1 f2 n2 : Int) : allB [(f0, n0), (f1, n1), (f2, n2)] = (cellB f0 n0 && cellB f1 n1 && cellB f2 n2) := by simp [allB, Bool.and_assoc]
theorem row_lies {w : World} {g : Nat} {zs : List (Int × Int)} (h : RowIs w 23 g zs) (h0 : ∀ z ∈ zs, 0 ≤ z.1) : Lies w g 0 zs :=
  h.lies (fun j hj => by rw [getElem!_pos zs j hj]; exact h0 _ (List.getElem_mem hj))
theorem pickV_nn (n : Int) (zs : List (Int × Int)) (k c : Nat) (h : ∀ z ∈ zs, 0 ≤ z.1) : ∀ z ∈ pickV n zs k c, 0 ≤ z.1 := by
  intro z hz
  unfold pickV at hz
  split at hz
  · exact h z (List.mem_of_mem_drop (List.mem_of_mem_take hz))
  · rw [List.eq_of_mem_replicate hz]; simp
theorem pickV_len (n : Int) (zs : List (Int × Int)) (k c : Nat) (h : zs.length = c * k) : (pickV n zs k c).length = k := by
  unfold pickV
  split
  · next hc =>
    have h3 : n.toNat * k + k ≤ c * k := by
      have : n.toNat + 1 ≤ c := by omega
      calc n.toNat * k + k = (n.toNat + 1) * k := by rw [Nat.add_mul, Nat.one_mul]
        _ ≤ c * k := Nat.mul_le_mul_right k this
    simp
    omega
  · simp
theorem nn_of_lies {w : World} {b off : Nat} {zs : List (Int × Int)} (h : Lies w b off zs) : ∀ z ∈ zs, 0 ≤ z.1 := by
  intro z hz
  obtain ⟨j, hj, rfl⟩ := List.getElem_of_mem hz
  have := (h.2 j hj).1
  rwa [getElem!_pos zs j hj] at this
/-- What an element of a list is, by the program and by the reference. -/
theorem pick_way (b off n c k q : Nat) (f0 n0 : Int) (zs : List (Int × Int)) (hz : zs.length = n) (hq : q * k = n) (h1 : 1 ≤ k) (h2 : k ≤ 8) (h3 : 1 ≤ q) (h4 : q ≤ 6) (h5 : n ≤ 8) (g0 : 0 ≤ f0) (hnn : ∀ z ∈ zs, 0 ≤ z.1) (ha : allB zs = true) (hc : cellB f0 n0 = true) :
    ∃ res : List (Int × Int), res.length = k ∧
      Hid (∀ (g c5 : Nat) (W : World), n ≤ c5 → c5 ≤ 9223372036854775807 → Lies W g 0 zs → Calls Tryd.prog 22 #[.slice (some ⟨g, 0, none⟩) n c5, .int .i64 (k : Int), .agg #[.int .u8 f0, .int .i64 n0]] W fun e w' => ∃ g6 : Nat, e = .returned (.tuple #[.slice (some ⟨g6, 0, none⟩) k k, .int .i64 0]) ∧ W.heap.size ≤ g6 ∧ Lies w' g6 0 res ∧ Ext W w') ∧
      Hid (∀ (W : World), Lies W b off zs → Calls Tryd.prog 25 #[.slice (some ⟨b, off, none⟩) n c, .int .i64 (k : Int), .agg #[.int .u8 f0, .int .i64 n0]] W fun e w' => ∃ g cap : Nat, e = .returned (.slice (some ⟨g, 0, none⟩) k cap) ∧ W.heap.size ≤ g ∧ Lies w' g 0 res ∧ Ext W w') := by
  by_cases hf : f0 = 0
  · subst hf
    obtain ⟨a1, a2⟩ : -9999 ≤ n0 ∧ n0 ≤ 9999 := by simpa [cellB] using hc
    refine ⟨pickV n0 zs k q, pickV_len n0 zs k q (by omega), Lib.hid (fun g c5 W hc1 hc2 hl => ?_), Lib.hid (fun W hl => ?_)⟩
    · refine (pickW_num g 0 n c5 k q n0 zs hz hq h1 h2 h3 h4 h5 hc1 hc2 W hl a1 a2 ha).mono ?_
      rintro e w' ⟨g6, he, hg, hr, hx⟩
      exact ⟨g6, he, hg, row_lies hr (pickV_nn n0 zs k q hnn), hx⟩
    · by_cases hneg : n0 < 0
      · have e : pickV n0 zs k q = List.replicate k (3, 0) := by unfold pickV; rw [if_neg (by omega)]
        rw [e]
        exact refPick_neg b off n c k n0 W h1 h2 h5 a1 a2 hneg
      · obtain ⟨m, rfl⟩ : ∃ m : Nat, n0 = m := ⟨n0.toNat, by omega⟩
        by_cases hm : m < q
        · have e : pickV (m : Int) zs k q = (zs.drop (m * k)).take k := by unfold pickV; rw [if_pos (by omega)]; rfl
          rw [e]
          have h6 : m * k + k ≤ n := by
            rw [← hq]
            calc m * k + k = (m + 1) * k := by rw [Nat.add_mul, Nat.one_mul]
              _ ≤ q * k := Nat.mul_le_mul_right k hm
          exact refPick_in b off n c k m zs W h1 h2 h5 hz h6 hl
        · have e : pickV (m : Int) zs k q = List.replicate k (3, 0) := by unfold pickV; rw [if_neg (by omega)]
          rw [e]
          have h6 : (n : Int) < ((m : Int) + 1) * (k : Int) := by
            have h7 : q * k < (m + 1) * k := Nat.mul_lt_mul_of_pos_right (by omega) (by omega)
            rw [hq] at h7
            have h8 : ((n : Nat) : Int) < (((m + 1) * k : Nat) : Int) := by omega
            rwa [Int.natCast_mul, Int.natCast_add] at h8
          exact refPick_far b off n c k m W h1 h2 h5 a1 a2 (by omega) h6
  · refine ⟨List.replicate k (f0, n0), by simp, Lib.hid (fun g c5 W _ _ hl => ?_), Lib.hid (fun W _ => refPick_fault b off n c k f0 n0 W h1 h2 (by omega))⟩
    refine (pick_fault g 0 n c5 k q f0 n0 zs hz hq h1 h2 h3 h4 h5 g0 W hl hc ha hf).mono ?_
    rintro e w' ⟨g6, he, hg, hr, hx⟩
    rw [cellsOf_rep] at hr
    exact ⟨g6, he, hg, row_lies hr (fun z hz' => by rw [List.eq_of_mem_replicate hz']; exact g0), hx⟩
set_option maxRecDepth 100000 in
theorem walk_long (f0 n0 f1 n1 f2 n2 wide : Int) (p : Option Addr) (n c : Nat) (hn : 40 < n) (w : World) (hg : Glob w) :
    Calls Tryd.prog 4 #[.agg #[.int .u8 f0, .int .i64 n0, .int .u8 f1, .int .i64 n1, .int .u8 f2, .int .i64 n2], .slice p n c, .int .i64 wide] w fun e w' => e = .returned (.bool true) ∧ Ext w w' := by
  have hn' : (40 : Int) < (n : Int) := by omega
  go_enter Tryd.func4, Tryd.ntmps4
  go_wp2_with (go_at_call 17; refine (known_any _ (hg.ext (by repeat' (first | (with_reducible exact Ext.refl _) | (with_reducible assumption) | (with_reducible refine Ext.alloc ?_ _) | (with_reducible refine Ext.drew ?_) | (with_reducible refine Ext.drewN ?_ _) | (with_reducible refine Ext.setCell ?_ ?_ _) | (with_reducible refine Ext.trans ?_ (by assumption)) | go_size)))).mono ?_; rintro e x10 ⟨rfl, y10⟩)
  go_returns
  exact ⟨rfl, (by repeat' (first | (with_reducible exact Ext.refl _) | (with_reducible assumption) | (with_reducible refine Ext.alloc ?_ _) | (with_reducible refine Ext.drew ?_) | (with_reducible refine Ext.drewN ?_ _) | (with_reducible refine Ext.setCell ?_ ?_ _) | (with_reducible refine Ext.trans ?_ (by assumption)) | go_size))⟩
theorem no_form (wide : Int) : ¬ FormOk ((0 : Nat) : Int) wide := fun h => by have := h.2.2.1; omega
theorem form_nat {n : Nat} {wide : Int} (h : FormOk (n : Int) wide) : ∃ k q : Nat, wide = (k : Int) ∧ q * k = n ∧ 1 ≤ k ∧ k ≤ 8 ∧ 1 ≤ q ∧ q ≤ 6 ∧ n ≤ 8 := by
  obtain ⟨h1, h2, h3, h4, h5, h6⟩ := h
  obtain ⟨k, rfl⟩ : ∃ k : Nat, wide = k := ⟨wide.toNat, by omega⟩
  have h7 : n % k = 0 := by omega
  have h8 : n / k ≤ 6 := by omega
  have h9 : n / k * k = n := Nat.div_mul_cancel (Nat.dvd_of_mod_eq_zero h7)
  refine ⟨k, n / k, rfl, h9, by omega, by omega, ?_, h8, by omega⟩
  rcases Nat.eq_zero_or_pos (n / k) with h | h
  · rw [h] at h9; omega
  · exact h

section
variable (f0 n0 f1 n1 f2 n2 : Int)
theorem cho_ok (g0 : 0 ≤ f0) (g1 : 0 ≤ f1) (g2 : 0 ≤ f2) (h : allB [(f0, n0), (f1, n1), (f2, n2)] = true) : ∃ rf rn : Int,
    Hid (∀ w', Calls Tryd.prog 19 #[.agg #[.int .u8 f0, .int .i64 n0], .agg #[.int .u8 f1, .int .i64 n1], .agg #[.int .u8 f2, .int .i64 n2]] w' fun e w'' => e = .returned (.tuple #[.agg #[.int .u8 rf, .int .i64 rn], .int .i64 0]) ∧ Ext w' w'') ∧
    Hid (∀ w', Calls Tryd.prog 21 #[.agg #[.int .u8 f0, .int .i64 n0], .agg #[.int .u8 f1, .int .i64 n1], .agg #[.int .u8 f2, .int .i64 n2]] w' fun e w'' => e = .returned (.agg #[.int .u8 rf, .int .i64 rn]) ∧ Ext w' w'') := by
  rw [all3] at h
  simp only [Bool.and_eq_true] at h
  exact ⟨_, _, Lib.hid (fun w' => choose_ok f0 n0 f1 n1 f2 n2 g0 g1 g2 h.1.1 h.1.2 h.2 w'), Lib.hid (fun w' => refChoose_any f0 n0 f1 n1 f2 n2 g0 w')⟩
theorem cho_no (g0 : 0 ≤ f0) (g1 : 0 ≤ f1) (g2 : 0 ≤ f2) (h : allB [(f0, n0), (f1, n1), (f2, n2)] = false) :
    Hid (∀ w', Calls Tryd.prog 19 #[.agg #[.int .u8 f0, .int .i64 n0], .agg #[.int .u8 f1, .int .i64 n1], .agg #[.int .u8 f2, .int .i64 n2]] w' fun e w'' => e = .returned (.tuple #[.agg #[.int .u8 0, .int .i64 0], .int .i64 2]) ∧ Ext w' w'') := by
  rw [all3] at h
  exact Lib.hid (fun w' => choose_err f0 n0 f1 n1 f2 n2 g0 g1 g2 h w')
theorem walkAt_nil (wide : Int) (g0 : 0 ≤ f0) (g1 : 0 ≤ f1) (g2 : 0 ≤ f2) (_ : -9223372036854775808 ≤ wide) (_ : wide ≤ 9223372036854775807) (w : World) (hg : Glob w) :
    Calls Tryd.prog 4 #[.agg #[.int .u8 f0, .int .i64 n0, .int .u8 f1, .int .i64 n1, .int .u8 f2, .int .i64 n2], .slice none 0 0, .int .i64 wide] w fun e w' => e = .returned (.bool true) ∧ Ext w w' := by
  cases h : allB [(f0, n0), (f1, n1), (f2, n2)] with
  | true =>
    obtain ⟨rf, rn, h1, h2⟩ := cho_ok f0 n0 f1 n1 f2 n2 g0 g1 g2 h
    exact walk_nil1 f0 n0 f1 n1 f2 n2 wide rf rn g0 g1 g2 w hg (no_form wide) h1 h2 h
  | false => exact walk_nil0 f0 n0 f1 n1 f2 n2 wide g0 g1 g2 w hg (no_form wide) (cho_no f0 n0 f1 n1 f2 n2 g0 g1 g2 h) h
theorem walkAt_empty (p : Addr) (c : Nat) (wide : Int) (g0 : 0 ≤ f0) (g1 : 0 ≤ f1) (g2 : 0 ≤ f2) (_ : -9223372036854775808 ≤ wide) (_ : wide ≤ 9223372036854775807) (w : World) (hg : Glob w) :
    Calls Tryd.prog 4 #[.agg #[.int .u8 f0, .int .i64 n0, .int .u8 f1, .int .i64 n1, .int .u8 f2, .int .i64 n2], .slice (some p) 0 c, .int .i64 wide] w fun e w' => e = .returned (.bool true) ∧ Ext w w' := by
  cases h : allB [(f0, n0), (f1, n1), (f2, n2)] with
  | true =>
    obtain ⟨rf, rn, h1, h2⟩ := cho_ok f0 n0 f1 n1 f2 n2 g0 g1 g2 h
    exact walk_empty1 f0 n0 f1 n1 f2 n2 wide p c rf rn g0 g1 g2 w hg (no_form wide) h1 h2 h
  | false => exact walk_empty0 f0 n0 f1 n1 f2 n2 wide p c g0 g1 g2 w hg (no_form wide) (cho_no f0 n0 f1 n1 f2 n2 g0 g1 g2 h) h
theorem walkAt_some (b off n c : Nat) (zs : List (Int × Int)) (wide : Int) (g0 : 0 ≤ f0) (g1 : 0 ≤ f1) (g2 : 0 ≤ f2) (_ : -9223372036854775808 ≤ wide) (_ : wide ≤ 9223372036854775807) (hz : zs.length = n) (hn0 : 0 < n) (w : World) (hl : Lies w b off zs) (hg : Glob w) :
    Calls Tryd.prog 4 #[.agg #[.int .u8 f0, .int .i64 n0, .int .u8 f1, .int .i64 n1, .int .u8 f2, .int .i64 n2], .slice (some ⟨b, off, none⟩) n c, .int .i64 wide] w fun e w' => e = .returned (.bool true) ∧ Ext w w' := by
  by_cases h40 : n ≤ 40
  · have hch : (∃ rf rn : Int, allB [(f0, n0), (f1, n1), (f2, n2)] = true ∧
        Hid (∀ w', Calls Tryd.prog 19 #[.agg #[.int .u8 f0, .int .i64 n0], .agg #[.int .u8 f1, .int .i64 n1], .agg #[.int .u8 f2, .int .i64 n2]] w' fun e w'' => e = .returned (.tuple #[.agg #[.int .u8 rf, .int .i64 rn], .int .i64 0]) ∧ Ext w' w'') ∧
        Hid (∀ w', Calls Tryd.prog 21 #[.agg #[.int .u8 f0, .int .i64 n0], .agg #[.int .u8 f1, .int .i64 n1], .agg #[.int .u8 f2, .int .i64 n2]] w' fun e w'' => e = .returned (.agg #[.int .u8 rf, .int .i64 rn]) ∧ Ext w' w'')) ∨ allB [(f0, n0), (f1, n1), (f2, n2)] = false := by
      cases h : allB [(f0, n0), (f1, n1), (f2, n2)] with
      | true =>
        obtain ⟨rf, rn, h1, h2⟩ := cho_ok f0 n0 f1 n1 f2 n2 g0 g1 g2 h
        exact .inl ⟨rf, rn, rfl, h1, h2⟩
      | false => exact .inr rfl
    by_cases hf : FormOk (n : Int) wide
    · obtain ⟨k, q, rfl, hq, k1, k2, q1, q2, n8⟩ := form_nat hf
      cases ha : allB zs with
      | false =>
        have HP := Lib.hid (fun (g c5 : Nat) (W : World) (hl' : Lies W g 0 zs) => pick_arg g 0 n c5 k q f0 n0 zs hz hq k1 k2 q1 q2 n8 g0 W hl' (by rw [ha, Bool.and_false]))
        rcases hch with ⟨rf, rn, h, h1, h2⟩ | h
        · exact walk_bad1 f0 n0 f1 n1 f2 n2 b off n c zs k rf rn g0 g1 g2 w hg hf hz hn0 h40 hl ha HP h1 h2 h
        · exact walk_bad0 f0 n0 f1 n1 f2 n2 b off n c zs k g0 g1 g2 w hg hf hz hn0 h40 hl ha HP (cho_no f0 n0 f1 n1 f2 n2 g0 g1 g2 h) h
      | true =>
        cases hc : cellB f0 n0 with
        | false =>
          have HP := Lib.hid (fun (g c5 : Nat) (W : World) (hl' : Lies W g 0 zs) => pick_arg g 0 n c5 k q f0 n0 zs hz hq k1 k2 q1 q2 n8 g0 W hl' (by rw [hc, Bool.false_and]))
          rcases hch with ⟨rf, rn, h, h1, h2⟩ | h
          · exact walk_is1 f0 n0 f1 n1 f2 n2 b off n c zs k rf rn g0 g1 g2 w hg hf hz hn0 h40 hl ha HP hc h1 h2 h
          · exact walk_is0 f0 n0 f1 n1 f2 n2 b off n c zs k g0 g1 g2 w hg hf hz hn0 h40 hl ha HP hc (cho_no f0 n0 f1 n1 f2 n2 g0 g1 g2 h) h
        | true =>
          obtain ⟨res, hres, HP, HR⟩ := pick_way b off n c k q f0 n0 zs hz hq k1 k2 q1 q2 n8 g0 (nn_of_lies hl) ha hc
          rcases hch with ⟨rf, rn, h, h1, h2⟩ | h
          · exact walk_ok1 f0 n0 f1 n1 f2 n2 b off n c zs k res rf rn g0 g1 g2 w hg hf hz hn0 h40 hl ha HP HR hres hc h1 h2 h
          · exact walk_ok0 f0 n0 f1 n1 f2 n2 b off n c zs k res g0 g1 g2 w hg hf hz hn0 h40 hl ha HP HR hres hc (cho_no f0 n0 f1 n1 f2 n2 g0 g1 g2 h) h
    · rcases hch with ⟨rf, rn, h, h1, h2⟩ | h
      · exact walk_form1 f0 n0 f1 n1 f2 n2 wide b off n c zs rf rn g0 g1 g2 w hg hf hz hn0 h40 hl h1 h2 h
      · exact walk_form0 f0 n0 f1 n1 f2 n2 wide b off n c zs g0 g1 g2 w hg hf hz hn0 h40 hl (cho_no f0 n0 f1 n1 f2 n2 g0 g1 g2 h) h
  · exact walk_long f0 n0 f1 n1 f2 n2 wide _ n c (by omega) w hg
end
end Go.Proofs.YtaddlhebhiehgaaDoor.lawChooses
