/-
  ValueTexts: the walk.
-/
import Derived.Test.YtaddlhebhiehgaaDoorKnown2
import Derived.Test.YtaddlhebhiehgaaDoorRef6
namespace Go.Proofs.YtaddlhebhiehgaaDoor.lawTexts
open Go.RowKit Go.Shelf

theorem nil_bytes (s : ByteArray) : s.data.toList.length = s.size := by simp
theorem parse_snoc : ∀ (l : List UInt8) (c : UInt8) (acc u : Nat), Lib.parseUint10 acc l = .ok u → u ≤ 999999 → 48 ≤ c.toNat → c.toNat ≤ 57 → Lib.parseUint10 acc (l ++ [c]) = .ok (u * 10 + (c.toNat - 48))
  | [], c, acc, u, h, hu, h1, h2 => by
    simp only [Lib.parseUint10] at h
    injection h with h
    subst h
    simp only [List.nil_append, Lib.parseUint10]
    rw [if_pos ⟨h1, h2⟩, if_neg (by omega), if_neg (by omega)]
  | x :: r, c, acc, u, h, hu, h1, h2 => by
    simp only [List.cons_append, Lib.parseUint10] at h ⊢
    split at h
    · next hx =>
      rw [if_pos hx]
      split at h
      · cases h
      · next hy =>
        rw [if_neg hy]
        split at h
        · cases h
        · next hz =>
          rw [if_neg hz]
          exact parse_snoc r c _ u h hu h1 h2
    · cases h
theorem parse_digits (u : Nat) (hu : u ≤ 9999) : Lib.parseUint10 0 (Lib.decDigits u) = .ok u := by
  induction u using Nat.strongRecOn with
  | _ u ih =>
    by_cases h : u < 10
    · rw [Lib.decDigits, dif_pos h]
      have := parse_snoc [] (UInt8.ofNat (48 + u)) 0 0 rfl (by omega) (by rw [digit_nat u h]; omega) (by rw [digit_nat u h]; omega)
      rw [digit_nat u h] at this
      rw [List.nil_append] at this
      rw [this]
      congr 1; omega
    · rw [Lib.decDigits, dif_neg h]
      have := parse_snoc (Lib.decDigits (u / 10)) (UInt8.ofNat (48 + u % 10)) 0 (u / 10) (ih (u / 10) (by omega) (by omega)) (by omega) (by rw [digit_nat _ (by omega)]; omega) (by rw [digit_nat _ (by omega)]; omega)
      rw [this, digit_nat _ (by omega)]
      congr 1; omega
theorem mag_digits (u : Nat) (hu : u ≤ 9999) : Lib.parseMag (Lib.decDigits u) = .ok u := by
  unfold Lib.parseMag
  rw [if_neg, parse_digits u hu]
  intro e
  have := digits_len u hu
  rw [e] at this
  simp at this
theorem digits_cons (u : Nat) : ∃ c r, Lib.decDigits u = c :: r ∧ 48 ≤ c.toNat ∧ c.toNat ≤ 57 := by
  have h := digits_are u
  have hp := Lib.nDigits_pos u
  rw [← Lib.decDigits_length] at hp
  cases e : Lib.decDigits u with
  | nil => rw [e] at hp; simp at hp
  | cons c r =>
    rw [e] at h
    exact ⟨c, r, rfl, h c (List.mem_cons_self)⟩
theorem atoi_itoa (v : Int) (h1 : -9999 ≤ v) (h2 : v ≤ 9999) : Lib.atoiAll (Lib.itoa v) = .ok v := by
  by_cases h : v < 0
  · obtain ⟨u, rfl⟩ : ∃ u : Nat, v = -(u : Int) := ⟨v.natAbs, by omega⟩
    rw [Lib.itoa_neg u (by omega)]
    unfold Lib.atoiAll
    have e : (45 : UInt8).toNat = 45 := by decide
    simp only [e, or_true, if_true]
    rw [mag_digits u (by omega)]
    simp
    omega
  · obtain ⟨u, rfl⟩ : ∃ u : Nat, v = u := ⟨v.toNat, by omega⟩
    rw [Lib.itoa_nonneg]
    have hm := mag_digits u (by omega)
    obtain ⟨c, r, hc, c1, c2⟩ := digits_cons u
    rw [hc] at hm ⊢
    unfold Lib.atoiAll
    simp only
    rw [if_neg (by omega), hm]
    simp only [show ¬ c.toNat = 45 by omega, not_false_eq_true, true_and, false_and, if_false]
    rw [if_neg (by omega)]
theorem atoi_bd (l : List UInt8) (v : Int) (h : Lib.atoiAll l = .ok v) : -9223372036854775808 ≤ v ∧ v ≤ 9223372036854775807 := by
  unfold Lib.atoiAll at h
  cases l with
  | nil => cases h
  | cons c r =>
    simp only at h
    split at h
    · cases h
    · cases h
    · split at h
      · cases h
      · next h3 =>
        split at h
        · cases h
        · next h4 =>
          injection h with h
          split at h <;> (subst h; omega)

/-- How the texts of a value come out. -/
def TextWay (f n : Int) : Prop :=
  (∃ t : List UInt8, Hid (∀ w', Glob w' → Calls Tryd.prog 26 #[.agg #[.int .u8 f, .int .i64 n]] w' fun e w'' => e = .returned (.tuple #[.string ⟨t.toArray⟩, .int .i64 0]) ∧ Ext w' w'') ∧
    Hid (∀ w', Calls Tryd.prog 15 #[.agg #[.int .u8 f, .int .i64 n]] w' fun e w'' => e = .returned (.bool true) ∧ Ext w' w'') ∧
    Hid (∀ w', Calls Tryd.prog 27 #[.agg #[.int .u8 f, .int .i64 n]] w' fun e w'' => e = .returned (.string ⟨t.toArray⟩) ∧ Ext w' w'')) ∨
  (Hid (∀ w', Calls Tryd.prog 26 #[.agg #[.int .u8 f, .int .i64 n]] w' fun e w'' => e = .returned (.tuple #[.string ⟨#[]⟩, .int .i64 2]) ∧ Ext w' w'') ∧
    Hid (∀ w', Calls Tryd.prog 15 #[.agg #[.int .u8 f, .int .i64 n]] w' fun e w'' => e = .returned (.bool false) ∧ Ext w' w''))
theorem textWay (f n : Int) (h0 : 0 ≤ f) : TextWay f n := by
  have HI := fun w' => refIs_any f n h0 w'
  cases hc : cellB f n with
  | false =>
    rw [hc] at HI
    exact .inr ⟨Lib.hid (fun w' => text_err f n h0 hc w'), Lib.hid HI⟩
  | true =>
    rw [hc] at HI
    by_cases hf : f = 0
    · subst hf
      obtain ⟨v1, v2⟩ : -9999 ≤ n ∧ n ≤ 9999 := by simpa [cellB] using hc
      exact .inl ⟨_, Lib.hid (fun w' hg => text_num n v1 v2 w' hg), Lib.hid HI, Lib.hid (fun w' => refText_num n v1 v2 w')⟩
    · obtain ⟨v1, v2⟩ : f ≤ 4 ∧ n = 0 := by simpa [cellB, hf] using hc
      subst v2
      exact .inl ⟨_, Lib.hid (fun w' _ => text_fault f (by omega) v1 w'), Lib.hid HI, Lib.hid (fun w' => refText_fault f 0 (by omega) v1 w')⟩
/-- How a text is read. -/
def ReadWay (s : ByteArray) : Prop :=
  (∃ rf rn : Int, Hid (∀ w', Glob w' → Calls Tryd.prog 28 #[.string s] w' fun e w'' => e = .returned (.tuple #[.agg #[.int .u8 rf, .int .i64 rn], .int .i64 0]) ∧ Ext w' w'') ∧
    Hid (∀ w', Calls Tryd.prog 29 #[.string s] w' fun e w'' => e = .returned (.tuple #[.agg #[.int .u8 rf, .int .i64 rn], .bool true]) ∧ Ext w' w'')) ∨
  (Hid (∀ w', Glob w' → Calls Tryd.prog 28 #[.string s] w' fun e w'' => e = .returned (.tuple #[.agg #[.int .u8 0, .int .i64 0], .int .i64 4]) ∧ Ext w' w'') ∧
    Hid (∀ w', Calls Tryd.prog 29 #[.string s] w' fun e w'' => e = .returned (.tuple #[.agg #[.int .u8 0, .int .i64 0], .bool false]) ∧ Ext w' w''))
theorem noName_or (s : ByteArray) : NoName s ∨ ∃ f : Int, 1 ≤ f ∧ f ≤ 4 ∧ s = ⟨(nameOf f).toArray⟩ := by
  by_cases h1 : s = ⟨(nameOf 1).toArray⟩
  · exact .inr ⟨1, by omega, by omega, h1⟩
  by_cases h2 : s = ⟨(nameOf 2).toArray⟩
  · exact .inr ⟨2, by omega, by omega, h2⟩
  by_cases h3 : s = ⟨(nameOf 3).toArray⟩
  · exact .inr ⟨3, by omega, by omega, h3⟩
  by_cases h4 : s = ⟨(nameOf 4).toArray⟩
  · exact .inr ⟨4, by omega, by omega, h4⟩
  exact .inl ⟨ne_toList h1, ne_toList h2, ne_toList h3, ne_toList h4⟩

theorem byte_get (s : ByteArray) (l : List UInt8) (hl : s.data.toList = l) (k : Nat) (h : k < s.size) : ∃ h', s[k] = l[k]'h' := by
  subst hl
  exact ⟨by simpa using h, rfl⟩
theorem out_none (s D : ByteArray) (sg : Int) (hno : ∀ v : Int, -9999 ≤ v → v ≤ 9999 → ¬ Lib.itoa v = s.data.toList) : ReadIs s D sg none := by
  refine ⟨fun _ _ _ => rfl, fun _ => ⟨_, rfl, ?_⟩⟩
  generalize sg * dec D.data.toList = v
  cases hc : cellB 0 v with
  | false => exact .inr (.inl ⟨rfl, rfl⟩)
  | true =>
    obtain ⟨v1, v2⟩ : -9999 ≤ v ∧ v ≤ 9999 := by simpa [cellB] using hc
    exact .inr (.inr ⟨rfl, hno v v1 v2, rfl⟩)
theorem extract_list (s : ByteArray) : (s.extract 1 s.size).data.toList = s.data.toList.drop 1 := by
  simp [ByteArray.data_extract]
  rw [List.take_of_length_le (by simp)]
set_option maxRecDepth 100000 in
set_option maxHeartbeats 2000000 in
theorem refRead_long (s : ByteArray) (hs : NoName s) (h : s.size = 0 ∨ 5 < s.size) (w : World) :
    Calls Tryd.prog 29 #[.string s] w fun e w' => e = .returned (.tuple #[.agg #[.int .u8 0, .int .i64 0], .bool false]) ∧ Ext w w' := by
  obtain ⟨n1, n2, n3, n4⟩ := hs
  rcases h with h | h
  · have hz' : ((s.size : Int) == 0) = true := beq_iff_eq.2 (by omega)
    go_enter Tryd.func29, Tryd.ntmps29
    go_wp2_with fail
    refine wp_loop_rounds 5 ?_
    repeat any_goals (rw [rounds_succ]; go_wp2_with (first | (go_at_call 50; refine (refFault_any _ _).mono ?_; rintro e w1 ⟨rfl, hb1⟩; obtain ⟨hc1, hf1, hs1⟩ := hb1.cells; have hz1_0 : w.heap.size < w1.heap.size := (by have h := hb1.le; (try simp at h); omega); have hc1_0 := hb1.cell (b := w.heap.size) (by first | omega | (simp; done) | (simp; omega)); have hf1_0 := hb1.frozen (b := w.heap.size) (by first | omega | (simp; done) | (simp; omega))) | (go_at_call 27; (first | (with_reducible refine (refText1 _).mono ?_) | (with_reducible refine (refText2 _).mono ?_) | (with_reducible refine (refText3 _).mono ?_) | (with_reducible refine (refText4 _).mono ?_)); rintro e w2 ⟨rfl, hb2⟩; obtain ⟨hc2, hf2, hs2⟩ := hb2.cells; have hz2_0 : w.heap.size < w2.heap.size := (by have h := hb2.le; (try simp at h); omega); have hc2_0 := hb2.cell (b := w.heap.size) (by first | omega | (simp; done) | (simp; omega)); have hf2_0 := hb2.frozen (b := w.heap.size) (by first | omega | (simp; done) | (simp; omega)))))
    refine bodyPost_ret (v := .tuple #[.agg #[.int .u8 0, .int .i64 0], .bool false]) (by simp [results, Tryd.results29, go_sem, *]) rfl ⟨rfl, (by repeat' (first | (with_reducible exact Ext.refl _) | (with_reducible assumption) | (with_reducible refine Ext.alloc ?_ _) | (with_reducible refine Ext.drew ?_) | (with_reducible refine Ext.drewN ?_ _) | (with_reducible refine Ext.setCell ?_ ?_ _) | (with_reducible refine Ext.trans ?_ (by assumption)) | go_size))⟩
  · have hz' : ((s.size : Int) == 0) = false := beq_eq_false_iff_ne.2 (by omega)
    have h5 : (5 : Int) < (s.size : Int) := by omega
    go_enter Tryd.func29, Tryd.ntmps29
    go_wp2_with fail
    refine wp_loop_rounds 5 ?_
    repeat any_goals (rw [rounds_succ]; go_wp2_with (first | (go_at_call 50; refine (refFault_any _ _).mono ?_; rintro e w1 ⟨rfl, hb1⟩; obtain ⟨hc1, hf1, hs1⟩ := hb1.cells; have hz1_0 : w.heap.size < w1.heap.size := (by have h := hb1.le; (try simp at h); omega); have hc1_0 := hb1.cell (b := w.heap.size) (by first | omega | (simp; done) | (simp; omega)); have hf1_0 := hb1.frozen (b := w.heap.size) (by first | omega | (simp; done) | (simp; omega))) | (go_at_call 27; (first | (with_reducible refine (refText1 _).mono ?_) | (with_reducible refine (refText2 _).mono ?_) | (with_reducible refine (refText3 _).mono ?_) | (with_reducible refine (refText4 _).mono ?_)); rintro e w2 ⟨rfl, hb2⟩; obtain ⟨hc2, hf2, hs2⟩ := hb2.cells; have hz2_0 : w.heap.size < w2.heap.size := (by have h := hb2.le; (try simp at h); omega); have hc2_0 := hb2.cell (b := w.heap.size) (by first | omega | (simp; done) | (simp; omega)); have hf2_0 := hb2.frozen (b := w.heap.size) (by first | omega | (simp; done) | (simp; omega)))))
    refine bodyPost_ret (v := .tuple #[.agg #[.int .u8 0, .int .i64 0], .bool false]) (by simp [results, Tryd.results29, go_sem, *]) rfl ⟨rfl, (by repeat' (first | (with_reducible exact Ext.refl _) | (with_reducible assumption) | (with_reducible refine Ext.alloc ?_ _) | (with_reducible refine Ext.drew ?_) | (with_reducible refine Ext.drewN ?_ _) | (with_reducible refine Ext.setCell ?_ ?_ _) | (with_reducible refine Ext.trans ?_ (by assumption)) | go_size))⟩
theorem readWay (s : ByteArray) (h20 : s.size ≤ 20) : ReadWay s := by
  rcases noName_or s with hs | ⟨f, f1, f2, rfl⟩
  · by_cases hv : ∃ v : Int, -9999 ≤ v ∧ v ≤ 9999 ∧ Lib.itoa v = s.data.toList
    · obtain ⟨v, v1, v2, hv⟩ := hv
      refine .inl ⟨0, v, Lib.hid (fun w' hg => read_num s (by omega) hs v (by rw [← hv]; exact atoi_itoa v v1 v2) v1 v2 hv w' hg), Lib.hid (fun w' => ?_)⟩
      have hcell : cellB 0 v = true := cellB_num v v1 v2
      have hlen := congrArg List.length hv
      rw [nil_bytes] at hlen
      by_cases h : v < 0
      · obtain ⟨u, rfl⟩ : ∃ u : Nat, v = -(u : Int) := ⟨v.natAbs, by omega⟩
        have hv' := hv
        rw [Lib.itoa_neg u (by omega)] at hv' hlen
        have hl := digits_len u (by omega)
        rw [List.length_cons] at hlen
        have hx : (s.extract 1 s.size).data.toList = Lib.decDigits u := by rw [extract_list, ← hv']; rfl
        have hx5 := congrArg List.length hx
        rw [nil_bytes] at hx5
        have h := refRead_minus s hs (by omega) (by omega) (by
          obtain ⟨h', e⟩ := byte_get s _ hv'.symm 0 (by omega)
          rw [e]; rfl) (s.extract 1 s.size) rfl (by omega) (some (-(u : Int))) ⟨fun k hk hd => by
            exfalso
            obtain ⟨h', e⟩ := byte_get _ _ hx k hk
            rw [e] at hd
            exact hd (digits_are u _ (List.getElem_mem h')), fun _ => ⟨_, rfl, .inl (by rw [hx, dec_digits, Int.neg_one_mul]; exact ⟨hcell, hv, rfl⟩)⟩⟩ w'
        exact h
      · obtain ⟨u, rfl⟩ : ∃ u : Nat, v = u := ⟨v.toNat, by omega⟩
        have hv' := hv
        rw [Lib.itoa_nonneg] at hv' hlen
        have hl := digits_len u (by omega)
        have h := refRead_plain s hs (by omega) (by omega) (by
          obtain ⟨h', e⟩ := byte_get s _ hv'.symm 0 (by omega)
          rw [e]
          have := digits_are u _ (List.getElem_mem h')
          omega) (some (u : Int)) ⟨fun k hk hd => by
            exfalso
            obtain ⟨h', e⟩ := byte_get _ _ hv'.symm k hk
            rw [e] at hd
            exact hd (digits_are u _ (List.getElem_mem h')), fun _ => ⟨_, rfl, .inl (by rw [← hv', dec_digits, Int.one_mul]; exact ⟨hcell, hv.trans hv'.symm |>.trans rfl, rfl⟩)⟩⟩ w'
        exact h
    · have hno : ∀ v : Int, -9999 ≤ v → v ≤ 9999 → ¬ Lib.itoa v = s.data.toList := fun v h1 h2 h3 => hv ⟨v, h1, h2, h3⟩
      clear hv
      refine .inr ⟨Lib.hid (fun w' hg => ?_), Lib.hid (fun w' => ?_)⟩
      · by_cases ha : ∃ v, Lib.atoiAll s.data.toList = .ok v
        · obtain ⟨v, ha⟩ := ha
          obtain ⟨b1, b2⟩ := atoi_bd _ _ ha
          refine read_other s (by omega) hs v ha b1 b2 ?_ w' hg
          cases hc : cellB 0 v with
          | false => exact .inr rfl
          | true =>
            obtain ⟨v1, v2⟩ : -9999 ≤ v ∧ v ≤ 9999 := by simpa [cellB] using hc
            exact .inl (hno v v1 v2)
        · exact read_no s (by omega) hs (fun v h => ha ⟨v, h⟩) w' hg
      · by_cases hz : s.size = 0 ∨ 5 < s.size
        · exact refRead_long s hs hz w'
        · by_cases hm : (s[0]'(by omega)).toNat = 45
          · exact refRead_minus s hs (by omega) (by omega) hm (s.extract 1 s.size) rfl (by have := congrArg List.length (extract_list s); rw [nil_bytes, List.length_drop, nil_bytes] at this; omega) none (out_none s _ _ hno) w'
          · exact refRead_plain s hs (by omega) (by omega) hm none (out_none s _ _ hno) w'
  · exact .inl ⟨f, 0, Lib.hid (fun w' _ => read_name f f1 f2 w'), Lib.hid (fun w' => refRead_name f f1 f2 w')⟩

set_option maxRecDepth 100000 in
set_option maxHeartbeats 4000000 in
theorem walkAt (f n : Int) (s : ByteArray) (h0 : 0 ≤ f) (hsz : s.size ≤ 9223372036854775807) (w : World) (hg : Glob w) :
    Calls Tryd.prog 5 #[.agg #[.int .u8 f, .int .i64 n], .string s] w fun e w' => e = .returned (.bool true) ∧ Ext w w' := by
  by_cases h20 : s.size ≤ 20
  · have h20' : ¬ (20 : Int) < (s.size : Int) := by omega
    rcases textWay f n h0 with ⟨t, HT, HI, HX⟩ | ⟨HT, HI⟩
    · rcases readWay s h20 with ⟨rf, rn, HR, HS⟩ | ⟨HR, HS⟩
      · go_enter Tryd.func5, Tryd.ntmps5
        go_wp2_with (first | (go_at_call 26; refine (HT.out _ (hg.ext (by repeat' (first | (with_reducible exact Ext.refl _) | (with_reducible assumption) | (with_reducible refine Ext.alloc ?_ _) | (with_reducible refine Ext.drew ?_) | (with_reducible refine Ext.drewN ?_ _) | (with_reducible refine Ext.setCell ?_ ?_ _) | (with_reducible refine Ext.trans ?_ (by assumption)) | go_size)))).mono ?_; rintro e w1 ⟨rfl, hb1⟩; obtain ⟨hc1, hf1, hs1⟩ := hb1.cells; have hz1_0 : w.heap.size < w1.heap.size := (by have h := hb1.le; (try simp at h); omega); have hc1_0 := hb1.cell (b := w.heap.size) (by first | omega | (simp; done) | (simp; omega)); have hf1_0 := hb1.frozen (b := w.heap.size) (by first | omega | (simp; done) | (simp; omega))) | (go_at_call 15; refine (HI.out _).mono ?_; rintro e w2 ⟨rfl, hb2⟩; obtain ⟨hc2, hf2, hs2⟩ := hb2.cells; have hz2_0 : w.heap.size < w2.heap.size := (by have h := hb2.le; (try simp at h); omega); have hc2_0 := hb2.cell (b := w.heap.size) (by first | omega | (simp; done) | (simp; omega)); have hf2_0 := hb2.frozen (b := w.heap.size) (by first | omega | (simp; done) | (simp; omega))) | (go_at_call 27; refine (HX.out _).mono ?_; rintro e w3 ⟨rfl, hb3⟩; obtain ⟨hc3, hf3, hs3⟩ := hb3.cells; have hz3_0 : w.heap.size < w3.heap.size := (by have h := hb3.le; (try simp at h); omega); have hc3_0 := hb3.cell (b := w.heap.size) (by first | omega | (simp; done) | (simp; omega)); have hf3_0 := hb3.frozen (b := w.heap.size) (by first | omega | (simp; done) | (simp; omega))) | (go_at_call 28; refine (HR.out _ (hg.ext (by repeat' (first | (with_reducible exact Ext.refl _) | (with_reducible assumption) | (with_reducible refine Ext.alloc ?_ _) | (with_reducible refine Ext.drew ?_) | (with_reducible refine Ext.drewN ?_ _) | (with_reducible refine Ext.setCell ?_ ?_ _) | (with_reducible refine Ext.trans ?_ (by assumption)) | go_size)))).mono ?_; rintro e w4 ⟨rfl, hb4⟩; obtain ⟨hc4, hf4, hs4⟩ := hb4.cells; have hz4_0 : w.heap.size < w4.heap.size := (by have h := hb4.le; (try simp at h); omega); have hc4_0 := hb4.cell (b := w.heap.size) (by first | omega | (simp; done) | (simp; omega)); have hf4_0 := hb4.frozen (b := w.heap.size) (by first | omega | (simp; done) | (simp; omega))) | (go_at_call 29; refine (HS.out _).mono ?_; rintro e x5 ⟨rfl, y5⟩; (try (have hz5_0 : w.heap.size < x5.heap.size := (by have h := y5.le; (try simp at h); omega); have hc5_0 := y5.cell (b := w.heap.size) (by first | omega | (simp; done) | (simp; omega)); have hf5_0 := y5.frozen (b := w.heap.size) (by first | omega | (simp; done) | (simp; omega)))); (try (have hz5_1 : w4.heap.size < x5.heap.size := (by have h := y5.le; (try simp at h); omega); have hc5_1 := y5.cell (b := w4.heap.size) (by first | omega | (simp; done) | (simp; omega)); have hf5_1 := y5.frozen (b := w4.heap.size) (by first | omega | (simp; done) | (simp; omega))))) | (go_at_call 17; refine (known_any _ (hg.ext (by repeat' (first | (with_reducible exact Ext.refl _) | (with_reducible assumption) | (with_reducible refine Ext.alloc ?_ _) | (with_reducible refine Ext.drew ?_) | (with_reducible refine Ext.drewN ?_ _) | (with_reducible refine Ext.setCell ?_ ?_ _) | (with_reducible refine Ext.trans ?_ (by assumption)) | go_size)))).mono ?_; rintro e x6 ⟨rfl, y6⟩))
        go_returns
        exact ⟨rfl, (by repeat' (first | (with_reducible exact Ext.refl _) | (with_reducible assumption) | (with_reducible refine Ext.alloc ?_ _) | (with_reducible refine Ext.drew ?_) | (with_reducible refine Ext.drewN ?_ _) | (with_reducible refine Ext.setCell ?_ ?_ _) | (with_reducible refine Ext.trans ?_ (by assumption)) | go_size))⟩
      · go_enter Tryd.func5, Tryd.ntmps5
        go_wp2_with (first | (go_at_call 26; refine (HT.out _ (hg.ext (by repeat' (first | (with_reducible exact Ext.refl _) | (with_reducible assumption) | (with_reducible refine Ext.alloc ?_ _) | (with_reducible refine Ext.drew ?_) | (with_reducible refine Ext.drewN ?_ _) | (with_reducible refine Ext.setCell ?_ ?_ _) | (with_reducible refine Ext.trans ?_ (by assumption)) | go_size)))).mono ?_; rintro e w1 ⟨rfl, hb1⟩; obtain ⟨hc1, hf1, hs1⟩ := hb1.cells; have hz1_0 : w.heap.size < w1.heap.size := (by have h := hb1.le; (try simp at h); omega); have hc1_0 := hb1.cell (b := w.heap.size) (by first | omega | (simp; done) | (simp; omega)); have hf1_0 := hb1.frozen (b := w.heap.size) (by first | omega | (simp; done) | (simp; omega))) | (go_at_call 15; refine (HI.out _).mono ?_; rintro e w2 ⟨rfl, hb2⟩; obtain ⟨hc2, hf2, hs2⟩ := hb2.cells; have hz2_0 : w.heap.size < w2.heap.size := (by have h := hb2.le; (try simp at h); omega); have hc2_0 := hb2.cell (b := w.heap.size) (by first | omega | (simp; done) | (simp; omega)); have hf2_0 := hb2.frozen (b := w.heap.size) (by first | omega | (simp; done) | (simp; omega))) | (go_at_call 27; refine (HX.out _).mono ?_; rintro e w3 ⟨rfl, hb3⟩; obtain ⟨hc3, hf3, hs3⟩ := hb3.cells; have hz3_0 : w.heap.size < w3.heap.size := (by have h := hb3.le; (try simp at h); omega); have hc3_0 := hb3.cell (b := w.heap.size) (by first | omega | (simp; done) | (simp; omega)); have hf3_0 := hb3.frozen (b := w.heap.size) (by first | omega | (simp; done) | (simp; omega))) | (go_at_call 28; refine (HR.out _ (hg.ext (by repeat' (first | (with_reducible exact Ext.refl _) | (with_reducible assumption) | (with_reducible refine Ext.alloc ?_ _) | (with_reducible refine Ext.drew ?_) | (with_reducible refine Ext.drewN ?_ _) | (with_reducible refine Ext.setCell ?_ ?_ _) | (with_reducible refine Ext.trans ?_ (by assumption)) | go_size)))).mono ?_; rintro e w4 ⟨rfl, hb4⟩; obtain ⟨hc4, hf4, hs4⟩ := hb4.cells; have hz4_0 : w.heap.size < w4.heap.size := (by have h := hb4.le; (try simp at h); omega); have hc4_0 := hb4.cell (b := w.heap.size) (by first | omega | (simp; done) | (simp; omega)); have hf4_0 := hb4.frozen (b := w.heap.size) (by first | omega | (simp; done) | (simp; omega))) | (go_at_call 29; refine (HS.out _).mono ?_; rintro e x5 ⟨rfl, y5⟩; (try (have hz5_0 : w.heap.size < x5.heap.size := (by have h := y5.le; (try simp at h); omega); have hc5_0 := y5.cell (b := w.heap.size) (by first | omega | (simp; done) | (simp; omega)); have hf5_0 := y5.frozen (b := w.heap.size) (by first | omega | (simp; done) | (simp; omega)))); (try (have hz5_1 : w4.heap.size < x5.heap.size := (by have h := y5.le; (try simp at h); omega); have hc5_1 := y5.cell (b := w4.heap.size) (by first | omega | (simp; done) | (simp; omega)); have hf5_1 := y5.frozen (b := w4.heap.size) (by first | omega | (simp; done) | (simp; omega))))))
        have KS := Lib.hid (fun (W : World) (h : Ext (w4.alloc (.cells #[.int .u8 0, .int .i64 0] 23)) W) => cells_one h)
        have hfin := Lib.hid (show Ext w x5 from (by repeat' (first | (with_reducible exact Ext.refl _) | (with_reducible assumption) | (with_reducible refine Ext.alloc ?_ _) | (with_reducible refine Ext.drew ?_) | (with_reducible refine Ext.drewN ?_ _) | (with_reducible refine Ext.setCell ?_ ?_ _) | (with_reducible refine Ext.trans ?_ (by assumption)) | go_size)))
        go_region_held3 (fun W => W.cell? ⟨w4.heap.size, 0, none⟩ = some (.int .u8 0) ∧ W.cell? ⟨w4.heap.size, 1, none⟩ = some (.int .i64 0)) (first | exact KS.out _ (by repeat' (first | (with_reducible exact Ext.refl _) | (with_reducible assumption) | (with_reducible refine Ext.alloc ?_ _) | (with_reducible refine Ext.drew ?_) | (with_reducible refine Ext.drewN ?_ _) | (with_reducible refine Ext.setCell ?_ ?_ _) | (with_reducible refine Ext.trans ?_ (by assumption)) | go_size))) (first | (go_at_call 16; refine (num_any _ _).mono ?_; rintro e x7 ⟨rfl, y7⟩) | (go_at_call 17; refine (known_any _ (hg.ext (hfin.out.trans (by repeat' (first | (with_reducible exact Ext.refl _) | (with_reducible assumption) | (with_reducible refine Ext.alloc ?_ _) | (with_reducible refine Ext.drew ?_) | (with_reducible refine Ext.drewN ?_ _) | (with_reducible refine Ext.setCell ?_ ?_ _) | (with_reducible refine Ext.trans ?_ (by assumption)) | go_size))))).mono ?_; rintro e x8 ⟨rfl, y8⟩))
        go_wp2
        go_returns
        exact ⟨rfl, Ext.trans hfin.out (by repeat' (first | (with_reducible exact Ext.refl _) | (with_reducible assumption) | (with_reducible refine Ext.alloc ?_ _) | (with_reducible refine Ext.drew ?_) | (with_reducible refine Ext.drewN ?_ _) | (with_reducible refine Ext.setCell ?_ ?_ _) | (with_reducible refine Ext.trans ?_ (by assumption)) | go_size))⟩
    · rcases readWay s h20 with ⟨rf, rn, HR, HS⟩ | ⟨HR, HS⟩
      · go_enter Tryd.func5, Tryd.ntmps5
        go_wp2_with (first | (go_at_call 26; refine (HT.out _).mono ?_; rintro e w1 ⟨rfl, hb1⟩; obtain ⟨hc1, hf1, hs1⟩ := hb1.cells; have hz1_0 : w.heap.size < w1.heap.size := (by have h := hb1.le; (try simp at h); omega); have hc1_0 := hb1.cell (b := w.heap.size) (by first | omega | (simp; done) | (simp; omega)); have hf1_0 := hb1.frozen (b := w.heap.size) (by first | omega | (simp; done) | (simp; omega))) | (go_at_call 15; refine (HI.out _).mono ?_; rintro e w2 ⟨rfl, hb2⟩; obtain ⟨hc2, hf2, hs2⟩ := hb2.cells; have hz2_0 : w.heap.size < w2.heap.size := (by have h := hb2.le; (try simp at h); omega); have hc2_0 := hb2.cell (b := w.heap.size) (by first | omega | (simp; done) | (simp; omega)); have hf2_0 := hb2.frozen (b := w.heap.size) (by first | omega | (simp; done) | (simp; omega))) | (go_at_call 28; refine (HR.out _ (hg.ext (by repeat' (first | (with_reducible exact Ext.refl _) | (with_reducible assumption) | (with_reducible refine Ext.alloc ?_ _) | (with_reducible refine Ext.drew ?_) | (with_reducible refine Ext.drewN ?_ _) | (with_reducible refine Ext.setCell ?_ ?_ _) | (with_reducible refine Ext.trans ?_ (by assumption)) | go_size)))).mono ?_; rintro e w4 ⟨rfl, hb4⟩; obtain ⟨hc4, hf4, hs4⟩ := hb4.cells; have hz4_0 : w.heap.size < w4.heap.size := (by have h := hb4.le; (try simp at h); omega); have hc4_0 := hb4.cell (b := w.heap.size) (by first | omega | (simp; done) | (simp; omega)); have hf4_0 := hb4.frozen (b := w.heap.size) (by first | omega | (simp; done) | (simp; omega))) | (go_at_call 29; refine (HS.out _).mono ?_; rintro e x5 ⟨rfl, y5⟩; (try (have hz5_0 : w.heap.size < x5.heap.size := (by have h := y5.le; (try simp at h); omega); have hc5_0 := y5.cell (b := w.heap.size) (by first | omega | (simp; done) | (simp; omega)); have hf5_0 := y5.frozen (b := w.heap.size) (by first | omega | (simp; done) | (simp; omega)))); (try (have hz5_1 : w4.heap.size < x5.heap.size := (by have h := y5.le; (try simp at h); omega); have hc5_1 := y5.cell (b := w4.heap.size) (by first | omega | (simp; done) | (simp; omega)); have hf5_1 := y5.frozen (b := w4.heap.size) (by first | omega | (simp; done) | (simp; omega))))) | (go_at_call 17; refine (known_any _ (hg.ext (by repeat' (first | (with_reducible exact Ext.refl _) | (with_reducible assumption) | (with_reducible refine Ext.alloc ?_ _) | (with_reducible refine Ext.drew ?_) | (with_reducible refine Ext.drewN ?_ _) | (with_reducible refine Ext.setCell ?_ ?_ _) | (with_reducible refine Ext.trans ?_ (by assumption)) | go_size)))).mono ?_; rintro e x6 ⟨rfl, y6⟩))
        go_returns
        exact ⟨rfl, (by repeat' (first | (with_reducible exact Ext.refl _) | (with_reducible assumption) | (with_reducible refine Ext.alloc ?_ _) | (with_reducible refine Ext.drew ?_) | (with_reducible refine Ext.drewN ?_ _) | (with_reducible refine Ext.setCell ?_ ?_ _) | (with_reducible refine Ext.trans ?_ (by assumption)) | go_size))⟩
      · go_enter Tryd.func5, Tryd.ntmps5
        go_wp2_with (first | (go_at_call 26; refine (HT.out _).mono ?_; rintro e w1 ⟨rfl, hb1⟩; obtain ⟨hc1, hf1, hs1⟩ := hb1.cells; have hz1_0 : w.heap.size < w1.heap.size := (by have h := hb1.le; (try simp at h); omega); have hc1_0 := hb1.cell (b := w.heap.size) (by first | omega | (simp; done) | (simp; omega)); have hf1_0 := hb1.frozen (b := w.heap.size) (by first | omega | (simp; done) | (simp; omega))) | (go_at_call 15; refine (HI.out _).mono ?_; rintro e w2 ⟨rfl, hb2⟩; obtain ⟨hc2, hf2, hs2⟩ := hb2.cells; have hz2_0 : w.heap.size < w2.heap.size := (by have h := hb2.le; (try simp at h); omega); have hc2_0 := hb2.cell (b := w.heap.size) (by first | omega | (simp; done) | (simp; omega)); have hf2_0 := hb2.frozen (b := w.heap.size) (by first | omega | (simp; done) | (simp; omega))) | (go_at_call 28; refine (HR.out _ (hg.ext (by repeat' (first | (with_reducible exact Ext.refl _) | (with_reducible assumption) | (with_reducible refine Ext.alloc ?_ _) | (with_reducible refine Ext.drew ?_) | (with_reducible refine Ext.drewN ?_ _) | (with_reducible refine Ext.setCell ?_ ?_ _) | (with_reducible refine Ext.trans ?_ (by assumption)) | go_size)))).mono ?_; rintro e w4 ⟨rfl, hb4⟩; obtain ⟨hc4, hf4, hs4⟩ := hb4.cells; have hz4_0 : w.heap.size < w4.heap.size := (by have h := hb4.le; (try simp at h); omega); have hc4_0 := hb4.cell (b := w.heap.size) (by first | omega | (simp; done) | (simp; omega)); have hf4_0 := hb4.frozen (b := w.heap.size) (by first | omega | (simp; done) | (simp; omega))) | (go_at_call 29; refine (HS.out _).mono ?_; rintro e x5 ⟨rfl, y5⟩; (try (have hz5_0 : w.heap.size < x5.heap.size := (by have h := y5.le; (try simp at h); omega); have hc5_0 := y5.cell (b := w.heap.size) (by first | omega | (simp; done) | (simp; omega)); have hf5_0 := y5.frozen (b := w.heap.size) (by first | omega | (simp; done) | (simp; omega)))); (try (have hz5_1 : w4.heap.size < x5.heap.size := (by have h := y5.le; (try simp at h); omega); have hc5_1 := y5.cell (b := w4.heap.size) (by first | omega | (simp; done) | (simp; omega)); have hf5_1 := y5.frozen (b := w4.heap.size) (by first | omega | (simp; done) | (simp; omega))))))
        have KS := Lib.hid (fun (W : World) (h : Ext (w4.alloc (.cells #[.int .u8 0, .int .i64 0] 23)) W) => cells_one h)
        have hfin := Lib.hid (show Ext w x5 from (by repeat' (first | (with_reducible exact Ext.refl _) | (with_reducible assumption) | (with_reducible refine Ext.alloc ?_ _) | (with_reducible refine Ext.drew ?_) | (with_reducible refine Ext.drewN ?_ _) | (with_reducible refine Ext.setCell ?_ ?_ _) | (with_reducible refine Ext.trans ?_ (by assumption)) | go_size)))
        go_region_held3 (fun W => W.cell? ⟨w4.heap.size, 0, none⟩ = some (.int .u8 0) ∧ W.cell? ⟨w4.heap.size, 1, none⟩ = some (.int .i64 0)) (first | exact KS.out _ (by repeat' (first | (with_reducible exact Ext.refl _) | (with_reducible assumption) | (with_reducible refine Ext.alloc ?_ _) | (with_reducible refine Ext.drew ?_) | (with_reducible refine Ext.drewN ?_ _) | (with_reducible refine Ext.setCell ?_ ?_ _) | (with_reducible refine Ext.trans ?_ (by assumption)) | go_size))) (first | (go_at_call 16; refine (num_any _ _).mono ?_; rintro e x7 ⟨rfl, y7⟩) | (go_at_call 17; refine (known_any _ (hg.ext (hfin.out.trans (by repeat' (first | (with_reducible exact Ext.refl _) | (with_reducible assumption) | (with_reducible refine Ext.alloc ?_ _) | (with_reducible refine Ext.drew ?_) | (with_reducible refine Ext.drewN ?_ _) | (with_reducible refine Ext.setCell ?_ ?_ _) | (with_reducible refine Ext.trans ?_ (by assumption)) | go_size))))).mono ?_; rintro e x8 ⟨rfl, y8⟩))
        go_wp2
        go_returns
        exact ⟨rfl, Ext.trans hfin.out (by repeat' (first | (with_reducible exact Ext.refl _) | (with_reducible assumption) | (with_reducible refine Ext.alloc ?_ _) | (with_reducible refine Ext.drew ?_) | (with_reducible refine Ext.drewN ?_ _) | (with_reducible refine Ext.setCell ?_ ?_ _) | (with_reducible refine Ext.trans ?_ (by assumption)) | go_size))⟩
  · have h20' : (20 : Int) < (s.size : Int) := by omega
    go_enter Tryd.func5, Tryd.ntmps5
    go_wp2_with (go_at_call 17; refine (known_any _ (hg.ext (by repeat' (first | (with_reducible exact Ext.refl _) | (with_reducible assumption) | (with_reducible refine Ext.alloc ?_ _) | (with_reducible refine Ext.drew ?_) | (with_reducible refine Ext.drewN ?_ _) | (with_reducible refine Ext.setCell ?_ ?_ _) | (with_reducible refine Ext.trans ?_ (by assumption)) | go_size)))).mono ?_; rintro e x6 ⟨rfl, y6⟩)
    go_returns
    exact ⟨rfl, (by repeat' (first | (with_reducible exact Ext.refl _) | (with_reducible assumption) | (with_reducible refine Ext.alloc ?_ _) | (with_reducible refine Ext.drew ?_) | (with_reducible refine Ext.drewN ?_ _) | (with_reducible refine Ext.setCell ?_ ?_ _) | (with_reducible refine Ext.trans ?_ (by assumption)) | go_size))⟩
end Go.Proofs.YtaddlhebhiehgaaDoor.lawTexts
