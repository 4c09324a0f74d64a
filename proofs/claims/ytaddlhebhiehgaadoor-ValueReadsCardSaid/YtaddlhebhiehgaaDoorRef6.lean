/-
  The walks of the reference's Text and Read.
-/
import Derived.Test.YtaddlhebhiehgaaDoorRef4
import Derived.Test.YtaddlhebhiehgaaDoorRef1
import Derived.Test.YtaddlhebhiehgaaDoorRefDig
namespace Go.Proofs.YtaddlhebhiehgaaDoor
open Go.RowKit Go.Shelf

theorem refText_fault (f n : Int) (h1 : 1 ≤ f) (h2 : f ≤ 4) (w : World) : Calls Tryd.prog 27 #[.agg #[.int .u8 f, .int .i64 n]] w fun e w' => e = .returned (.string ⟨(nameOf f).toArray⟩) ∧ Ext w w' := by
  have hf : f = 1 ∨ f = 2 ∨ f = 3 ∨ f = 4 := by omega
  clear h1 h2
  rcases hf with rfl | rfl | rfl | rfl
  all_goals
    go_enter Tryd.func27, Tryd.ntmps27
    go_wp2
    go_returns
    exact ⟨rfl, (by repeat' (first | (with_reducible exact Ext.refl _) | (with_reducible assumption) | (with_reducible refine Ext.alloc ?_ _) | (with_reducible refine Ext.drew ?_) | (with_reducible refine Ext.drewN ?_ _) | (with_reducible refine Ext.setCell ?_ ?_ _) | (with_reducible refine Ext.trans ?_ (by assumption)) | go_size))⟩
theorem refText_num (n : Int) (h1 : -9999 ≤ n) (h2 : n ≤ 9999) (w : World) : Calls Tryd.prog 27 #[.agg #[.int .u8 0, .int .i64 n]] w fun e w' => e = .returned (.string ⟨(Lib.itoa n).toArray⟩) ∧ Ext w w' := by
  have H := Lib.hid (fun w' => digits_any n h1 h2 w')
  clear h1 h2
  generalize Lib.itoa n = l at H ⊢
  go_enter Tryd.func27, Tryd.ntmps27
  go_wp2_with (first | (go_at_call 59; refine (H.out _).mono ?_; rintro e w1 ⟨rfl, hb1⟩; obtain ⟨hc1, hf1, hs1⟩ := hb1.cells; have hz1_0 : w.heap.size < w1.heap.size := (by have h := hb1.le; (try simp at h); omega); have hc1_0 := hb1.cell (b := w.heap.size) (by first | omega | (simp; done) | (simp; omega)); have hf1_0 := hb1.frozen (b := w.heap.size) (by first | omega | (simp; done) | (simp; omega))))
  go_returns
  exact ⟨rfl, (by repeat' (first | (with_reducible exact Ext.refl _) | (with_reducible assumption) | (with_reducible refine Ext.alloc ?_ _) | (with_reducible refine Ext.drew ?_) | (with_reducible refine Ext.drewN ?_ _) | (with_reducible refine Ext.setCell ?_ ?_ _) | (with_reducible refine Ext.trans ?_ (by assumption)) | go_size))⟩
theorem refText1 (w : World) : Calls Tryd.prog 27 #[.agg #[.int .u8 1, .int .i64 0]] w fun e w' => e = .returned (.string ⟨#[100, 105, 118]⟩) ∧ Ext w w' := refText_fault 1 0 (by omega) (by omega) w
theorem refText2 (w : World) : Calls Tryd.prog 27 #[.agg #[.int .u8 2, .int .i64 0]] w fun e w' => e = .returned (.string ⟨#[98, 105, 103]⟩) ∧ Ext w w' := refText_fault 2 0 (by omega) (by omega) w
theorem refText3 (w : World) : Calls Tryd.prog 27 #[.agg #[.int .u8 3, .int .i64 0]] w fun e w' => e = .returned (.string ⟨#[105, 110, 100, 101, 120]⟩) ∧ Ext w w' := refText_fault 3 0 (by omega) (by omega) w
theorem refText4 (w : World) : Calls Tryd.prog 27 #[.agg #[.int .u8 4, .int .i64 0]] w fun e w' => e = .returned (.string ⟨#[100, 101, 112, 116, 104]⟩) ∧ Ext w w' := refText_fault 4 0 (by omega) (by omega) w

set_option maxRecDepth 100000 in
set_option maxHeartbeats 2000000 in
theorem refRead_name (f : Int) (h1 : 1 ≤ f) (h2 : f ≤ 4) (w : World) : Calls Tryd.prog 29 #[.string ⟨(nameOf f).toArray⟩] w fun e w' => e = .returned (.tuple #[.agg #[.int .u8 f, .int .i64 0], .bool true]) ∧ Ext w w' := by
  have hf : f = 1 ∨ f = 2 ∨ f = 3 ∨ f = 4 := by omega
  clear h1 h2
  rcases hf with rfl | rfl | rfl | rfl
  all_goals
    simp only [nameOf]
    go_enter Tryd.func29, Tryd.ntmps29
    go_wp2_with fail
    refine wp_loop_rounds 5 ?_
    repeat any_goals (rw [rounds_succ]; go_wp2_with (first | (go_at_call 50; refine (refFault_any _ _).mono ?_; rintro e w1 ⟨rfl, hb1⟩; obtain ⟨hc1, hf1, hs1⟩ := hb1.cells; have hz1_0 : w.heap.size < w1.heap.size := (by have h := hb1.le; (try simp at h); omega); have hc1_0 := hb1.cell (b := w.heap.size) (by first | omega | (simp; done) | (simp; omega)); have hf1_0 := hb1.frozen (b := w.heap.size) (by first | omega | (simp; done) | (simp; omega))) | (go_at_call 27; (first | (with_reducible refine (refText1 _).mono ?_) | (with_reducible refine (refText2 _).mono ?_) | (with_reducible refine (refText3 _).mono ?_) | (with_reducible refine (refText4 _).mono ?_)); rintro e w2 ⟨rfl, hb2⟩; obtain ⟨hc2, hf2, hs2⟩ := hb2.cells; have hz2_0 : w.heap.size < w2.heap.size := (by have h := hb2.le; (try simp at h); omega); have hc2_0 := hb2.cell (b := w.heap.size) (by first | omega | (simp; done) | (simp; omega)); have hf2_0 := hb2.frozen (b := w.heap.size) (by first | omega | (simp; done) | (simp; omega)))))
  · refine bodyPost_ret (v := .tuple #[.agg #[.int .u8 1, .int .i64 0], .bool true]) (by simp [results, Tryd.results29, go_sem, *]) rfl ⟨rfl, (by repeat' (first | (with_reducible exact Ext.refl _) | (with_reducible assumption) | (with_reducible refine Ext.alloc ?_ _) | (with_reducible refine Ext.drew ?_) | (with_reducible refine Ext.drewN ?_ _) | (with_reducible refine Ext.setCell ?_ ?_ _) | (with_reducible refine Ext.trans ?_ (by assumption)) | go_size))⟩
  · refine bodyPost_ret (v := .tuple #[.agg #[.int .u8 2, .int .i64 0], .bool true]) (by simp [results, Tryd.results29, go_sem, *]) rfl ⟨rfl, (by repeat' (first | (with_reducible exact Ext.refl _) | (with_reducible assumption) | (with_reducible refine Ext.alloc ?_ _) | (with_reducible refine Ext.drew ?_) | (with_reducible refine Ext.drewN ?_ _) | (with_reducible refine Ext.setCell ?_ ?_ _) | (with_reducible refine Ext.trans ?_ (by assumption)) | go_size))⟩
  · refine bodyPost_ret (v := .tuple #[.agg #[.int .u8 3, .int .i64 0], .bool true]) (by simp [results, Tryd.results29, go_sem, *]) rfl ⟨rfl, (by repeat' (first | (with_reducible exact Ext.refl _) | (with_reducible assumption) | (with_reducible refine Ext.alloc ?_ _) | (with_reducible refine Ext.drew ?_) | (with_reducible refine Ext.drewN ?_ _) | (with_reducible refine Ext.setCell ?_ ?_ _) | (with_reducible refine Ext.trans ?_ (by assumption)) | go_size))⟩
  · refine bodyPost_ret (v := .tuple #[.agg #[.int .u8 4, .int .i64 0], .bool true]) (by simp [results, Tryd.results29, go_sem, *]) rfl ⟨rfl, (by repeat' (first | (with_reducible exact Ext.refl _) | (with_reducible assumption) | (with_reducible refine Ext.alloc ?_ _) | (with_reducible refine Ext.drew ?_) | (with_reducible refine Ext.drewN ?_ _) | (with_reducible refine Ext.setCell ?_ ?_ _) | (with_reducible refine Ext.trans ?_ (by assumption)) | go_size))⟩

def Dig (c : UInt8) : Prop := 48 ≤ c.toNat ∧ c.toNat ≤ 57
/-- What the reference reads out of a text without sign D, with sign sg. -/
def ReadIs (s D : ByteArray) (sg : Int) (out : Option Int) : Prop :=
  (∀ (k : Nat) (h : k < D.size), ¬ Dig D[k] → out = none) ∧ ((∀ (k : Nat) (h : k < D.size), Dig D[k]) → ∃ v, v = sg * dec D.data.toList ∧ ((cellB 0 v = true ∧ Lib.itoa v = s.data.toList ∧ out = some v) ∨ (cellB 0 v = false ∧ out = none) ∨ (cellB 0 v = true ∧ ¬ Lib.itoa v = s.data.toList ∧ out = none)))
theorem take_byte (D : ByteArray) (k : Nat) (h : k < D.size) : D.data.toList.take (k + 1) = D.data.toList.take k ++ [D[k]] := by
  rw [List.take_succ_eq_append_getElem (by simpa using h)]; rfl
theorem dec_step (D : ByteArray) (k : Nat) (h : k < D.size) : dec (D.data.toList.take (k + 1)) = 10 * dec (D.data.toList.take k) + ((D[k].toNat : Int) - 48) := by
  rw [take_byte D k h, dec_snoc]
theorem take_bd (D : ByteArray) (k : Nat) (h : k ≤ D.size) (h5 : D.size ≤ 5) (hd : ∀ (j : Nat) (h : j < D.size), j < k → Dig D[j]) : 0 ≤ dec (D.data.toList.take k) ∧ dec (D.data.toList.take k) ≤ 99999 := by
  refine dec_bd5 _ (fun c hc => ?_) (Nat.le_trans (List.length_take_le _ _) (by omega))
  obtain ⟨j, hj, rfl⟩ := List.getElem_of_mem hc
  rw [List.length_take] at hj
  rw [List.getElem_take]
  exact hd j (by have := Nat.lt_min.1 hj; simpa using this.2) (by omega)
theorem take_bd4 (D : ByteArray) (k : Nat) (h : k < D.size) (h5 : D.size ≤ 5) (hd : ∀ (j : Nat) (h : j < D.size), j < k → Dig D[j]) : 0 ≤ dec (D.data.toList.take k) ∧ dec (D.data.toList.take k) ≤ 9999 := by
  refine dec_bd4 _ (fun c hc => ?_) (Nat.le_trans (List.length_take_le _ _) (by omega))
  obtain ⟨j, hj, rfl⟩ := List.getElem_of_mem hc
  rw [List.length_take] at hj
  rw [List.getElem_take]
  exact hd j (by have := Nat.lt_min.1 hj; simpa using this.2) (by omega)
theorem ne_bytes {l : List UInt8} {s : ByteArray} (h : ¬ l = s.data.toList) : (l == s.toList) = false ∧ (l != s.toList) = true := by
  have e : (l == s.toList) = false := by
    cases e : (l == s.toList)
    · rfl
    · rw [beq_iff_eq, ByteArray.toList_eq] at e; exact absurd e h
  exact ⟨e, by simp [bne, e]⟩
theorem eq_bytes {l : List UInt8} {s : ByteArray} (h : l = s.data.toList) : (l == s.toList) = true ∧ (l != s.toList) = false := by
  have e : (l == s.toList) = true := by rw [beq_iff_eq, ByteArray.toList_eq]; exact h
  exact ⟨e, by simp [bne, e]⟩

set_option maxRecDepth 100000 in
set_option maxHeartbeats 4000000 in
theorem refRead_plain (s : ByteArray) (hs : NoName s) (h1 : 1 ≤ s.size) (h5 : s.size ≤ 5) (hm : ¬ (s[0]'(by omega)).toNat = 45) (out : Option Int) (hout : ReadIs s s 1 out) (w : World) :
    Calls Tryd.prog 29 #[.string s] w fun e w' => e = .returned (.tuple #[.agg #[.int .u8 0, .int .i64 (out.getD 0)], .bool out.isSome]) ∧ Ext w w' := by
  obtain ⟨n1, n2, n3, n4⟩ := hs
  have HO := Lib.hid hout; clear hout
  have hz : (s.size == 0) = false := beq_eq_false_iff_ne.2 (by omega)
  have hz' : ((s.size : Int) == 0) = false := beq_eq_false_iff_ne.2 (by omega)
  have hm1 : (((s[0]'(by omega)).toNat : Int) == 45) = false := beq_eq_false_iff_ne.2 (by omega)
  have h0 : 0 < s.size := by omega
  go_enter Tryd.func29, Tryd.ntmps29
  go_wp2_with fail
  refine wp_loop_rounds 5 ?_
  repeat any_goals (rw [rounds_succ]; go_wp2_with (first | (go_at_call 50; refine (refFault_any _ _).mono ?_; rintro e w1 ⟨rfl, hb1⟩; obtain ⟨hc1, hf1, hs1⟩ := hb1.cells; have hz1_0 : w.heap.size < w1.heap.size := (by have h := hb1.le; (try simp at h); omega); have hc1_0 := hb1.cell (b := w.heap.size) (by first | omega | (simp; done) | (simp; omega)); have hf1_0 := hb1.frozen (b := w.heap.size) (by first | omega | (simp; done) | (simp; omega))) | (go_at_call 27; (first | (with_reducible refine (refText1 _).mono ?_) | (with_reducible refine (refText2 _).mono ?_) | (with_reducible refine (refText3 _).mono ?_) | (with_reducible refine (refText4 _).mono ?_)); rintro e w2 ⟨rfl, hb2⟩; obtain ⟨hc2, hf2, hs2⟩ := hb2.cells; have hz2_0 : w.heap.size < w2.heap.size := (by have h := hb2.le; (try simp at h); omega); have hc2_0 := hb2.cell (b := w.heap.size) (by first | omega | (simp; done) | (simp; omega)); have hf2_0 := hb2.frozen (b := w.heap.size) (by first | omega | (simp; done) | (simp; omega)))))
  have hb := Lib.hid (show Ext w w2 from (by repeat' (first | (with_reducible exact Ext.refl _) | (with_reducible assumption) | (with_reducible refine Ext.alloc ?_ _) | (with_reducible refine Ext.drew ?_) | (with_reducible refine Ext.drewN ?_ _) | (with_reducible refine Ext.setCell ?_ ?_ _) | (with_reducible refine Ext.trans ?_ (by assumption)) | go_size)))
  go_loop [5, 8] (fun s5 s8 => ∃ kk : Nat, kk ≤ s.size ∧ s8 = .int .i64 kk ∧ s5 = .int .i64 (dec (s.data.toList.take kk)) ∧ Hid (∀ (j : Nat) (h : j < s.size), j < kk → Dig s[j])) (fun _ s8 => s.size - (intOf s8).toNat)
  case atStart => exact ⟨0, Nat.zero_le _, rfl, rfl, fun j h hj => absurd hj (Nat.not_lt_zero _)⟩
  case round =>
    obtain ⟨kk, hkk, rfl, rfl, A⟩ := hrel
    have d0 := take_bd s kk hkk h5 A.out
    by_cases hlt : kk < s.size
    · have hst := Lib.hid (dec_step s kk hlt)
      have d1 := take_bd4 s kk hlt h5 A.out
      obtain ⟨d1, d2⟩ := d1
      clear d0
      by_cases c1 : 48 ≤ s[kk].toNat
      · by_cases c2 : s[kk].toNat ≤ 57
        · generalize dec (s.data.toList.take kk) = n at hst d1 d2
          have c3 := Lib.hid (show Dig s[kk] from ⟨c1, c2⟩)
          go_wp2_with fail
          go_round
          case measure => simp [intOf]; omega
          case rel =>
            refine ⟨kk + 1, by omega, by go_num, by rw [hst.out], (show Hid _ from fun j h hj => ?_)⟩
            by_cases e : j = kk
            · subst e; exact c3.out
            · exact A.out j h (by omega)
        · have hn := Lib.hid (HO.out.1 kk hlt (fun h => c2 h.2))
          generalize dec (s.data.toList.take kk) = n at hst d1 d2
          go_wp2_with fail
          refine bodyPost_ret (v := .tuple #[.agg #[.int .u8 0, .int .i64 0], .bool false]) (by simp [results, Tryd.results29, go_sem, *]) rfl ⟨by rw [hn.out]; rfl, ?_⟩
          exact Ext.setCell (Ext.setCell hb.out (by first | (simp [go_sem]; done) | omega | (simp; omega)) _) (by first | (simp [go_sem]; done) | omega | (simp; omega)) _
      · have hn := Lib.hid (HO.out.1 kk hlt (fun h => c1 h.1))
        generalize dec (s.data.toList.take kk) = n at hst d1 d2
        go_wp2_with fail
        refine bodyPost_ret (v := .tuple #[.agg #[.int .u8 0, .int .i64 0], .bool false]) (by simp [results, Tryd.results29, go_sem, *]) rfl ⟨by rw [hn.out]; rfl, ?_⟩
        exact Ext.setCell (Ext.setCell hb.out (by first | (simp [go_sem]; done) | omega | (simp; omega)) _) (by first | (simp [go_sem]; done) | omega | (simp; omega)) _
    · obtain rfl : kk = s.size := by omega
      have he := Lib.hid (show dec (s.data.toList.take s.size) = dec s.data.toList by rw [List.take_of_length_le (by simp)])
      obtain ⟨v, hv, hcase⟩ := HO.out.2 (fun k h => A.out k h h)
      rw [Int.one_mul] at hv
      have hv2 := hv.trans he.out.symm
      clear hv he
      generalize dec (s.data.toList.take s.size) = n at d0 hv2
      subst hv2
      obtain ⟨d1, d2⟩ := d0
      have HI := fun w' => refIs_any 0 v (by omega) w'
      rcases hcase with ⟨k1, k2, k3⟩ | ⟨k1, k3⟩ | ⟨k1, k2, k3⟩
      · rw [k1] at HI
        have HI := Lib.hid HI
        obtain ⟨v1, v2⟩ : -9999 ≤ v ∧ v ≤ 9999 := by simpa [cellB] using k1
        have HT := Lib.hid (fun w' => refText_num v v1 v2 w')
        obtain ⟨t1, t2⟩ := eq_bytes k2
        have k3 := Lib.hid k3
        clear k1 k2
        generalize Lib.itoa v = l at HT t1 t2
        go_wp2_with (first | (go_at_call 48; refine (refNumber_any _ _).mono ?_; rintro e w3 ⟨rfl, hb3⟩; obtain ⟨hc3, hf3, hs3⟩ := hb3.cells; have hz3_0 : w.heap.size < w3.heap.size := (by have h := hb3.le; (try simp at h); omega); have hc3_0 := hb3.cell (b := w.heap.size) (by first | omega | (simp; done) | (simp; omega)); have hf3_0 := hb3.frozen (b := w.heap.size) (by first | omega | (simp; done) | (simp; omega))) | (go_at_call 15; refine (HI.out _).mono ?_; rintro e x4 ⟨rfl, y4⟩; (try (have hz4_0 : w.heap.size < x4.heap.size := (by have h := y4.le; (try simp at h); omega); have hc4_0 := y4.cell (b := w.heap.size) (by first | omega | (simp; done) | (simp; omega)); have hf4_0 := y4.frozen (b := w.heap.size) (by first | omega | (simp; done) | (simp; omega)))); (try (have hz4_1 : w3.heap.size < x4.heap.size := (by have h := y4.le; (try simp at h); omega); have hc4_1 := y4.cell (b := w3.heap.size) (by first | omega | (simp; done) | (simp; omega)); have hf4_1 := y4.frozen (b := w3.heap.size) (by first | omega | (simp; done) | (simp; omega))))) | (go_at_call 27; refine (HT.out _).mono ?_; rintro e x5 ⟨rfl, y5⟩; (try (have hz5_0 : w.heap.size < x5.heap.size := (by have h := y5.le; (try simp at h); omega); have hc5_0 := y5.cell (b := w.heap.size) (by first | omega | (simp; done) | (simp; omega)); have hf5_0 := y5.frozen (b := w.heap.size) (by first | omega | (simp; done) | (simp; omega)))); (try (have hz5_1 : w3.heap.size < x5.heap.size := (by have h := y5.le; (try simp at h); omega); have hc5_1 := y5.cell (b := w3.heap.size) (by first | omega | (simp; done) | (simp; omega)); have hf5_1 := y5.frozen (b := w3.heap.size) (by first | omega | (simp; done) | (simp; omega))))))
        refine bodyPost_ret (v := .tuple #[.agg #[.int .u8 0, .int .i64 v], .bool true]) (by simp [results, Tryd.results29, go_sem, *]) rfl ⟨by rw [k3.out]; rfl, ?_⟩
        refine Ext.setCell (Ext.setCell (Ext.trans hb.out ?_) (by first | (simp [go_sem]; done) | omega | (simp; omega)) _) (by first | (simp [go_sem]; done) | omega | (simp; omega)) _
        exact (by repeat' (first | (with_reducible exact Ext.refl _) | (with_reducible assumption) | (with_reducible refine Ext.alloc ?_ _) | (with_reducible refine Ext.drew ?_) | (with_reducible refine Ext.drewN ?_ _) | (with_reducible refine Ext.setCell ?_ ?_ _) | (with_reducible refine Ext.trans ?_ (by assumption)) | go_size))
      · rw [k1] at HI
        have HI := Lib.hid HI
        have k3 := Lib.hid k3
        clear k1
        go_wp2_with (first | (go_at_call 48; refine (refNumber_any _ _).mono ?_; rintro e w3 ⟨rfl, hb3⟩; obtain ⟨hc3, hf3, hs3⟩ := hb3.cells; have hz3_0 : w.heap.size < w3.heap.size := (by have h := hb3.le; (try simp at h); omega); have hc3_0 := hb3.cell (b := w.heap.size) (by first | omega | (simp; done) | (simp; omega)); have hf3_0 := hb3.frozen (b := w.heap.size) (by first | omega | (simp; done) | (simp; omega))) | (go_at_call 15; refine (HI.out _).mono ?_; rintro e x4 ⟨rfl, y4⟩; (try (have hz4_0 : w.heap.size < x4.heap.size := (by have h := y4.le; (try simp at h); omega); have hc4_0 := y4.cell (b := w.heap.size) (by first | omega | (simp; done) | (simp; omega)); have hf4_0 := y4.frozen (b := w.heap.size) (by first | omega | (simp; done) | (simp; omega)))); (try (have hz4_1 : w3.heap.size < x4.heap.size := (by have h := y4.le; (try simp at h); omega); have hc4_1 := y4.cell (b := w3.heap.size) (by first | omega | (simp; done) | (simp; omega)); have hf4_1 := y4.frozen (b := w3.heap.size) (by first | omega | (simp; done) | (simp; omega))))))
        refine bodyPost_ret (v := .tuple #[.agg #[.int .u8 0, .int .i64 0], .bool false]) (by simp [results, Tryd.results29, go_sem, *]) rfl ⟨by rw [k3.out]; rfl, ?_⟩
        refine Ext.setCell (Ext.setCell (Ext.trans hb.out ?_) (by first | (simp [go_sem]; done) | omega | (simp; omega)) _) (by first | (simp [go_sem]; done) | omega | (simp; omega)) _
        exact (by repeat' (first | (with_reducible exact Ext.refl _) | (with_reducible assumption) | (with_reducible refine Ext.alloc ?_ _) | (with_reducible refine Ext.drew ?_) | (with_reducible refine Ext.drewN ?_ _) | (with_reducible refine Ext.setCell ?_ ?_ _) | (with_reducible refine Ext.trans ?_ (by assumption)) | go_size))
      · rw [k1] at HI
        have HI := Lib.hid HI
        obtain ⟨v1, v2⟩ : -9999 ≤ v ∧ v ≤ 9999 := by simpa [cellB] using k1
        have HT := Lib.hid (fun w' => refText_num v v1 v2 w')
        obtain ⟨t1, t2⟩ := ne_bytes k2
        have k3 := Lib.hid k3
        clear k1 k2
        generalize Lib.itoa v = l at HT t1 t2
        go_wp2_with (first | (go_at_call 48; refine (refNumber_any _ _).mono ?_; rintro e w3 ⟨rfl, hb3⟩; obtain ⟨hc3, hf3, hs3⟩ := hb3.cells; have hz3_0 : w.heap.size < w3.heap.size := (by have h := hb3.le; (try simp at h); omega); have hc3_0 := hb3.cell (b := w.heap.size) (by first | omega | (simp; done) | (simp; omega)); have hf3_0 := hb3.frozen (b := w.heap.size) (by first | omega | (simp; done) | (simp; omega))) | (go_at_call 15; refine (HI.out _).mono ?_; rintro e x4 ⟨rfl, y4⟩; (try (have hz4_0 : w.heap.size < x4.heap.size := (by have h := y4.le; (try simp at h); omega); have hc4_0 := y4.cell (b := w.heap.size) (by first | omega | (simp; done) | (simp; omega)); have hf4_0 := y4.frozen (b := w.heap.size) (by first | omega | (simp; done) | (simp; omega)))); (try (have hz4_1 : w3.heap.size < x4.heap.size := (by have h := y4.le; (try simp at h); omega); have hc4_1 := y4.cell (b := w3.heap.size) (by first | omega | (simp; done) | (simp; omega)); have hf4_1 := y4.frozen (b := w3.heap.size) (by first | omega | (simp; done) | (simp; omega))))) | (go_at_call 27; refine (HT.out _).mono ?_; rintro e x5 ⟨rfl, y5⟩; (try (have hz5_0 : w.heap.size < x5.heap.size := (by have h := y5.le; (try simp at h); omega); have hc5_0 := y5.cell (b := w.heap.size) (by first | omega | (simp; done) | (simp; omega)); have hf5_0 := y5.frozen (b := w.heap.size) (by first | omega | (simp; done) | (simp; omega)))); (try (have hz5_1 : w3.heap.size < x5.heap.size := (by have h := y5.le; (try simp at h); omega); have hc5_1 := y5.cell (b := w3.heap.size) (by first | omega | (simp; done) | (simp; omega)); have hf5_1 := y5.frozen (b := w3.heap.size) (by first | omega | (simp; done) | (simp; omega))))))
        refine bodyPost_ret (v := .tuple #[.agg #[.int .u8 0, .int .i64 0], .bool false]) (by simp [results, Tryd.results29, go_sem, *]) rfl ⟨by rw [k3.out]; rfl, ?_⟩
        refine Ext.setCell (Ext.setCell (Ext.trans hb.out ?_) (by first | (simp [go_sem]; done) | omega | (simp; omega)) _) (by first | (simp [go_sem]; done) | omega | (simp; omega)) _
        exact (by repeat' (first | (with_reducible exact Ext.refl _) | (with_reducible assumption) | (with_reducible refine Ext.alloc ?_ _) | (with_reducible refine Ext.drew ?_) | (with_reducible refine Ext.drewN ?_ _) | (with_reducible refine Ext.setCell ?_ ?_ _) | (with_reducible refine Ext.trans ?_ (by assumption)) | go_size))

set_option maxRecDepth 100000 in
set_option maxHeartbeats 4000000 in
theorem refRead_minus (s : ByteArray) (hs : NoName s) (h1 : 1 ≤ s.size) (h5 : s.size ≤ 5) (hm : (s[0]'(by omega)).toNat = 45) (D : ByteArray) (hD : s.extract 1 s.size = D) (hD5 : D.size ≤ 5) (out : Option Int) (hout : ReadIs s D (-1) out) (w : World) :
    Calls Tryd.prog 29 #[.string s] w fun e w' => e = .returned (.tuple #[.agg #[.int .u8 0, .int .i64 (out.getD 0)], .bool out.isSome]) ∧ Ext w w' := by
  obtain ⟨n1, n2, n3, n4⟩ := hs
  have HO := Lib.hid hout; clear hout
  have hz : (s.size == 0) = false := beq_eq_false_iff_ne.2 (by omega)
  have hz' : ((s.size : Int) == 0) = false := beq_eq_false_iff_ne.2 (by omega)
  have hm1 : (((s[0]'(by omega)).toNat : Int) == 45) = true := beq_iff_eq.2 (by omega)
  have h0 : 0 < s.size := by omega
  go_enter Tryd.func29, Tryd.ntmps29
  go_wp2_with fail
  refine wp_loop_rounds 5 ?_
  repeat any_goals (rw [rounds_succ]; go_wp2_with (first | (go_at_call 50; refine (refFault_any _ _).mono ?_; rintro e w1 ⟨rfl, hb1⟩; obtain ⟨hc1, hf1, hs1⟩ := hb1.cells; have hz1_0 : w.heap.size < w1.heap.size := (by have h := hb1.le; (try simp at h); omega); have hc1_0 := hb1.cell (b := w.heap.size) (by first | omega | (simp; done) | (simp; omega)); have hf1_0 := hb1.frozen (b := w.heap.size) (by first | omega | (simp; done) | (simp; omega))) | (go_at_call 27; (first | (with_reducible refine (refText1 _).mono ?_) | (with_reducible refine (refText2 _).mono ?_) | (with_reducible refine (refText3 _).mono ?_) | (with_reducible refine (refText4 _).mono ?_)); rintro e w2 ⟨rfl, hb2⟩; obtain ⟨hc2, hf2, hs2⟩ := hb2.cells; have hz2_0 : w.heap.size < w2.heap.size := (by have h := hb2.le; (try simp at h); omega); have hc2_0 := hb2.cell (b := w.heap.size) (by first | omega | (simp; done) | (simp; omega)); have hf2_0 := hb2.frozen (b := w.heap.size) (by first | omega | (simp; done) | (simp; omega)))))
  go_region
  go_wp2_with fail
  have hb := Lib.hid (show Ext w w2.drew from (by repeat' (first | (with_reducible exact Ext.refl _) | (with_reducible assumption) | (with_reducible refine Ext.alloc ?_ _) | (with_reducible refine Ext.drew ?_) | (with_reducible refine Ext.drewN ?_ _) | (with_reducible refine Ext.setCell ?_ ?_ _) | (with_reducible refine Ext.trans ?_ (by assumption)) | go_size)))
  go_loop [5, 8] (fun s5 s8 => ∃ kk : Nat, kk ≤ D.size ∧ s8 = .int .i64 kk ∧ s5 = .int .i64 (dec (D.data.toList.take kk)) ∧ Hid (∀ (j : Nat) (h : j < D.size), j < kk → Dig D[j])) (fun _ s8 => D.size - (intOf s8).toNat)
  case atStart => exact ⟨0, Nat.zero_le _, rfl, rfl, fun j h hj => absurd hj (Nat.not_lt_zero _)⟩
  case round =>
    obtain ⟨kk, hkk, rfl, rfl, A⟩ := hrel
    have d0 := take_bd D kk hkk hD5 A.out
    by_cases hlt : kk < D.size
    · have hst := Lib.hid (dec_step D kk hlt)
      have d1 := take_bd4 D kk hlt hD5 A.out
      obtain ⟨d1, d2⟩ := d1
      clear d0
      by_cases c1 : 48 ≤ D[kk].toNat
      · by_cases c2 : D[kk].toNat ≤ 57
        · generalize dec (D.data.toList.take kk) = n at hst d1 d2
          have c3 := Lib.hid (show Dig D[kk] from ⟨c1, c2⟩)
          go_wp2_with fail
          go_round
          case measure => simp [intOf]; omega
          case rel =>
            refine ⟨kk + 1, by omega, by go_num, by rw [hst.out], (show Hid _ from fun j h hj => ?_)⟩
            by_cases e : j = kk
            · subst e; exact c3.out
            · exact A.out j h (by omega)
        · have hn := Lib.hid (HO.out.1 kk hlt (fun h => c2 h.2))
          generalize dec (D.data.toList.take kk) = n at hst d1 d2
          go_wp2_with fail
          refine bodyPost_ret (v := .tuple #[.agg #[.int .u8 0, .int .i64 0], .bool false]) (by simp [results, Tryd.results29, go_sem, *]) rfl ⟨by rw [hn.out]; rfl, ?_⟩
          exact Ext.setCell (Ext.setCell hb.out (by first | (simp [go_sem]; done) | omega | (simp; omega)) _) (by first | (simp [go_sem]; done) | omega | (simp; omega)) _
      · have hn := Lib.hid (HO.out.1 kk hlt (fun h => c1 h.1))
        generalize dec (D.data.toList.take kk) = n at hst d1 d2
        go_wp2_with fail
        refine bodyPost_ret (v := .tuple #[.agg #[.int .u8 0, .int .i64 0], .bool false]) (by simp [results, Tryd.results29, go_sem, *]) rfl ⟨by rw [hn.out]; rfl, ?_⟩
        exact Ext.setCell (Ext.setCell hb.out (by first | (simp [go_sem]; done) | omega | (simp; omega)) _) (by first | (simp [go_sem]; done) | omega | (simp; omega)) _
    · obtain rfl : kk = D.size := by omega
      have he := Lib.hid (show dec (D.data.toList.take D.size) = dec D.data.toList by rw [List.take_of_length_le (by simp)])
      obtain ⟨v, hv, hcase⟩ := HO.out.2 (fun k h => A.out k h h)
      rw [Int.neg_one_mul, ← he.out] at hv
      clear he
      generalize dec (D.data.toList.take D.size) = n at d0 hv
      subst hv
      obtain ⟨d1, d2⟩ := d0
      have HI := fun w' => refIs_any 0 (-n) (by omega) w'
      rcases hcase with ⟨k1, k2, k3⟩ | ⟨k1, k3⟩ | ⟨k1, k2, k3⟩
      · rw [k1] at HI
        have HI := Lib.hid HI
        obtain ⟨v1, v2⟩ : -9999 ≤ -n ∧ -n ≤ 9999 := by simpa [cellB] using k1
        have HT := Lib.hid (fun w' => refText_num (-n) v1 v2 w')
        obtain ⟨t1, t2⟩ := eq_bytes k2
        have k3 := Lib.hid k3
        clear k1 k2
        generalize Lib.itoa (-n) = l at HT t1 t2
        go_wp2_with (first | (go_at_call 48; refine (refNumber_any _ _).mono ?_; rintro e w3 ⟨rfl, hb3⟩; obtain ⟨hc3, hf3, hs3⟩ := hb3.cells; have hz3_0 : w.heap.size < w3.heap.size := (by have h := hb3.le; (try simp at h); omega); have hc3_0 := hb3.cell (b := w.heap.size) (by first | omega | (simp; done) | (simp; omega)); have hf3_0 := hb3.frozen (b := w.heap.size) (by first | omega | (simp; done) | (simp; omega))) | (go_at_call 15; refine (HI.out _).mono ?_; rintro e x4 ⟨rfl, y4⟩; (try (have hz4_0 : w.heap.size < x4.heap.size := (by have h := y4.le; (try simp at h); omega); have hc4_0 := y4.cell (b := w.heap.size) (by first | omega | (simp; done) | (simp; omega)); have hf4_0 := y4.frozen (b := w.heap.size) (by first | omega | (simp; done) | (simp; omega)))); (try (have hz4_1 : w3.heap.size < x4.heap.size := (by have h := y4.le; (try simp at h); omega); have hc4_1 := y4.cell (b := w3.heap.size) (by first | omega | (simp; done) | (simp; omega)); have hf4_1 := y4.frozen (b := w3.heap.size) (by first | omega | (simp; done) | (simp; omega))))) | (go_at_call 27; refine (HT.out _).mono ?_; rintro e x5 ⟨rfl, y5⟩; (try (have hz5_0 : w.heap.size < x5.heap.size := (by have h := y5.le; (try simp at h); omega); have hc5_0 := y5.cell (b := w.heap.size) (by first | omega | (simp; done) | (simp; omega)); have hf5_0 := y5.frozen (b := w.heap.size) (by first | omega | (simp; done) | (simp; omega)))); (try (have hz5_1 : w3.heap.size < x5.heap.size := (by have h := y5.le; (try simp at h); omega); have hc5_1 := y5.cell (b := w3.heap.size) (by first | omega | (simp; done) | (simp; omega)); have hf5_1 := y5.frozen (b := w3.heap.size) (by first | omega | (simp; done) | (simp; omega))))))
        refine bodyPost_ret (v := .tuple #[.agg #[.int .u8 0, .int .i64 (-n)], .bool true]) (by simp [results, Tryd.results29, go_sem, *]) rfl ⟨by rw [k3.out]; rfl, ?_⟩
        refine Ext.setCell (Ext.setCell (Ext.trans hb.out ?_) (by first | (simp [go_sem]; done) | omega | (simp; omega)) _) (by first | (simp [go_sem]; done) | omega | (simp; omega)) _
        exact (by repeat' (first | (with_reducible exact Ext.refl _) | (with_reducible assumption) | (with_reducible refine Ext.alloc ?_ _) | (with_reducible refine Ext.drew ?_) | (with_reducible refine Ext.drewN ?_ _) | (with_reducible refine Ext.setCell ?_ ?_ _) | (with_reducible refine Ext.trans ?_ (by assumption)) | go_size))
      · rw [k1] at HI
        have HI := Lib.hid HI
        have k3 := Lib.hid k3
        clear k1
        go_wp2_with (first | (go_at_call 48; refine (refNumber_any _ _).mono ?_; rintro e w3 ⟨rfl, hb3⟩; obtain ⟨hc3, hf3, hs3⟩ := hb3.cells; have hz3_0 : w.heap.size < w3.heap.size := (by have h := hb3.le; (try simp at h); omega); have hc3_0 := hb3.cell (b := w.heap.size) (by first | omega | (simp; done) | (simp; omega)); have hf3_0 := hb3.frozen (b := w.heap.size) (by first | omega | (simp; done) | (simp; omega))) | (go_at_call 15; refine (HI.out _).mono ?_; rintro e x4 ⟨rfl, y4⟩; (try (have hz4_0 : w.heap.size < x4.heap.size := (by have h := y4.le; (try simp at h); omega); have hc4_0 := y4.cell (b := w.heap.size) (by first | omega | (simp; done) | (simp; omega)); have hf4_0 := y4.frozen (b := w.heap.size) (by first | omega | (simp; done) | (simp; omega)))); (try (have hz4_1 : w3.heap.size < x4.heap.size := (by have h := y4.le; (try simp at h); omega); have hc4_1 := y4.cell (b := w3.heap.size) (by first | omega | (simp; done) | (simp; omega)); have hf4_1 := y4.frozen (b := w3.heap.size) (by first | omega | (simp; done) | (simp; omega))))))
        refine bodyPost_ret (v := .tuple #[.agg #[.int .u8 0, .int .i64 0], .bool false]) (by simp [results, Tryd.results29, go_sem, *]) rfl ⟨by rw [k3.out]; rfl, ?_⟩
        refine Ext.setCell (Ext.setCell (Ext.trans hb.out ?_) (by first | (simp [go_sem]; done) | omega | (simp; omega)) _) (by first | (simp [go_sem]; done) | omega | (simp; omega)) _
        exact (by repeat' (first | (with_reducible exact Ext.refl _) | (with_reducible assumption) | (with_reducible refine Ext.alloc ?_ _) | (with_reducible refine Ext.drew ?_) | (with_reducible refine Ext.drewN ?_ _) | (with_reducible refine Ext.setCell ?_ ?_ _) | (with_reducible refine Ext.trans ?_ (by assumption)) | go_size))
      · rw [k1] at HI
        have HI := Lib.hid HI
        obtain ⟨v1, v2⟩ : -9999 ≤ -n ∧ -n ≤ 9999 := by simpa [cellB] using k1
        have HT := Lib.hid (fun w' => refText_num (-n) v1 v2 w')
        obtain ⟨t1, t2⟩ := ne_bytes k2
        have k3 := Lib.hid k3
        clear k1 k2
        generalize Lib.itoa (-n) = l at HT t1 t2
        go_wp2_with (first | (go_at_call 48; refine (refNumber_any _ _).mono ?_; rintro e w3 ⟨rfl, hb3⟩; obtain ⟨hc3, hf3, hs3⟩ := hb3.cells; have hz3_0 : w.heap.size < w3.heap.size := (by have h := hb3.le; (try simp at h); omega); have hc3_0 := hb3.cell (b := w.heap.size) (by first | omega | (simp; done) | (simp; omega)); have hf3_0 := hb3.frozen (b := w.heap.size) (by first | omega | (simp; done) | (simp; omega))) | (go_at_call 15; refine (HI.out _).mono ?_; rintro e x4 ⟨rfl, y4⟩; (try (have hz4_0 : w.heap.size < x4.heap.size := (by have h := y4.le; (try simp at h); omega); have hc4_0 := y4.cell (b := w.heap.size) (by first | omega | (simp; done) | (simp; omega)); have hf4_0 := y4.frozen (b := w.heap.size) (by first | omega | (simp; done) | (simp; omega)))); (try (have hz4_1 : w3.heap.size < x4.heap.size := (by have h := y4.le; (try simp at h); omega); have hc4_1 := y4.cell (b := w3.heap.size) (by first | omega | (simp; done) | (simp; omega)); have hf4_1 := y4.frozen (b := w3.heap.size) (by first | omega | (simp; done) | (simp; omega))))) | (go_at_call 27; refine (HT.out _).mono ?_; rintro e x5 ⟨rfl, y5⟩; (try (have hz5_0 : w.heap.size < x5.heap.size := (by have h := y5.le; (try simp at h); omega); have hc5_0 := y5.cell (b := w.heap.size) (by first | omega | (simp; done) | (simp; omega)); have hf5_0 := y5.frozen (b := w.heap.size) (by first | omega | (simp; done) | (simp; omega)))); (try (have hz5_1 : w3.heap.size < x5.heap.size := (by have h := y5.le; (try simp at h); omega); have hc5_1 := y5.cell (b := w3.heap.size) (by first | omega | (simp; done) | (simp; omega)); have hf5_1 := y5.frozen (b := w3.heap.size) (by first | omega | (simp; done) | (simp; omega))))))
        refine bodyPost_ret (v := .tuple #[.agg #[.int .u8 0, .int .i64 0], .bool false]) (by simp [results, Tryd.results29, go_sem, *]) rfl ⟨by rw [k3.out]; rfl, ?_⟩
        refine Ext.setCell (Ext.setCell (Ext.trans hb.out ?_) (by first | (simp [go_sem]; done) | omega | (simp; omega)) _) (by first | (simp [go_sem]; done) | omega | (simp; omega)) _
        exact (by repeat' (first | (with_reducible exact Ext.refl _) | (with_reducible assumption) | (with_reducible refine Ext.alloc ?_ _) | (with_reducible refine Ext.drew ?_) | (with_reducible refine Ext.drewN ?_ _) | (with_reducible refine Ext.setCell ?_ ?_ _) | (with_reducible refine Ext.trans ?_ (by assumption)) | go_size))
end Go.Proofs.YtaddlhebhiehgaaDoor
