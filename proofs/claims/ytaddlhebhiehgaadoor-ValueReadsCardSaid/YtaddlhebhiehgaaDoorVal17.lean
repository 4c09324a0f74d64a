/-
  The walks of package value, seventeenth part: Read.
-/
import Derived.Test.YtaddlhebhiehgaaDoorVal16
import Derived.Lib.AtoiErrMem
namespace Go.Proofs.YtaddlhebhiehgaaDoor
open Go.RowKit Go.Shelf

theorem atoi_ok (s : ByteArray) (hmax : s.size ≤ 9223372036854775806) (v : Int) (h : Lib.atoiAll s.data.toList = .ok v) (w : World) :
    Calls Tryd.prog 60 #[.string s] w fun e w' => e = .returned (.tuple #[.int .i64 v, .nilIface]) ∧ Ext w w' :=
  (Tryd.strconv_Atoi_ok s hmax v h w).mono fun _ _ ⟨he, hw⟩ => ⟨he, by
    rcases hw with rfl | ⟨t, rfl⟩
    · exact Ext.refl _
    · exact Lib.bytesWorld_below w _ t⟩
/-- A text that is no numeral of an int: an error that is not nil. -/
theorem atoi_no (s : ByteArray) (hlim : s.size ≤ 281474976710656) (h : ∀ v, Lib.atoiAll s.data.toList ≠ .ok v) (w : World) (hg : Glob w) :
    Calls Tryd.prog 60 #[.string s] w fun e w' => ∃ x N, e = .returned (.tuple #[.int .i64 x, .iface 125 (.pointer (some ⟨N, 0, none⟩))]) ∧ Ext w w' := by
  obtain ⟨te, pe, hs⟩ := hg.synt
  obtain ⟨tr, pr, hr⟩ := hg.rang
  rcases ha : Lib.atoiAll s.data.toList with v | _ | _
  · exact absurd ha (h v)
  · exact (Any.strconv_Atoi_syntax Tryd.laysC172 s hlim ha _ w hs (.inr ⟨_, _, rfl⟩)).mono fun _ _ ⟨N, he, _, _, hb⟩ => ⟨_, N, he, hb⟩
  · exact (Any.strconv_Atoi_range Tryd.laysC172 s hlim ha _ w hr (.inr ⟨_, _, rfl⟩)).mono fun _ _ ⟨N, he, _, _, hb⟩ => ⟨_, N, he, hb⟩

theorem eq_iff_toList (l : List UInt8) (s : ByteArray) : (l == s.toList) = true ↔ s = ⟨l.toArray⟩ := by
  rw [beq_iff_eq, ByteArray.toList_eq]
  constructor
  · intro h
    apply ByteArray.ext
    simp [h]
  · rintro rfl
    simp
theorem ne_toList {l : List UInt8} {s : ByteArray} (h : ¬ s = ⟨l.toArray⟩) : (l == s.toList) = false := by
  cases e : (l == s.toList)
  · rfl
  · exact absurd ((eq_iff_toList l s).1 e) h

abbrev NA : Value := .agg #[.string ⟨#[]⟩, .string ⟨#[100, 105, 118]⟩, .string ⟨#[98, 105, 103]⟩, .string ⟨#[105, 110, 100, 101, 120]⟩, .string ⟨#[100, 101, 112, 116, 104]⟩]
theorem index0 : ∀ w, (Instr.index 88 (.agg #[.string ⟨#[]⟩, .string ⟨#[100, 105, 118]⟩, .string ⟨#[98, 105, 103]⟩, .string ⟨#[105, 110, 100, 101, 120]⟩, .string ⟨#[100, 101, 112, 116, 104]⟩]) (.int .i64 0)).run Tryd.prog w = .ok (.string ⟨#[]⟩) w := fun _ => by kernel_rfl
theorem index1 : ∀ w, (Instr.index 88 (.agg #[.string ⟨#[]⟩, .string ⟨#[100, 105, 118]⟩, .string ⟨#[98, 105, 103]⟩, .string ⟨#[105, 110, 100, 101, 120]⟩, .string ⟨#[100, 101, 112, 116, 104]⟩]) (.int .i64 1)).run Tryd.prog w = .ok (.string ⟨#[100, 105, 118]⟩) w := fun _ => by kernel_rfl
theorem index2 : ∀ w, (Instr.index 88 (.agg #[.string ⟨#[]⟩, .string ⟨#[100, 105, 118]⟩, .string ⟨#[98, 105, 103]⟩, .string ⟨#[105, 110, 100, 101, 120]⟩, .string ⟨#[100, 101, 112, 116, 104]⟩]) (.int .i64 2)).run Tryd.prog w = .ok (.string ⟨#[98, 105, 103]⟩) w := fun _ => by kernel_rfl
theorem index3 : ∀ w, (Instr.index 88 (.agg #[.string ⟨#[]⟩, .string ⟨#[100, 105, 118]⟩, .string ⟨#[98, 105, 103]⟩, .string ⟨#[105, 110, 100, 101, 120]⟩, .string ⟨#[100, 101, 112, 116, 104]⟩]) (.int .i64 3)).run Tryd.prog w = .ok (.string ⟨#[105, 110, 100, 101, 120]⟩) w := fun _ => by kernel_rfl
theorem index4 : ∀ w, (Instr.index 88 (.agg #[.string ⟨#[]⟩, .string ⟨#[100, 105, 118]⟩, .string ⟨#[98, 105, 103]⟩, .string ⟨#[105, 110, 100, 101, 120]⟩, .string ⟨#[100, 101, 112, 116, 104]⟩]) (.int .i64 4)).run Tryd.prog w = .ok (.string ⟨#[100, 101, 112, 116, 104]⟩) w := fun _ => by kernel_rfl

theorem read_name (f : Int) (h1 : 1 ≤ f) (h2 : f ≤ 4) (w : World) : Calls Tryd.prog 28 #[.string ⟨(nameOf f).toArray⟩] w fun e w' => e = .returned (.tuple #[.agg #[.int .u8 f, .int .i64 0], .int .i64 0]) ∧ Ext w w' := by
  have hf : f = 1 ∨ f = 2 ∨ f = 3 ∨ f = 4 := by omega
  clear h1 h2
  have i0 := index0
  have i1 := index1
  have i2 := index2
  have i3 := index3
  have i4 := index4
  rcases hf with rfl | rfl | rfl | rfl
  all_goals
    simp only [nameOf]
    go_enter Tryd.func28, Tryd.ntmps28
    go_wp2_with (first | (go_at_call 57; refine (names_any _).mono ?_; rintro e w1 ⟨rfl, hb1⟩; obtain ⟨hc1, hf1, hs1⟩ := hb1.cells; have hz1_0 : w.heap.size < w1.heap.size := (by have h := hb1.le; (try simp at h); omega); have hc1_0 := hb1.cell (b := w.heap.size) (by first | omega | (simp; done) | (simp; omega)); have hf1_0 := hb1.frozen (b := w.heap.size) (by first | omega | (simp; done) | (simp; omega))))
    refine wp_loop_rounds 6 ?_
    repeat any_goals (rw [rounds_succ]; go_wp2_with (first | (go_at_call 54; refine (fault_any _ _).mono ?_; rintro e w2 ⟨rfl, hb2⟩; obtain ⟨hc2, hf2, hs2⟩ := hb2.cells; have hz2_0 : w.heap.size < w2.heap.size := (by have h := hb2.le; (try simp at h); omega); have hc2_0 := hb2.cell (b := w.heap.size) (by first | omega | (simp; done) | (simp; omega)); have hf2_0 := hb2.frozen (b := w.heap.size) (by first | omega | (simp; done) | (simp; omega)))))
  · refine bodyPost_ret (v := .tuple #[.agg #[.int .u8 1, .int .i64 0], .int .i64 0]) (by simp [results, Tryd.results28, go_sem, *]) rfl ⟨rfl, (by repeat' (first | (with_reducible exact Ext.refl _) | (with_reducible assumption) | (with_reducible refine Ext.alloc ?_ _) | (with_reducible refine Ext.drew ?_) | (with_reducible refine Ext.drewN ?_ _) | (with_reducible refine Ext.setCell ?_ ?_ _) | (with_reducible refine Ext.trans ?_ (by assumption)) | go_size))⟩
  · refine bodyPost_ret (v := .tuple #[.agg #[.int .u8 2, .int .i64 0], .int .i64 0]) (by simp [results, Tryd.results28, go_sem, *]) rfl ⟨rfl, (by repeat' (first | (with_reducible exact Ext.refl _) | (with_reducible assumption) | (with_reducible refine Ext.alloc ?_ _) | (with_reducible refine Ext.drew ?_) | (with_reducible refine Ext.drewN ?_ _) | (with_reducible refine Ext.setCell ?_ ?_ _) | (with_reducible refine Ext.trans ?_ (by assumption)) | go_size))⟩
  · refine bodyPost_ret (v := .tuple #[.agg #[.int .u8 3, .int .i64 0], .int .i64 0]) (by simp [results, Tryd.results28, go_sem, *]) rfl ⟨rfl, (by repeat' (first | (with_reducible exact Ext.refl _) | (with_reducible assumption) | (with_reducible refine Ext.alloc ?_ _) | (with_reducible refine Ext.drew ?_) | (with_reducible refine Ext.drewN ?_ _) | (with_reducible refine Ext.setCell ?_ ?_ _) | (with_reducible refine Ext.trans ?_ (by assumption)) | go_size))⟩
  · refine bodyPost_ret (v := .tuple #[.agg #[.int .u8 4, .int .i64 0], .int .i64 0]) (by simp [results, Tryd.results28, go_sem, *]) rfl ⟨rfl, (by repeat' (first | (with_reducible exact Ext.refl _) | (with_reducible assumption) | (with_reducible refine Ext.alloc ?_ _) | (with_reducible refine Ext.drew ?_) | (with_reducible refine Ext.drewN ?_ _) | (with_reducible refine Ext.setCell ?_ ?_ _) | (with_reducible refine Ext.trans ?_ (by assumption)) | go_size))⟩

/-- s is no name of a fault. -/
def NoName (s : ByteArray) : Prop := ([100, 105, 118] == s.toList) = false ∧ ([98, 105, 103] == s.toList) = false ∧ ([105, 110, 100, 101, 120] == s.toList) = false ∧ ([100, 101, 112, 116, 104] == s.toList) = false

theorem read_no (s : ByteArray) (hlim : s.size ≤ 281474976710656) (hs : NoName s) (h : ∀ v, Lib.atoiAll s.data.toList ≠ .ok v) (w : World) (hg : Glob w) :
    Calls Tryd.prog 28 #[.string s] w fun e w' => e = .returned (.tuple #[.agg #[.int .u8 0, .int .i64 0], .int .i64 4]) ∧ Ext w w' := by
  obtain ⟨n1, n2, n3, n4⟩ := hs
  have i0 := index0
  have i1 := index1
  have i2 := index2
  have i3 := index3
  have i4 := index4
  have H := Lib.hid (fun w' hg => atoi_no s hlim h w' hg)
  clear h
  go_enter Tryd.func28, Tryd.ntmps28
  go_wp2_with (first | (go_at_call 57; refine (names_any _).mono ?_; rintro e w1 ⟨rfl, hb1⟩; obtain ⟨hc1, hf1, hs1⟩ := hb1.cells; have hz1_0 : w.heap.size < w1.heap.size := (by have h := hb1.le; (try simp at h); omega); have hc1_0 := hb1.cell (b := w.heap.size) (by first | omega | (simp; done) | (simp; omega)); have hf1_0 := hb1.frozen (b := w.heap.size) (by first | omega | (simp; done) | (simp; omega))))
  refine wp_loop_rounds 6 ?_
  repeat any_goals (rw [rounds_succ]; go_wp2_with (first | (go_at_call 60; refine (H.out _ (hg.ext (by repeat' (first | (with_reducible exact Ext.refl _) | (with_reducible assumption) | (with_reducible refine Ext.alloc ?_ _) | (with_reducible refine Ext.drew ?_) | (with_reducible refine Ext.drewN ?_ _) | (with_reducible refine Ext.setCell ?_ ?_ _) | (with_reducible refine Ext.trans ?_ (by assumption)) | go_size)))).mono ?_; rintro e w2 ⟨x, N, rfl, hb2⟩; obtain ⟨hc2, hf2, hs2⟩ := hb2.cells; have hz2_0 : w.heap.size < w2.heap.size := (by have h := hb2.le; (try simp at h); omega); have hc2_0 := hb2.cell (b := w.heap.size) (by first | omega | (simp; done) | (simp; omega)); have hf2_0 := hb2.frozen (b := w.heap.size) (by first | omega | (simp; done) | (simp; omega)))))
  refine bodyPost_ret (v := .tuple #[.agg #[.int .u8 0, .int .i64 0], .int .i64 4]) (by simp [results, Tryd.results28, go_sem, *]) rfl ⟨rfl, (by repeat' (first | (with_reducible exact Ext.refl _) | (with_reducible assumption) | (with_reducible refine Ext.alloc ?_ _) | (with_reducible refine Ext.drew ?_) | (with_reducible refine Ext.drewN ?_ _) | (with_reducible refine Ext.setCell ?_ ?_ _) | (with_reducible refine Ext.trans ?_ (by assumption)) | go_size))⟩

theorem read_other (s : ByteArray) (hlim : s.size ≤ 281474976710656) (hs : NoName s) (v : Int) (h : Lib.atoiAll s.data.toList = .ok v) (hv1 : -9223372036854775808 ≤ v) (hv2 : v ≤ 9223372036854775807)
    (hno : Lib.itoa v ≠ s.data.toList ∨ cellB 0 v = false) (w : World) (hg : Glob w) :
    Calls Tryd.prog 28 #[.string s] w fun e w' => e = .returned (.tuple #[.agg #[.int .u8 0, .int .i64 0], .int .i64 4]) ∧ Ext w w' := by
  obtain ⟨n1, n2, n3, n4⟩ := hs
  have i0 := index0
  have i1 := index1
  have i2 := index2
  have i3 := index3
  have i4 := index4
  have H := Lib.hid (fun w' => atoi_ok s (by omega) v h w')
  have H2 := Lib.hid (fun w' hg => itoa_any v hv1 hv2 w' hg)
  clear h hv1 hv2
  by_cases he : Lib.itoa v = s.data.toList
  · have hc : cellB 0 v = false := by
      rcases hno with h | h
      · exact absurd he h
      · exact h
    have e1 : (Lib.itoa v == s.toList) = true := by rw [beq_iff_eq, ByteArray.toList_eq]; exact he
    have H3 := fun w' => isCell_any 0 v (by omega) w'
    rw [hc] at H3
    have H3 := Lib.hid H3
    clear hno he hc
    generalize Lib.itoa v = l at e1 H2
    go_enter Tryd.func28, Tryd.ntmps28
    go_wp2_with (first | (go_at_call 57; refine (names_any _).mono ?_; rintro e w1 ⟨rfl, hb1⟩; obtain ⟨hc1, hf1, hs1⟩ := hb1.cells; have hz1_0 : w.heap.size < w1.heap.size := (by have h := hb1.le; (try simp at h); omega); have hc1_0 := hb1.cell (b := w.heap.size) (by first | omega | (simp; done) | (simp; omega)); have hf1_0 := hb1.frozen (b := w.heap.size) (by first | omega | (simp; done) | (simp; omega))))
    refine wp_loop_rounds 6 ?_
    repeat any_goals (rw [rounds_succ]; go_wp2_with (first | (go_at_call 60; refine (H.out _).mono ?_; rintro e w2 ⟨rfl, hb2⟩; obtain ⟨hc2, hf2, hs2⟩ := hb2.cells; have hz2_0 : w.heap.size < w2.heap.size := (by have h := hb2.le; (try simp at h); omega); have hc2_0 := hb2.cell (b := w.heap.size) (by first | omega | (simp; done) | (simp; omega)); have hf2_0 := hb2.frozen (b := w.heap.size) (by first | omega | (simp; done) | (simp; omega))) | (go_at_call 58; refine (H2.out _ (hg.ext (by repeat' (first | (with_reducible exact Ext.refl _) | (with_reducible assumption) | (with_reducible refine Ext.alloc ?_ _) | (with_reducible refine Ext.drew ?_) | (with_reducible refine Ext.drewN ?_ _) | (with_reducible refine Ext.setCell ?_ ?_ _) | (with_reducible refine Ext.trans ?_ (by assumption)) | go_size)))).mono ?_; rintro e w3 ⟨rfl, hb3⟩; obtain ⟨hc3, hf3, hs3⟩ := hb3.cells; have hz3_0 : w.heap.size < w3.heap.size := (by have h := hb3.le; (try simp at h); omega); have hc3_0 := hb3.cell (b := w.heap.size) (by first | omega | (simp; done) | (simp; omega)); have hf3_0 := hb3.frozen (b := w.heap.size) (by first | omega | (simp; done) | (simp; omega))) | (go_at_call 56; refine (H3.out _).mono ?_; rintro e w4 ⟨rfl, hb4⟩; obtain ⟨hc4, hf4, hs4⟩ := hb4.cells; have hz4_0 : w.heap.size < w4.heap.size := (by have h := hb4.le; (try simp at h); omega); have hc4_0 := hb4.cell (b := w.heap.size) (by first | omega | (simp; done) | (simp; omega)); have hf4_0 := hb4.frozen (b := w.heap.size) (by first | omega | (simp; done) | (simp; omega)))))
    refine bodyPost_ret (v := .tuple #[.agg #[.int .u8 0, .int .i64 0], .int .i64 4]) (by simp [results, Tryd.results28, go_sem, *]) rfl ⟨rfl, (by repeat' (first | (with_reducible exact Ext.refl _) | (with_reducible assumption) | (with_reducible refine Ext.alloc ?_ _) | (with_reducible refine Ext.drew ?_) | (with_reducible refine Ext.drewN ?_ _) | (with_reducible refine Ext.setCell ?_ ?_ _) | (with_reducible refine Ext.trans ?_ (by assumption)) | go_size))⟩
  · have e1 : (Lib.itoa v == s.toList) = false := by
      cases e : (Lib.itoa v == s.toList)
      · rfl
      · rw [beq_iff_eq, ByteArray.toList_eq] at e; exact absurd e he
    clear hno he
    generalize Lib.itoa v = l at e1 H2
    go_enter Tryd.func28, Tryd.ntmps28
    go_wp2_with (first | (go_at_call 57; refine (names_any _).mono ?_; rintro e w1 ⟨rfl, hb1⟩; obtain ⟨hc1, hf1, hs1⟩ := hb1.cells; have hz1_0 : w.heap.size < w1.heap.size := (by have h := hb1.le; (try simp at h); omega); have hc1_0 := hb1.cell (b := w.heap.size) (by first | omega | (simp; done) | (simp; omega)); have hf1_0 := hb1.frozen (b := w.heap.size) (by first | omega | (simp; done) | (simp; omega))))
    refine wp_loop_rounds 6 ?_
    repeat any_goals (rw [rounds_succ]; go_wp2_with (first | (go_at_call 60; refine (H.out _).mono ?_; rintro e w2 ⟨rfl, hb2⟩; obtain ⟨hc2, hf2, hs2⟩ := hb2.cells; have hz2_0 : w.heap.size < w2.heap.size := (by have h := hb2.le; (try simp at h); omega); have hc2_0 := hb2.cell (b := w.heap.size) (by first | omega | (simp; done) | (simp; omega)); have hf2_0 := hb2.frozen (b := w.heap.size) (by first | omega | (simp; done) | (simp; omega))) | (go_at_call 58; refine (H2.out _ (hg.ext (by repeat' (first | (with_reducible exact Ext.refl _) | (with_reducible assumption) | (with_reducible refine Ext.alloc ?_ _) | (with_reducible refine Ext.drew ?_) | (with_reducible refine Ext.drewN ?_ _) | (with_reducible refine Ext.setCell ?_ ?_ _) | (with_reducible refine Ext.trans ?_ (by assumption)) | go_size)))).mono ?_; rintro e w3 ⟨rfl, hb3⟩; obtain ⟨hc3, hf3, hs3⟩ := hb3.cells; have hz3_0 : w.heap.size < w3.heap.size := (by have h := hb3.le; (try simp at h); omega); have hc3_0 := hb3.cell (b := w.heap.size) (by first | omega | (simp; done) | (simp; omega)); have hf3_0 := hb3.frozen (b := w.heap.size) (by first | omega | (simp; done) | (simp; omega)))))
    refine bodyPost_ret (v := .tuple #[.agg #[.int .u8 0, .int .i64 0], .int .i64 4]) (by simp [results, Tryd.results28, go_sem, *]) rfl ⟨rfl, (by repeat' (first | (with_reducible exact Ext.refl _) | (with_reducible assumption) | (with_reducible refine Ext.alloc ?_ _) | (with_reducible refine Ext.drew ?_) | (with_reducible refine Ext.drewN ?_ _) | (with_reducible refine Ext.setCell ?_ ?_ _) | (with_reducible refine Ext.trans ?_ (by assumption)) | go_size))⟩

theorem read_num (s : ByteArray) (hlim : s.size ≤ 281474976710656) (hs : NoName s) (v : Int) (h : Lib.atoiAll s.data.toList = .ok v) (hv1 : -9999 ≤ v) (hv2 : v ≤ 9999) (he : Lib.itoa v = s.data.toList) (w : World) (hg : Glob w) :
    Calls Tryd.prog 28 #[.string s] w fun e w' => e = .returned (.tuple #[.agg #[.int .u8 0, .int .i64 v], .int .i64 0]) ∧ Ext w w' := by
  obtain ⟨n1, n2, n3, n4⟩ := hs
  have i0 := index0
  have i1 := index1
  have i2 := index2
  have i3 := index3
  have i4 := index4
  have H := Lib.hid (fun w' => atoi_ok s (by omega) v h w')
  have H2 := Lib.hid (fun w' hg => itoa_any v (by omega) (by omega) w' hg)
  have e1 : (Lib.itoa v == s.toList) = true := by rw [beq_iff_eq, ByteArray.toList_eq]; exact he
  have H3 := fun w' => isCell_any 0 v (by omega) w'
  rw [cellB_num v hv1 hv2] at H3
  have H3 := Lib.hid H3
  clear h hv1 hv2 he
  generalize Lib.itoa v = l at e1 H2
  go_enter Tryd.func28, Tryd.ntmps28
  go_wp2_with (first | (go_at_call 57; refine (names_any _).mono ?_; rintro e w1 ⟨rfl, hb1⟩; obtain ⟨hc1, hf1, hs1⟩ := hb1.cells; have hz1_0 : w.heap.size < w1.heap.size := (by have h := hb1.le; (try simp at h); omega); have hc1_0 := hb1.cell (b := w.heap.size) (by first | omega | (simp; done) | (simp; omega)); have hf1_0 := hb1.frozen (b := w.heap.size) (by first | omega | (simp; done) | (simp; omega))))
  refine wp_loop_rounds 6 ?_
  repeat any_goals (rw [rounds_succ]; go_wp2_with (first | (go_at_call 60; refine (H.out _).mono ?_; rintro e w2 ⟨rfl, hb2⟩; obtain ⟨hc2, hf2, hs2⟩ := hb2.cells; have hz2_0 : w.heap.size < w2.heap.size := (by have h := hb2.le; (try simp at h); omega); have hc2_0 := hb2.cell (b := w.heap.size) (by first | omega | (simp; done) | (simp; omega)); have hf2_0 := hb2.frozen (b := w.heap.size) (by first | omega | (simp; done) | (simp; omega))) | (go_at_call 58; refine (H2.out _ (hg.ext (by repeat' (first | (with_reducible exact Ext.refl _) | (with_reducible assumption) | (with_reducible refine Ext.alloc ?_ _) | (with_reducible refine Ext.drew ?_) | (with_reducible refine Ext.drewN ?_ _) | (with_reducible refine Ext.setCell ?_ ?_ _) | (with_reducible refine Ext.trans ?_ (by assumption)) | go_size)))).mono ?_; rintro e w3 ⟨rfl, hb3⟩; obtain ⟨hc3, hf3, hs3⟩ := hb3.cells; have hz3_0 : w.heap.size < w3.heap.size := (by have h := hb3.le; (try simp at h); omega); have hc3_0 := hb3.cell (b := w.heap.size) (by first | omega | (simp; done) | (simp; omega)); have hf3_0 := hb3.frozen (b := w.heap.size) (by first | omega | (simp; done) | (simp; omega)); have hv3 : w2.heap.size < w3.heap.size := (by have h := hb3.le; (try simp at h); omega); have hx3 := hb3.cell (b := w2.heap.size) (by first | (simp [go_sem]; done) | omega | (simp; omega))) | (go_at_call 56; refine (H3.out _).mono ?_; rintro e w4 ⟨rfl, hb4⟩; obtain ⟨hc4, hf4, hs4⟩ := hb4.cells; have hz4_0 : w.heap.size < w4.heap.size := (by have h := hb4.le; (try simp at h); omega); have hc4_0 := hb4.cell (b := w.heap.size) (by first | omega | (simp; done) | (simp; omega)); have hf4_0 := hb4.frozen (b := w.heap.size) (by first | omega | (simp; done) | (simp; omega)); have hx4 := hb4.cell (b := w2.heap.size) (by first | (simp [go_sem]; done) | omega | (simp; omega)))))
  refine bodyPost_ret (v := .tuple #[.agg #[.int .u8 0, .int .i64 v], .int .i64 0]) (by simp [results, Tryd.results28, go_sem, *]) rfl ⟨rfl, (by repeat' (first | (with_reducible exact Ext.refl _) | (with_reducible assumption) | (with_reducible refine Ext.alloc ?_ _) | (with_reducible refine Ext.drew ?_) | (with_reducible refine Ext.drewN ?_ _) | (with_reducible refine Ext.setCell ?_ ?_ _) | (with_reducible refine Ext.trans ?_ (by assumption)) | go_size))⟩
end Go.Proofs.YtaddlhebhiehgaaDoor
