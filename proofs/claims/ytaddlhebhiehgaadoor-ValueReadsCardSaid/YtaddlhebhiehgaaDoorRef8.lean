/-
  The walk of the reference's Pick.
-/
import Derived.Test.YtaddlhebhiehgaaDoorRef7
import Derived.Test.YtaddlhebhiehgaaDoorVal12
import Derived.Test.YtaddlhebhiehgaaDoorVal14
namespace Go.Proofs.YtaddlhebhiehgaaDoor
open Go.RowKit Go.Shelf

theorem cells_snoc (res : List (Int × Int)) (kk : Nat) (h : kk < res.length) (z : Int × Int) (hz : res[kk]? = some z) : cellsOf (res.take (kk + 1)) = cellsOf (res.take kk) ++ [.int .u8 z.1, .int .i64 z.2] := by
  rw [List.getElem?_eq_getElem h] at hz
  cases hz
  rw [List.take_succ_eq_append_getElem h]
  unfold cellsOf
  rw [List.flatMap_append]
  rfl
theorem own_start (_w W : World) (t : TypeId) (base b : Nat) (hb : base ≤ W.heap.size) (e : W.heap.size = b) (res : List (Int × Int)) : (W.alloc (.cells #[] t)).ownsRow base t 2 (.slice (some ⟨b, 0, none⟩) 0 0) 0 (cellsOf (res.take 0)) := by
  subst e
  exact World.ownsRow_made W #[] 0 hb (by unfold maxLen; omega) rfl
theorem _root_.Go.World.ownsRow.ext_alloc {w W : World} {base : Nat} {e : TypeId} {size n : Nat} {v : Value} {xs : List Value} (h : w.ownsRow base e size v n xs) (he : Ext w W) : W.ownsRow base e size v n xs := by
  refine ⟨h.1, h.2.imp id ?_⟩
  rintro ⟨g, cap, cur, h1, h2, h3, h4⟩
  exact ⟨g, cap, cur, h1, h2, (he.block g (Array.getElem?_eq_some_iff.1 h3).1).trans h3, h4⟩
/-- What the reference hands back. -/
def PickPost (k : Nat) (res : List (Int × Int)) (w : World) (e : Ending) (w' : World) : Prop :=
  ∃ g cap : Nat, e = .returned (.slice (some ⟨g, 0, none⟩) k cap) ∧ w.heap.size ≤ g ∧ Lies w' g 0 res ∧ Ext w w'
theorem pick_end {w w' : World} {k base : Nat} {v : Value} {res : List (Int × Int)} (h1 : 1 ≤ k) (hl : res.length = k) (h0 : ∀ z ∈ res, 0 ≤ z.1) (hb : w.heap.size ≤ base) (ho : w'.ownsRow base 23 2 v k (cellsOf (res.take k))) (he : Ext w w') : PickPost k res w (.returned v) w' := by
  rw [List.take_of_length_le (by omega)] at ho
  obtain ⟨g, cap, rfl, hg, -⟩ := ho.form (by omega)
  refine ⟨g, cap, rfl, by omega, lies_of_own ho (fun j hj => ?_), he⟩
  rw [getElem!_pos res j hj]
  exact h0 _ (List.getElem_mem hj)

theorem mul_small (n : Int) (k : Nat) (a1 : -9999 ≤ n) (a2 : n ≤ 9999) (h2 : k ≤ 8) : -9223372036854775808 ≤ (n + 1) * (k : Int) ∧ (n + 1) * (k : Int) ≤ 9223372036854775807 := by
  have h : ((n + 1) * (k : Int)).natAbs ≤ 10000 * 8 := by rw [Int.natAbs_mul]; exact Nat.mul_le_mul (by omega) (by omega)
  omega

set_option maxRecDepth 100000 in
set_option maxHeartbeats 4000000 in
theorem refPick_fault (b off len c k : Nat) (f n : Int) (w : World) (h1 : 1 ≤ k) (h2 : k ≤ 8) (hf : 0 < f) :
    Calls Tryd.prog 25 #[.slice (some ⟨b, off, none⟩) len c, .int .i64 (k : Int), .agg #[.int .u8 f, .int .i64 n]] w (PickPost k (List.replicate k (f, n)) w) := by
  obtain ⟨i0, hi, hz0, hz1, hz2⟩ := info_parts infoV
  obtain ⟨res, hres⟩ : ∃ res : List (Int × Int), res = List.replicate k (f, n) := ⟨_, rfl⟩
  rw [← hres]
  have HL := Lib.hid (show res.length = k by rw [hres]; simp)
  have H0 := Lib.hid (show ∀ z ∈ res, 0 ≤ z.1 by rw [hres]; intro z hz; rw [List.eq_of_mem_replicate hz]; simp; omega)
  have HRES := Lib.hid hres
  clear hres
  go_enter Tryd.func25, Tryd.ntmps25
  go_wp2_with fail
  go_loopw [7, 8] (fun v s8 wr => ∃ kk : Nat, kk ≤ k ∧ s8 = .int .i64 kk ∧ Hid (Ext (w.alloc (.cells #[.int .u8 f, .int .i64 n] 23)) wr) ∧ Hid (wr.ownsRow (w.heap.size + 1) 23 2 v kk (cellsOf (res.take kk)))) (fun _ s8 _ => k - (intOf s8).toNat)
  case atStart => exact ⟨0, by omega, rfl, Lib.hid (by repeat' (first | (with_reducible exact Ext.refl _) | (with_reducible assumption) | (with_reducible refine Ext.alloc ?_ _) | (with_reducible refine Ext.drew ?_) | (with_reducible refine Ext.drewN ?_ _) | (with_reducible refine Ext.setCell ?_ ?_ _) | (with_reducible refine Ext.trans ?_ (by assumption)) | go_size)), Lib.hid (own_start w (w.alloc (.cells #[.int .u8 f, .int .i64 n] 23)) 23 (w.heap.size + 1) _ (by simp) (by simp) res)⟩
  case round =>
    obtain ⟨kk, hkk, rfl, E, HO⟩ := hrel
    obtain ⟨c0, c1⟩ := cells_one E.out
    have z0 := cell_lt c0
    have hle := E.out.le
    simp only [World.size_alloc] at hle
    by_cases hlt : kk < k
    · have hr : ∃ zf zn : Int, zf = f ∧ zn = n ∧ Hid (res[kk]? = some (zf, zn)) := ⟨f, n, rfl, rfl, Lib.hid (by rw [HRES.out, List.getElem?_replicate, if_pos hlt])⟩
      obtain ⟨zf, zn, rfl, rfl, HR⟩ := hr
      go_wp2_with (first | (at_builtin; refine wpList_append_lies _ rfl _ _ 33 rfl (w.heap.size + 1) 23 i0 (.agg #[.int .u8 0, .int .i64 0]) 2 16 Tryd.underlying33 hi hz0 hz1 hz2 rfl (by decide) u7 kk (cellsOf (res.take kk)) rfl (HO.out.ext_alloc (show Ext wr _ from (by repeat' (first | (with_reducible exact Ext.refl _) | (with_reducible assumption) | (with_reducible refine Ext.alloc ?_ _) | (with_reducible refine Ext.drew ?_) | (with_reducible refine Ext.drewN ?_ _) | (with_reducible refine Ext.setCell ?_ ?_ _) | (with_reducible refine Ext.trans ?_ (by assumption)) | go_size)))) ⟨_, 0, none⟩ 1 1 [.int .u8 zf, .int .i64 zn] rfl rfl (src2 (Ext.refl _) (by simp) (by simp [go_sem]) (by simp [go_sem])) (one2 _ _) (by omega) (by unfold maxLen; omega) (by omega) (Nat.le_trans hle (Ext.le (w := wr) (by repeat' (first | (with_reducible exact Ext.refl _) | (with_reducible assumption) | (with_reducible refine Ext.alloc ?_ _) | (with_reducible refine Ext.drew ?_) | (with_reducible refine Ext.drewN ?_ _) | (with_reducible refine Ext.setCell ?_ ?_ _) | (with_reducible refine Ext.trans ?_ (by assumption)) | go_size)))) _ rfl ?_; intro g cap x9 hown hgrow _ _; have y9 := Lib.hid (Ext.grown (Ext.trans E.out (show Ext wr _ from (by repeat' (first | (with_reducible exact Ext.refl _) | (with_reducible assumption) | (with_reducible refine Ext.alloc ?_ _) | (with_reducible refine Ext.drew ?_) | (with_reducible refine Ext.drewN ?_ _) | (with_reducible refine Ext.setCell ?_ ?_ _) | (with_reducible refine Ext.trans ?_ (by assumption)) | go_size)))) hgrow (fun r hr => Nat.le_trans (by simp) (HO.out.lt r hr).1)); have HN := Lib.hid hown; clear hown hgrow))
      go_roundw
      case measure => simp [intOf]; omega
      case rel =>
        refine ⟨kk + 1, by omega, by go_num, y9, Lib.hid ?_⟩
        rw [cells_snoc res kk (by rw [HL.out]; exact hlt) _ HR.out]
        exact HN.out
    · obtain rfl : kk = k := by omega
      go_wp2_with fail
      go_returns
      exact pick_end h1 HL.out H0.out (by omega) HO.out (Ext.trans ((Ext.refl w).alloc _) E.out)

set_option maxRecDepth 100000 in
set_option maxHeartbeats 4000000 in
theorem refPick_neg (b off len c k : Nat) (n : Int) (w : World) (h1 : 1 ≤ k) (h2 : k ≤ 8) (_hlen : len ≤ 8) (_a1 : -9999 ≤ n) (_a2 : n ≤ 9999) (hn : n < 0) :
    Calls Tryd.prog 25 #[.slice (some ⟨b, off, none⟩) len c, .int .i64 (k : Int), .agg #[.int .u8 0, .int .i64 n]] w (PickPost k (List.replicate k (3, 0)) w) := by
  obtain ⟨i0, hi, hz0, hz1, hz2⟩ := info_parts infoV
  obtain ⟨res, hres⟩ : ∃ res : List (Int × Int), res = List.replicate k (3, 0) := ⟨_, rfl⟩
  rw [← hres]
  have HL := Lib.hid (show res.length = k by rw [hres]; simp)
  have H0 := Lib.hid (show ∀ z ∈ res, 0 ≤ z.1 by rw [hres]; intro z hz; rw [List.eq_of_mem_replicate hz]; simp)
  have HRES := Lib.hid hres
  clear hres
  go_enter Tryd.func25, Tryd.ntmps25
  go_wp2_with fail
  go_loopw [7, 8] (fun v s8 wr => ∃ kk : Nat, kk ≤ k ∧ s8 = .int .i64 kk ∧ Hid (Ext (w.alloc (.cells #[.int .u8 0, .int .i64 n] 23)) wr) ∧ Hid (wr.ownsRow (w.heap.size + 1) 23 2 v kk (cellsOf (res.take kk)))) (fun _ s8 _ => k - (intOf s8).toNat)
  case atStart => exact ⟨0, by omega, rfl, Lib.hid (by repeat' (first | (with_reducible exact Ext.refl _) | (with_reducible assumption) | (with_reducible refine Ext.alloc ?_ _) | (with_reducible refine Ext.drew ?_) | (with_reducible refine Ext.drewN ?_ _) | (with_reducible refine Ext.setCell ?_ ?_ _) | (with_reducible refine Ext.trans ?_ (by assumption)) | go_size)), Lib.hid (own_start w (w.alloc (.cells #[.int .u8 0, .int .i64 n] 23)) 23 (w.heap.size + 1) _ (by simp) (by simp) res)⟩
  case round =>
    obtain ⟨kk, hkk, rfl, E, HO⟩ := hrel
    obtain ⟨c0, c1⟩ := cells_one E.out
    have z0 := cell_lt c0
    have hle := E.out.le
    simp only [World.size_alloc] at hle
    by_cases hlt : kk < k
    · have hr : ∃ zf zn : Int, zf = 3 ∧ zn = 0 ∧ Hid (res[kk]? = some (zf, zn)) := ⟨3, 0, rfl, rfl, Lib.hid (by rw [HRES.out, List.getElem?_replicate, if_pos hlt])⟩
      obtain ⟨zf, zn, rfl, rfl, HR⟩ := hr
      go_wp2_with (first | (go_at_call 50; refine (refFault_any _ _).mono ?_; rintro e x3 ⟨rfl, y3⟩) | (at_builtin; refine wpList_append_lies _ rfl _ _ 33 rfl (w.heap.size + 1) 23 i0 (.agg #[.int .u8 0, .int .i64 0]) 2 16 Tryd.underlying33 hi hz0 hz1 hz2 rfl (by decide) u7 kk (cellsOf (res.take kk)) rfl (HO.out.ext_alloc (show Ext wr _ from (by repeat' (first | (with_reducible exact Ext.refl _) | (with_reducible assumption) | (with_reducible refine Ext.alloc ?_ _) | (with_reducible refine Ext.drew ?_) | (with_reducible refine Ext.drewN ?_ _) | (with_reducible refine Ext.setCell ?_ ?_ _) | (with_reducible refine Ext.trans ?_ (by assumption)) | go_size)))) ⟨_, 0, none⟩ 1 1 [.int .u8 3, .int .i64 0] rfl rfl (src2 (Ext.refl _) (by simp) (by simp [go_sem]) (by simp [go_sem])) (one2 _ _) (by omega) (by unfold maxLen; omega) (by omega) (Nat.le_trans hle (Ext.le (w := wr) (by repeat' (first | (with_reducible exact Ext.refl _) | (with_reducible assumption) | (with_reducible refine Ext.alloc ?_ _) | (with_reducible refine Ext.drew ?_) | (with_reducible refine Ext.drewN ?_ _) | (with_reducible refine Ext.setCell ?_ ?_ _) | (with_reducible refine Ext.trans ?_ (by assumption)) | go_size)))) _ rfl ?_; intro g cap x9 hown hgrow _ _; have y9 := Lib.hid (Ext.grown (Ext.trans E.out (show Ext wr _ from (by repeat' (first | (with_reducible exact Ext.refl _) | (with_reducible assumption) | (with_reducible refine Ext.alloc ?_ _) | (with_reducible refine Ext.drew ?_) | (with_reducible refine Ext.drewN ?_ _) | (with_reducible refine Ext.setCell ?_ ?_ _) | (with_reducible refine Ext.trans ?_ (by assumption)) | go_size)))) hgrow (fun r hr => Nat.le_trans (by simp) (HO.out.lt r hr).1)); have HN := Lib.hid hown; clear hown hgrow))
      go_roundw
      case measure => simp [intOf]; omega
      case rel =>
        refine ⟨kk + 1, by omega, by go_num, y9, Lib.hid ?_⟩
        rw [cells_snoc res kk (by rw [HL.out]; exact hlt) _ HR.out]
        exact HN.out
    · obtain rfl : kk = k := by omega
      go_wp2_with fail
      go_returns
      exact pick_end h1 HL.out H0.out (by omega) HO.out (Ext.trans ((Ext.refl w).alloc _) E.out)

set_option maxRecDepth 100000 in
set_option maxHeartbeats 4000000 in
theorem refPick_far (b off len c k : Nat) (n : Int) (w : World) (h1 : 1 ≤ k) (h2 : k ≤ 8) (_hlen : len ≤ 8) (a1 : -9999 ≤ n) (a2 : n ≤ 9999) (hn : ¬ n < 0) (hfar : (len : Int) < (n + 1) * (k : Int)) :
    Calls Tryd.prog 25 #[.slice (some ⟨b, off, none⟩) len c, .int .i64 (k : Int), .agg #[.int .u8 0, .int .i64 n]] w (PickPost k (List.replicate k (3, 0)) w) := by
  obtain ⟨i0, hi, hz0, hz1, hz2⟩ := info_parts infoV
  have hw : IntKind.i64.wrap ((n + 1) * (k : Int)) = (n + 1) * (k : Int) := IntWalk.i64_in _ (mul_small n k a1 a2 h2)
  obtain ⟨res, hres⟩ : ∃ res : List (Int × Int), res = List.replicate k (3, 0) := ⟨_, rfl⟩
  rw [← hres]
  have HL := Lib.hid (show res.length = k by rw [hres]; simp)
  have H0 := Lib.hid (show ∀ z ∈ res, 0 ≤ z.1 by rw [hres]; intro z hz; rw [List.eq_of_mem_replicate hz]; simp)
  have HRES := Lib.hid hres
  clear hres
  go_enter Tryd.func25, Tryd.ntmps25
  go_wp2_with fail
  go_loopw [7, 8] (fun v s8 wr => ∃ kk : Nat, kk ≤ k ∧ s8 = .int .i64 kk ∧ Hid (Ext (w.alloc (.cells #[.int .u8 0, .int .i64 n] 23)) wr) ∧ Hid (wr.ownsRow (w.heap.size + 1) 23 2 v kk (cellsOf (res.take kk)))) (fun _ s8 _ => k - (intOf s8).toNat)
  case atStart => exact ⟨0, by omega, rfl, Lib.hid (by repeat' (first | (with_reducible exact Ext.refl _) | (with_reducible assumption) | (with_reducible refine Ext.alloc ?_ _) | (with_reducible refine Ext.drew ?_) | (with_reducible refine Ext.drewN ?_ _) | (with_reducible refine Ext.setCell ?_ ?_ _) | (with_reducible refine Ext.trans ?_ (by assumption)) | go_size)), Lib.hid (own_start w (w.alloc (.cells #[.int .u8 0, .int .i64 n] 23)) 23 (w.heap.size + 1) _ (by simp) (by simp) res)⟩
  case round =>
    obtain ⟨kk, hkk, rfl, E, HO⟩ := hrel
    obtain ⟨c0, c1⟩ := cells_one E.out
    have z0 := cell_lt c0
    have hle := E.out.le
    simp only [World.size_alloc] at hle
    by_cases hlt : kk < k
    · have hr : ∃ zf zn : Int, zf = 3 ∧ zn = 0 ∧ Hid (res[kk]? = some (zf, zn)) := ⟨3, 0, rfl, rfl, Lib.hid (by rw [HRES.out, List.getElem?_replicate, if_pos hlt])⟩
      obtain ⟨zf, zn, rfl, rfl, HR⟩ := hr
      go_wp2_with (first | (go_at_call 50; refine (refFault_any _ _).mono ?_; rintro e x3 ⟨rfl, y3⟩) | (at_builtin; refine wpList_append_lies _ rfl _ _ 33 rfl (w.heap.size + 1) 23 i0 (.agg #[.int .u8 0, .int .i64 0]) 2 16 Tryd.underlying33 hi hz0 hz1 hz2 rfl (by decide) u7 kk (cellsOf (res.take kk)) rfl (HO.out.ext_alloc (show Ext wr _ from (by repeat' (first | (with_reducible exact Ext.refl _) | (with_reducible assumption) | (with_reducible refine Ext.alloc ?_ _) | (with_reducible refine Ext.drew ?_) | (with_reducible refine Ext.drewN ?_ _) | (with_reducible refine Ext.setCell ?_ ?_ _) | (with_reducible refine Ext.trans ?_ (by assumption)) | go_size)))) ⟨_, 0, none⟩ 1 1 [.int .u8 3, .int .i64 0] rfl rfl (src2 (Ext.refl _) (by simp) (by simp [go_sem]) (by simp [go_sem])) (one2 _ _) (by omega) (by unfold maxLen; omega) (by omega) (Nat.le_trans hle (Ext.le (w := wr) (by repeat' (first | (with_reducible exact Ext.refl _) | (with_reducible assumption) | (with_reducible refine Ext.alloc ?_ _) | (with_reducible refine Ext.drew ?_) | (with_reducible refine Ext.drewN ?_ _) | (with_reducible refine Ext.setCell ?_ ?_ _) | (with_reducible refine Ext.trans ?_ (by assumption)) | go_size)))) _ rfl ?_; intro g cap x9 hown hgrow _ _; have y9 := Lib.hid (Ext.grown (Ext.trans E.out (show Ext wr _ from (by repeat' (first | (with_reducible exact Ext.refl _) | (with_reducible assumption) | (with_reducible refine Ext.alloc ?_ _) | (with_reducible refine Ext.drew ?_) | (with_reducible refine Ext.drewN ?_ _) | (with_reducible refine Ext.setCell ?_ ?_ _) | (with_reducible refine Ext.trans ?_ (by assumption)) | go_size)))) hgrow (fun r hr => Nat.le_trans (by simp) (HO.out.lt r hr).1)); have HN := Lib.hid hown; clear hown hgrow))
      go_roundw
      case measure => simp [intOf]; omega
      case rel =>
        refine ⟨kk + 1, by omega, by go_num, y9, Lib.hid ?_⟩
        rw [cells_snoc res kk (by rw [HL.out]; exact hlt) _ HR.out]
        exact HN.out
    · obtain rfl : kk = k := by omega
      go_wp2_with fail
      go_returns
      exact pick_end h1 HL.out H0.out (by omega) HO.out (Ext.trans ((Ext.refl w).alloc _) E.out)

set_option maxRecDepth 100000 in
set_option maxHeartbeats 4000000 in
theorem refPick_in (b off len c k m : Nat) (zs : List (Int × Int)) (w : World) (h1 : 1 ≤ k) (h2 : k ≤ 8) (hlen : len ≤ 8) (hz : zs.length = len) (hin : m * k + k ≤ len) (h : Lies w b off zs) :
    Calls Tryd.prog 25 #[.slice (some ⟨b, off, none⟩) len c, .int .i64 (k : Int), .agg #[.int .u8 0, .int .i64 (m : Int)]] w (PickPost k (List.take k (List.drop (m * k) zs)) w) := by
  obtain ⟨i0, hi, hz0, hz1, hz2⟩ := info_parts infoV
  obtain ⟨q, hq⟩ : ∃ q, q = m * k := ⟨_, rfl⟩
  rw [← hq] at hin ⊢
  have hq1 : (m : Int) * (k : Int) = (q : Int) := by rw [hq]; simp
  have hq2 : ((m : Int) + 1) * (k : Int) = (q : Int) + (k : Int) := by rw [Int.add_mul, hq1]; omega
  have hw1 : IntKind.i64.wrap ((m : Int) * (k : Int)) = (q : Int) := by rw [hq1]; exact IntWalk.i64_in _ (by omega)
  have hw2 : IntKind.i64.wrap (((m : Int) + 1) * (k : Int)) = (q : Int) + (k : Int) := by rw [hq2]; exact IntWalk.i64_in _ (by omega)
  have hm1 : (m : Int) ≤ 8 := by
    have h3 : m * 1 ≤ m * k := Nat.mul_le_mul_left m h1
    omega
  clear hq hq1 hq2
  have HLIE := Lib.hid h
  have h0 := fun j (hj : j < zs.length) => (h.2 j hj).1
  clear h
  obtain ⟨res, hres⟩ : ∃ res : List (Int × Int), res = (zs.drop q).take k := ⟨_, rfl⟩
  rw [← hres]
  have HL := Lib.hid (show res.length = k by rw [hres]; simp; omega)
  have H0 := Lib.hid (show ∀ z ∈ res, 0 ≤ z.1 by rw [hres]; intro z hz'; obtain ⟨j, hj, rfl⟩ := List.getElem_of_mem hz'; have h3 : q + j < zs.length := (by simp at hj; omega); have h4 := h0 (q + j) h3; rw [getElem!_pos zs _ h3] at h4; simpa using h4)
  have HRES := Lib.hid hres
  clear hres
  have HZ := Lib.hid hz
  clear h0 hz
  go_enter Tryd.func25, Tryd.ntmps25
  go_wp2_with fail
  go_loopw [7, 8] (fun v s8 wr => ∃ kk : Nat, kk ≤ k ∧ s8 = .int .i64 kk ∧ Hid (Ext (w.alloc (.cells #[.int .u8 0, .int .i64 (m : Int)] 23)) wr) ∧ Hid (wr.ownsRow (w.heap.size + 1) 23 2 v kk (cellsOf (res.take kk)))) (fun _ s8 _ => k - (intOf s8).toNat)
  case atStart => exact ⟨0, by omega, rfl, Lib.hid (by repeat' (first | (with_reducible exact Ext.refl _) | (with_reducible assumption) | (with_reducible refine Ext.alloc ?_ _) | (with_reducible refine Ext.drew ?_) | (with_reducible refine Ext.drewN ?_ _) | (with_reducible refine Ext.setCell ?_ ?_ _) | (with_reducible refine Ext.trans ?_ (by assumption)) | go_size)), Lib.hid (own_start w (w.alloc (.cells #[.int .u8 0, .int .i64 (m : Int)] 23)) 23 (w.heap.size + 1) _ (by simp) (by simp) res)⟩
  case round =>
    obtain ⟨kk, hkk, rfl, E, HO⟩ := hrel
    obtain ⟨c0, c1⟩ := cells_one E.out
    have z0 := cell_lt c0
    have hle := E.out.le
    simp only [World.size_alloc] at hle
    by_cases hlt : kk < k
    · have hr : ∃ zf zn : Int, (0 ≤ zf ∧ wr.cell? ⟨b, off + (q + kk) * 2, none⟩ = some (.int .u8 zf) ∧ wr.cell? ⟨b, off + (q + kk) * 2 + 1, none⟩ = some (.int .i64 zn)) ∧ Hid (res[kk]? = some (zf, zn)) := by
        have hj : q + kk < zs.length := by rw [HZ.out]; omega
        obtain ⟨g0, g1, g2⟩ := (HLIE.out.below (Ext.trans ((Ext.refl w).alloc _) E.out)).2 (q + kk) hj
        refine ⟨_, _, ⟨g0, g1, g2⟩, Lib.hid ?_⟩
        rw [HRES.out, List.getElem?_take_of_lt hlt, List.getElem?_drop, List.getElem?_eq_getElem hj, getElem!_pos zs _ hj]
      obtain ⟨zf, zn, ⟨_, g1, g2⟩, HR⟩ := hr
      go_wp2_with (first | (at_builtin; refine wpList_append_lies _ rfl _ _ 33 rfl (w.heap.size + 1) 23 i0 (.agg #[.int .u8 0, .int .i64 0]) 2 16 Tryd.underlying33 hi hz0 hz1 hz2 rfl (by decide) u7 kk (cellsOf (res.take kk)) rfl (HO.out.ext_alloc (show Ext wr _ from (by repeat' (first | (with_reducible exact Ext.refl _) | (with_reducible assumption) | (with_reducible refine Ext.alloc ?_ _) | (with_reducible refine Ext.drew ?_) | (with_reducible refine Ext.drewN ?_ _) | (with_reducible refine Ext.setCell ?_ ?_ _) | (with_reducible refine Ext.trans ?_ (by assumption)) | go_size)))) ⟨_, 0, none⟩ 1 1 [.int .u8 zf, .int .i64 zn] rfl rfl (src2 (Ext.refl _) (by simp) (by simp [go_sem]) (by simp [go_sem])) (one2 _ _) (by omega) (by unfold maxLen; omega) (by omega) (Nat.le_trans hle (Ext.le (w := wr) (by repeat' (first | (with_reducible exact Ext.refl _) | (with_reducible assumption) | (with_reducible refine Ext.alloc ?_ _) | (with_reducible refine Ext.drew ?_) | (with_reducible refine Ext.drewN ?_ _) | (with_reducible refine Ext.setCell ?_ ?_ _) | (with_reducible refine Ext.trans ?_ (by assumption)) | go_size)))) _ rfl ?_; intro g cap x9 hown hgrow _ _; have y9 := Lib.hid (Ext.grown (Ext.trans E.out (show Ext wr _ from (by repeat' (first | (with_reducible exact Ext.refl _) | (with_reducible assumption) | (with_reducible refine Ext.alloc ?_ _) | (with_reducible refine Ext.drew ?_) | (with_reducible refine Ext.drewN ?_ _) | (with_reducible refine Ext.setCell ?_ ?_ _) | (with_reducible refine Ext.trans ?_ (by assumption)) | go_size)))) hgrow (fun r hr => Nat.le_trans (by simp) (HO.out.lt r hr).1)); have HN := Lib.hid hown; clear hown hgrow))
      go_roundw
      case measure => simp [intOf]; omega
      case rel =>
        refine ⟨kk + 1, by omega, by go_num, y9, Lib.hid ?_⟩
        rw [cells_snoc res kk (by rw [HL.out]; exact hlt) _ HR.out]
        exact HN.out
    · obtain rfl : kk = k := by omega
      go_wp2_with fail
      go_returns
      exact pick_end h1 HL.out H0.out (by omega) HO.out (Ext.trans ((Ext.refl w).alloc _) E.out)
end Go.Proofs.YtaddlhebhiehgaaDoor
