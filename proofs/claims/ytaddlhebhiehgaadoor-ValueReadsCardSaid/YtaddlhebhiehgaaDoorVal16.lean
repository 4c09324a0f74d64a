/-
  The walks of package value, sixteenth part: Pick of a number.
-/
import Derived.Test.YtaddlhebhiehgaaDoorVal15
import Derived.Test.YtaddlhebhiehgaaDoorRows2
namespace Go.Proofs.YtaddlhebhiehgaaDoor
open Go.RowKit Go.Shelf
attribute [local go_sem] Oper.semAt_some

/-- The elements that have come when some rounds are over decide what the row holds. -/
def rowAt (n : Int) (zs : List (Int × Int)) (k : Nat) {c : Nat} (pre : List (Fin c)) : List (Int × Int) :=
  if 0 ≤ n then (match pre[n.toNat]? with | some x => (zs.drop (x.val * k)).take k | none => List.replicate k (3, 0)) else List.replicate k (3, 0)
theorem rowAt_hit (n : Int) (zs : List (Int × Int)) (k : Nat) {c : Nat} (pre : List (Fin c)) (x : Fin c) (h : (pre.length : Int) = n) : rowAt n zs k (pre ++ [x]) = (zs.drop (x.val * k)).take k := by
  subst h
  simp [rowAt]
theorem rowAt_old (n : Int) (zs : List (Int × Int)) (k : Nat) {c : Nat} (pre : List (Fin c)) (h : (pre.length : Int) = n) : rowAt n zs k pre = List.replicate k (3, 0) := by
  subst h
  simp [rowAt]
theorem rowAt_miss (n : Int) (zs : List (Int × Int)) (k : Nat) {c : Nat} (pre : List (Fin c)) (x : Fin c) (h : ¬ (pre.length : Int) = n) : rowAt n zs k (pre ++ [x]) = rowAt n zs k pre := by
  unfold rowAt
  by_cases h0 : 0 ≤ n
  · rw [if_pos h0, if_pos h0]
    by_cases h1 : n.toNat < pre.length
    · rw [List.getElem?_append_left h1]
    · rw [List.getElem?_append_right (by omega), List.getElem?_eq_none (l := pre) (by omega), List.getElem?_eq_none (by simp; omega)]
  · rw [if_neg h0, if_neg h0]
/-- What Pick returns for a number. -/
def pickV (n : Int) (zs : List (Int × Int)) (k c : Nat) : List (Int × Int) := if 0 ≤ n ∧ n < (c : Int) then (zs.drop (n.toNat * k)).take k else List.replicate k (3, 0)
theorem rowAt_end (n : Int) (zs : List (Int × Int)) (k c : Nat) : rowAt n zs k (firstN c c) = pickV n zs k c := by
  unfold rowAt pickV firstN
  by_cases h0 : 0 ≤ n
  · rw [if_pos h0]
    by_cases h1 : n < (c : Int)
    · rw [if_pos ⟨h0, h1⟩]
      have : n.toNat < c := by omega
      simp [this]
    · rw [if_neg (fun h => h1 h.2), List.getElem?_eq_none (by simp; omega)]
  · rw [if_neg h0, if_neg (fun h => h0 h.1)]

/-- The caller's word over the rounds of Pick's loop: g the row, O the box of the row's slice, A the box of the counter, I the box of the index. -/
def PickI (w : World) (n : Int) (zs : List (Int × Int)) (k c g O A : Nat) (pre : List (Fin c)) (W : World) : Prop :=
  (W.cell? ⟨w.heap.size, 1, none⟩ = some (.int .i64 n) ∧ W.cell? ⟨O, 0, none⟩ = some (.slice (some ⟨g, 0, none⟩) k k) ∧ W.cell? ⟨A, 0, none⟩ = some (.int .i64 (pre.length : Int)) ∧ W.frozen? ⟨A, 0, none⟩ = false ∧ RowIs W 23 g (rowAt n zs k pre)) ∧ Below w.heap.size w W
theorem pickI_own (w : World) (n : Int) (zs : List (Int × Int)) (k c g O A B : Nat) (hB : w.heap.size ≤ B) : OwnFrom B (PickI w n zs k c g O A) :=
  OwnFrom.and (Own.from (fun _ _ _ _ hs hg hr => ⟨cell_kept hs.1 hg hr, cell_kept hs.2.1 hg hr, cell_kept hs.2.2.1 hg hr, (frozen_kept hs.2.2.1 hg hr).trans hs.2.2.2.1, row_kept hs.2.2.2.2 hg hr⟩) _) (ownFrom_below (Nat.le_refl _) hB)

set_option maxRecDepth 100000 in
set_option maxHeartbeats 2000000 in
theorem pick_num (b off len cap k c : Nat) (n : Int) (zs : List (Int × Int)) (hz : zs.length = len) (hlen : c * k = len) (h1 : 1 ≤ k) (h2 : k ≤ 8) (h3 : 1 ≤ c) (h4 : c ≤ 6) (h5 : len ≤ 8) (hcap : len ≤ cap) (hbig : cap ≤ 4000000000) (w : World) (h : Lies w b off zs)
    (hn1 : -9999 ≤ n) (hn2 : n ≤ 9999) (hall : allB zs = true) :
    Calls Tryd.prog 22 #[.slice (some ⟨b, off, none⟩) len cap, .int .i64 (k : Int), .agg #[.int .u8 0, .int .i64 n]] w fun e w' => ∃ g : Nat, e = .returned (.tuple #[.slice (some ⟨g, 0, none⟩) k k, .int .i64 0]) ∧ w.heap.size ≤ g ∧ RowIs w' 23 g (pickV n zs k c) ∧ Ext w w' := by
  have F := form_facts k c h1 h2 h3 h4 (by omega)
  rw [hlen] at F
  obtain ⟨F1, F2, F3⟩ := F
  have H0 := fun b w' a1 a2 a3 => within2_any (k : Int) (len : Int) b w' a1 a2 a3
  rw [F1] at H0
  have H0 := Lib.hid H0
  clear F1
  have hc6 : (c : Int) ≤ 6 := by omega
  have hk0 : (1 : Int) ≤ (k : Int) := by omega
  have HL := Lib.hid h; clear h
  have g0 : (0 : Int) ≤ 0 := by omega
  have H1 := fun b w' hl => areCells_some b 0 1 1 [(0, n)] w' rfl (by omega) hl
  rw [show allB [(0, n)] = true by simp [allB, cellB_num n hn1 hn2]] at H1
  have H1 := Lib.hid H1
  have H2 := fun w' hl => areCells_some b off len cap zs w' hz (by omega) hl
  rw [hall] at H2
  have H2 := Lib.hid H2
  have H3 := Lib.hid (fun b w' hl => firstFault_no b 0 1 1 [(0, n)] w' rfl (by omega) hl (fun j hj => by obtain rfl : j = 0 := (by simp at hj; omega); rfl))
  have HZ := Lib.hid hz; clear hz
  have HN := Lib.hid hlen; clear hlen
  clear hall
  have tok1 : True := trivial
  refine (callsIn_wide (n := 5)).1 (callsIn_of_wp_marks Tryd.func22 rfl trivial ?_ rfl); simp only [Tryd.ntmps22, List.size_toArray, List.length_cons, List.length_nil, Nat.reduceAdd, Nat.reduceSub, Array.replicate_succ, Array.replicate_zero, List.push_toArray, List.append_toArray, List.nil_append, List.cons_append]; refine wpIn_wide.2 ?_
  go_wp2_with (first | (go_at_call 52; refine (H0.out _ _ (by first | (simp [go_sem]; done) | omega | (simp; omega)) (by first | (simp [go_sem]; done) | omega | (simp; omega)) (by first | (simp [go_sem]; done) | omega | (simp; omega))).mono ?_; rintro e w1 ⟨rfl, hb1⟩; obtain ⟨hc1, hf1, hs1⟩ := hb1.cells; have hz1_0 : w.heap.size < w1.heap.size := (by have h := hb1.le; (try simp at h); omega); have hc1_0 := hb1.cell (b := w.heap.size) (by first | omega | (simp; done) | (simp; omega)); have hf1_0 := hb1.frozen (b := w.heap.size) (by first | omega | (simp; done) | (simp; omega))) | (go_at_call 46; have _t := tok1; refine (H1.out _ _ (lies1 _ _ _ _ g0 _ (by simp))).mono ?_; rintro e w2 ⟨rfl, hb2⟩; obtain ⟨hc2, hf2, hs2⟩ := hb2.cells; have hz2_0 : w.heap.size < w2.heap.size := (by have h := hb2.le; (try simp at h); omega); have hc2_0 := hb2.cell (b := w.heap.size) (by first | omega | (simp; done) | (simp; omega)); have hf2_0 := hb2.frozen (b := w.heap.size) (by first | omega | (simp; done) | (simp; omega)); clear tok1) | (go_at_call 46; refine (H2.out _ (HL.out.below (by repeat' (first | (with_reducible exact Ext.refl _) | (with_reducible assumption) | (with_reducible refine Ext.alloc ?_ _) | (with_reducible refine Ext.drew ?_) | (with_reducible refine Ext.drewN ?_ _) | (with_reducible refine Ext.setCell ?_ ?_ _) | (with_reducible refine Ext.trans ?_ (by assumption)) | go_size)))).mono ?_; rintro e w3 ⟨rfl, hb3⟩; obtain ⟨hc3, hf3, hs3⟩ := hb3.cells; have hz3_0 : w.heap.size < w3.heap.size := (by have h := hb3.le; (try simp at h); omega); have hc3_0 := hb3.cell (b := w.heap.size) (by first | omega | (simp; done) | (simp; omega)); have hf3_0 := hb3.frozen (b := w.heap.size) (by first | omega | (simp; done) | (simp; omega))) | (go_at_call 54; refine (fault_any _ _).mono ?_; rintro e w4 ⟨rfl, hb4⟩; obtain ⟨hc4, hf4, hs4⟩ := hb4.cells; have hz4_0 : w.heap.size < w4.heap.size := (by have h := hb4.le; (try simp at h); omega); have hc4_0 := hb4.cell (b := w.heap.size) (by first | omega | (simp; done) | (simp; omega)); have hf4_0 := hb4.frozen (b := w.heap.size) (by first | omega | (simp; done) | (simp; omega))) | (go_at_call 53; refine (rep_any 3 0 k h1 h2 _ _ (by first | (simp [go_sem]; done) | omega | (simp; omega)) (by first | (simp [go_sem]; done) | omega | (simp; omega)) (by first | (simp [go_sem]; done) | omega | (simp; omega))).mono ?_; rintro e w5 ⟨g5, rfl, hg5, hr5, hb5⟩; have HR5 := Lib.hid hr5; clear hr5; obtain ⟨hc5, hf5, hs5⟩ := hb5.cells; have hz5_0 : w.heap.size < w5.heap.size := (by have h := hb5.le; (try simp at h); omega); have hc5_0 := hb5.cell (b := w.heap.size) (by first | omega | (simp; done) | (simp; omega)); have hf5_0 := hb5.frozen (b := w.heap.size) (by first | omega | (simp; done) | (simp; omega))) | (go_at_call 47; refine (H3.out _ _ (lies1 _ _ _ _ g0 _ (by simp))).mono ?_; rintro e w6 ⟨rfl, hb6⟩; obtain ⟨hc6, hf6, hs6⟩ := hb6.cells; have hz6_0 : w.heap.size < w6.heap.size := (by have h := hb6.le; (try simp at h); omega); have hc6_0 := hb6.cell (b := w.heap.size) (by first | omega | (simp; done) | (simp; omega)); have hf6_0 := hb6.frozen (b := w.heap.size) (by first | omega | (simp; done) | (simp; omega))) | (go_at_call 55; refine (chunk_any _ _ _ k h1 _).mono ?_; rintro e w' ⟨rfl, rfl⟩))
  have e1 := (cells_one (w := w) (x := .int .u8 0) (y := .int .i64 n) (t := 23) (W := w6) (by repeat' (first | (with_reducible exact Ext.refl _) | (with_reducible assumption) | (with_reducible refine Ext.alloc ?_ _) | (with_reducible refine Ext.drew ?_) | (with_reducible refine Ext.drewN ?_ _) | (with_reducible refine Ext.setCell ?_ ?_ _) | (with_reducible refine Ext.trans ?_ (by assumption)) | go_size))).2
  have e2 : w6.cell? ⟨w5.heap.size, 0, none⟩ = some (.slice (some ⟨g5, 0, none⟩) k k) := (Ext.cell (w := w5.alloc (.cells #[.slice (some ⟨g5, 0, none⟩) k k] 33)) (by repeat' (first | (with_reducible exact Ext.refl _) | (with_reducible assumption) | (with_reducible refine Ext.alloc ?_ _) | (with_reducible refine Ext.drew ?_) | (with_reducible refine Ext.drewN ?_ _) | (with_reducible refine Ext.setCell ?_ ?_ _) | (with_reducible refine Ext.trans ?_ (by assumption)) | go_size)) (by simp) 0).trans (by simp [go_sem])
  have e3 : RowIs w6 23 g5 (List.replicate k (3, 0)) := RowIs.ext (w := w5) (by have h := HR5.out; rw [cellsOf_rep] at h; exact h) (by repeat' (first | (with_reducible exact Ext.refl _) | (with_reducible assumption) | (with_reducible refine Ext.alloc ?_ _) | (with_reducible refine Ext.drew ?_) | (with_reducible refine Ext.drewN ?_ _) | (with_reducible refine Ext.setCell ?_ ?_ _) | (with_reducible refine Ext.trans ?_ (by assumption)) | go_size))
  have L6 : Ext w w6 := (by repeat' (first | (with_reducible exact Ext.refl _) | (with_reducible assumption) | (with_reducible refine Ext.alloc ?_ _) | (with_reducible refine Ext.drew ?_) | (with_reducible refine Ext.drewN ?_ _) | (with_reducible refine Ext.setCell ?_ ?_ _) | (with_reducible refine Ext.trans ?_ (by assumption)) | go_size))
  have hL0 : Ext w ((((w6.alloc (.cells #[.int .u8 0, .int .i64 0] 23)).alloc (.cells #[.int .i64 0] 3)).alloc (.cells #[.slice (some ⟨b, off, none⟩) len cap] 33)).alloc (.cells #[.int .i64 (k : Int)] 3)) := (by repeat' (first | (with_reducible exact Ext.refl _) | (with_reducible assumption) | (with_reducible refine Ext.alloc ?_ _) | (with_reducible refine Ext.drew ?_) | (with_reducible refine Ext.drewN ?_ _) | (with_reducible refine Ext.setCell ?_ ?_ _) | (with_reducible refine Ext.trans ?_ (by assumption)) | go_size))
  have z1 := cell_lt e1
  have z2 := cell_lt e2
  have z3 := e3.lt
  have z4 : w.heap.size < g5 := by have h := hg5; (try simp at h); omega
  have z5 : g5 < w5.heap.size := (Array.getElem?_eq_some_iff.1 HR5.out).1
  clear hc1 hf1 hs1 hz1_0 hc1_0 hf1_0 hc2 hf2 hs2 hz2_0 hc2_0 hf2_0 hc3 hf3 hs3 hz3_0 hc3_0 hf3_0 hc4 hf4 hs4 hz4_0 hc4_0 hf4_0 hc5 hf5 hs5 hz5_0 hc5_0 hf5_0 hc6 hf6 hs6 hz6_0 hc6_0 hf6_0
  refine (wpIn_wide (n := 5)).1 ?_
  refine' wpIn_rangeFunc_ownF (F := Fence.wide) (n := 5) rfl (by omega) (gf := 82) (lb := #[.pointer (some ⟨w6.heap.size + 1 + 1, 0, none⟩), .pointer (some ⟨w6.heap.size + 1 + 1 + 1, 0, none⟩)]) rfl trivial (enters_of Tryd.func82 (by kernel_rfl) rfl)
    (chunk_stops 4 (by omega) (w6.heap.size + 1 + 1) (w6.heap.size + 1 + 1 + 1) b off len cap k c h1 HN.out.symm hcap hbig _ (by simp) (by simp) (by simp [go_sem]) (by simp [go_sem])) KeepsBoxes.trans
    (fun W l o o' hl _ _ _ => ⟨World.putObj_heap_other (by simp at hl; omega), World.putObj_heap_other (by simp at hl; omega)⟩) (Below.refl _ _) (fun _ => rfl)
    (PickI w n zs k c g5 w5.heap.size (w6.heap.size + 1)) (fun _ _ _ => False) (pickI_own _ _ _ _ _ _ _ _ _ hL0.le) (fun _ _ _ _ _ hs _ _ => hs)
    ⟨⟨(Ext.cell (w := w6) (by repeat' (first | (with_reducible exact Ext.refl _) | (with_reducible assumption) | (with_reducible refine Ext.alloc ?_ _) | (with_reducible refine Ext.drew ?_) | (with_reducible refine Ext.drewN ?_ _) | (with_reducible refine Ext.setCell ?_ ?_ _) | (with_reducible refine Ext.trans ?_ (by assumption)) | go_size)) z1 _).trans e1, (Ext.cell (w := w6) (by repeat' (first | (with_reducible exact Ext.refl _) | (with_reducible assumption) | (with_reducible refine Ext.alloc ?_ _) | (with_reducible refine Ext.drew ?_) | (with_reducible refine Ext.drewN ?_ _) | (with_reducible refine Ext.setCell ?_ ?_ _) | (with_reducible refine Ext.trans ?_ (by assumption)) | go_size)) z2 _).trans e2, by simp [go_sem], by simp [go_sem], RowIs.ext (w := w6) (by rw [show rowAt n zs k ([] : List (Fin c)) = List.replicate k (3, 0) by simp [rowAt]]; exact e3) (by repeat' (first | (with_reducible exact Ext.refl _) | (with_reducible assumption) | (with_reducible refine Ext.alloc ?_ _) | (with_reducible refine Ext.drew ?_) | (with_reducible refine Ext.drewN ?_ _) | (with_reducible refine Ext.setCell ?_ ?_ _) | (with_reducible refine Ext.trans ?_ (by assumption)) | go_size))⟩, hL0⟩ _ ?assign ?body ?done ?stop
  case assign =>
    intro l x W K hK
    gi_wp2
    exact hK
  case body =>
    rintro l pre x W ⟨⟨a1, a2, a3, a4, a5⟩, a6⟩ hlt
    have A5 := Lib.hid a5; clear a5
    have A6 := Lib.hid a6; clear a6
    have hlt' : (pre.length : Int) < 9 := by omega
    have hxk : x.val * k + k ≤ zs.length := by
      rw [HZ.out, ← HN.out, ← Nat.succ_mul]
      exact Nat.mul_le_mul_right _ x.isLt
    have hLW : Ext w W := A6.out
    have y1 := cell_lt a1
    have y3 := cell_lt a3
    have q1 : ¬ w.heap.size = g5 := by omega
    have q2 : ¬ w5.heap.size = g5 := by omega
    have q3 : ¬ w6.heap.size + 1 = g5 := by omega
    have q4 : ¬ w6.heap.size + 1 + 1 = g5 := by omega
    have q5 : ¬ w6.heap.size + 1 + 1 + 1 = g5 := by omega
    by_cases hn : (pre.length : Int) = n
    · have hb' : ((pre.length : Int) == n) = true := by simp [hn]
      have A7 := Lib.hid (show W.heap[g5]? = some (.cells (cellsOf (List.replicate k (3, 0))).toArray 23 (0, 0)) by
        have := A5.out; rw [rowAt_old n zs k pre hn] at this; exact this)
      have hpart := Lib.hid (show ((zs.drop (x.val * k)).take k).length = k by simp; omega)
      have hsrc := Lib.hid (lies_part (HL.out.below hLW) (x.val * k) k hxk)
      rw [show off + x.val * k * 2 = off + (x.val * k) * 2 from rfl]
      generalize hcs : (zs.drop (x.val * k)).take k = part at hpart hsrc
      have HCS := Lib.hid hcs; clear hcs
      have hn := Lib.hid hn
      gi_wp2_with (with_reducible refine wpListIn_copy_rowK rfl (.tmp 65) (.tmp 66) 33 33 rfl 23 2 Tryd.underlying33 sizeV g5 0 k k ⟨b, off + x.val * k * 2, none⟩ k k rfl rfl (cellsOf (List.replicate k (3, 0))) 23 A7.out (cellsOf part) k k (Nat.min_self k) rfl (by rw [cellsOf_length, hpart.out]) hsrc.out (by rw [cellsOf_length, cellsOf_length, hpart.out]; simp) (cellsOf_one _) ?_; intro W2 hW2; have p1 := (congrArg (fun X : World => X.cell? ⟨w6.heap.size + 1, 0, none⟩) hW2.out).trans ((cell_setRow_other W g5 _ ⟨w6.heap.size + 1, 0, none⟩ q3).trans a3); have p2 := (congrArg (fun X : World => X.frozen? ⟨w6.heap.size + 1, 0, none⟩) hW2.out).trans ((World.frozen?_of_block (w := W) (a := ⟨w6.heap.size + 1, 0, none⟩) (setRow_other W g5 _ _ q3)).trans a4))
      have hrow := setRow_heap W g5 _ (splice (cellsOf (List.replicate k (3, 0))) 0 (cellsOf part)).toArray _ _ A7.out
      rw [← hW2.out, splice_all _ _ (by rw [cellsOf_length, cellsOf_length, hpart.out]; simp)] at hrow
      have hoth : ∀ j, j ≠ g5 → W2.heap[j]? = W.heap[j]? := fun j hj => by rw [hW2.out]; exact setRow_other W g5 j _ hj
      refine ⟨KeepsOthers.trans (by rw [hW2.out]; exact keepsOthers_setRow W g5 _ A7.out) (KeepsOthers.setCell _ _ _), ⟨(Below.heap_setCell _ _ _ _ (by first | (simp [go_sem]; done) | omega | (simp; omega))).trans (hoth _ q4), (Below.heap_setCell _ _ _ _ (by first | (simp [go_sem]; done) | omega | (simp; omega))).trans (hoth _ q5)⟩, ⟨?_, ?_, ?_, ?_, ?_⟩, ?_⟩
      · exact (World.cell?_of_block (w := W2) (a := ⟨w.heap.size, 1, none⟩) (Below.heap_setCell W2 _ _ _ (by first | (simp [go_sem]; done) | omega | (simp; omega)))).trans ((World.cell?_of_block (w := W) (a := ⟨w.heap.size, 1, none⟩) (hoth _ q1)).trans a1)
      · exact (World.cell?_of_block (w := W2) (a := ⟨w5.heap.size, 0, none⟩) (Below.heap_setCell W2 _ _ _ (by first | (simp [go_sem]; done) | omega | (simp; omega)))).trans ((World.cell?_of_block (w := W) (a := ⟨w5.heap.size, 0, none⟩) (hoth _ q2)).trans a2)
      · rw [World.cell?_setCell_same' W2 _ _ (by rw [show W2.cell? ⟨w6.heap.size + 1, 0, none⟩ = _ from p1]; rfl), List.length_append]; simp; exact hn.out.symm
      · rw [World.frozen?_setCell]; exact p2
      · rw [rowAt_hit n zs k pre x hn.out, HCS.out]
        exact (Below.heap_setCell _ _ _ _ (fun e => q3 e.symm)).trans hrow
      · exact Below.setCell (by rw [hW2.out]; exact below_setRow A6.out (by omega) _) (p := ⟨w6.heap.size + 1, 0, none⟩) (by first | (simp [go_sem]; done) | omega | (simp; omega)) _
    · have hb' : ((pre.length : Int) == n) = false := by simp [hn]
      gi_wp2
      refine ⟨KeepsOthers.setCell _ _ _, ⟨Below.heap_setCell _ _ _ _ (by first | (simp [go_sem]; done) | omega | (simp; omega)), Below.heap_setCell _ _ _ _ (by first | (simp [go_sem]; done) | omega | (simp; omega))⟩, ⟨?_, ?_, ?_, ?_, ?_⟩, ?_⟩
      · exact (World.cell?_of_block (w := W) (a := ⟨w.heap.size, 1, none⟩) (Below.heap_setCell W _ _ _ (by first | (simp [go_sem]; done) | omega | (simp; omega)))).trans a1
      · exact (World.cell?_of_block (w := W) (a := ⟨w5.heap.size, 0, none⟩) (Below.heap_setCell W _ _ _ (by first | (simp [go_sem]; done) | omega | (simp; omega)))).trans a2
      · rw [World.cell?_setCell_same' W _ _ (by rw [a3]; rfl), List.length_append]; simp
      · rw [World.frozen?_setCell]; exact a4
      · rw [rowAt_miss n zs k pre x hn]
        exact (Below.heap_setCell _ _ _ _ (fun e => q3 e.symm)).trans A5.out
      · exact Below.setCell A6.out (p := ⟨w6.heap.size + 1, 0, none⟩) (by first | (simp [go_sem]; done) | omega | (simp; omega)) _
  case done =>
    rintro D xs W hD rfl ⟨⟨a1, a2, a3, a4, a5⟩, a6⟩ hK
    have A5 := Lib.hid a5; clear a5
    have A6 := Lib.hid a6; clear a6
    have hK' := Lib.hid hK; clear hK
    clear a1 a3 a4
    go_wp2
    refine ⟨by simp, .inl ⟨_, _, rfl, run_takeDeferred hK'.out, ?_⟩⟩
    simp at hD
    refine ⟨_, results_tmp2 rfl _ _ _, ⟨g5, rfl, by omega, ?_, A6.out.trans (belowK_b (w := w) (Nat.le_refl _) W D _ _ (by omega) hK'.out rfl rfl)⟩⟩
    have h5 := A5.out
    rw [rowAt_end] at h5
    exact (World.putObj_heap_other (by omega)).trans h5
  case stop =>
    rintro D c' pre W _ _ h _
    exact h.elim
end Go.Proofs.YtaddlhebhiehgaaDoor
