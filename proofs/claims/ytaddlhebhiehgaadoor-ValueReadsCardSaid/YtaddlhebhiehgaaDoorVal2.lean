/-
  The walks of package value, second part: whether all of some are cells, the first fault, the cell of an integer.
-/
import Derived.Test.YtaddlhebhiehgaaDoorVal1
namespace Go.Proofs.YtaddlhebhiehgaaDoor
open Go.RowKit Go.Shelf

theorem lies1 (w : World) (t : TypeId) (f n : Int) (h : 0 ≤ f) (b : Nat) (hb : b = w.heap.size) : Lies (w.alloc (.cells #[.int .u8 f, .int .i64 n] t)) b 0 [(f, n)] := by
  subst hb
  refine ⟨by simp, fun j hj => ?_⟩
  obtain rfl : j = 0 := by simp at hj; omega
  exact ⟨h, by simp [go_sem], by simp [go_sem]⟩
theorem lies2 (w : World) (t : TypeId) (f n f2 n2 : Int) (h : 0 ≤ f) (h2 : 0 ≤ f2) (b : Nat) (hb : b = w.heap.size) : Lies (w.alloc (.cells #[.int .u8 f, .int .i64 n, .int .u8 f2, .int .i64 n2] t)) b 0 [(f, n), (f2, n2)] := by
  subst hb
  refine ⟨by simp, fun j hj => ?_⟩
  match j, hj with
  | 0, _ => exact ⟨h, by simp [go_sem], by simp [go_sem]⟩
  | 1, _ => exact ⟨h2, by simp [go_sem], by simp [go_sem]⟩
  | j + 2, hj => simp at hj; omega
theorem lies3 (w : World) (t : TypeId) (f n f2 n2 f3 n3 : Int) (h : 0 ≤ f) (h2 : 0 ≤ f2) (h3 : 0 ≤ f3) (b : Nat) (hb : b = w.heap.size) : Lies (w.alloc (.cells #[.int .u8 f, .int .i64 n, .int .u8 f2, .int .i64 n2, .int .u8 f3, .int .i64 n3] t)) b 0 [(f, n), (f2, n2), (f3, n3)] := by
  subst hb
  refine ⟨by simp, fun j hj => ?_⟩
  match j, hj with
  | 0, _ => exact ⟨h, by simp [go_sem], by simp [go_sem]⟩
  | 1, _ => exact ⟨h2, by simp [go_sem], by simp [go_sem]⟩
  | 2, _ => exact ⟨h3, by simp [go_sem], by simp [go_sem]⟩
  | j + 3, hj => simp at hj; omega

def allB (zs : List (Int × Int)) : Bool := zs.all fun z => cellB z.1 z.2
theorem idxP_all (zs : List (Int × Int)) : decide (0 ≤ idxP (fun f n => !cellB f n) zs) = !allB zs := by
  unfold idxP allB
  cases h : zs.findIdx? (fun z => !cellB z.1 z.2) with
  | none =>
    rw [List.findIdx?_eq_none_iff] at h
    have : (zs.all fun z => cellB z.1 z.2) = true := by
      rw [List.all_eq_true]; intro x hx; have := h x hx; simpa using this
    rw [this]; rfl
  | some i =>
    rw [List.findIdx?_eq_some_iff_getElem] at h
    obtain ⟨hi, hp, _⟩ := h
    have : (zs.all fun z => cellB z.1 z.2) = false := by
      rw [List.all_eq_false]; exact ⟨_, List.getElem_mem hi, by simpa using hp⟩
    rw [this]
    simp

theorem containsFunc_some (p : Int → Int → Bool) (g : Nat) (eg : ∀ args w, (callFunc g args).run Tryd.prog w = .ok (.enter g args) w)
    (hp : ∀ (f n : Int) (W : World), 0 ≤ f → Calls Tryd.prog g #[.agg #[.int .u8 f, .int .i64 n]] W fun e w' => e = .returned (.bool (p f n)) ∧ Ext W w')
    (b off n c : Nat) (zs : List (Int × Int)) (w : World) (hn : zs.length = n) (hbig : n ≤ 9223372036854775807) (h : Lies w b off zs) :
    Calls Tryd.prog 75 #[.slice (some ⟨b, off, none⟩) n c, .func (.func g) #[] #[]] w fun e w' => e = .returned (.bool (decide (0 ≤ idxP p zs))) ∧ Ext w w' := by
  have H := fun w' h => indexFunc_some p g eg hp b off n c zs w' hn hbig h
  clear hp hn
  have H := Lib.hid H
  go_enter Tryd.func75, Tryd.ntmps75
  go_wp2_with (go_at_call 77; refine (H.out _ (h.below (by repeat' (first | (with_reducible exact Ext.refl _) | (with_reducible assumption) | (with_reducible refine Ext.alloc ?_ _) | (with_reducible refine Ext.drew ?_) | (with_reducible refine Ext.drewN ?_ _) | (with_reducible refine Ext.setCell ?_ ?_ _) | (with_reducible refine Ext.trans ?_ (by assumption)) | go_size)))).mono ?_; rintro e w' ⟨rfl, hb'⟩)
  go_returns
  exact ⟨rfl, hb'⟩

theorem enters76 : ∀ args w, (callFunc 76 args).run Tryd.prog w = .ok (.enter 76 args) w := enters_of Tryd.func76 (by kernel_rfl) rfl
theorem enters78 : ∀ args w, (callFunc 78 args).run Tryd.prog w = .ok (.enter 78 args) w := enters_of Tryd.func78 (by kernel_rfl) rfl

theorem areCells_some (b off n c : Nat) (zs : List (Int × Int)) (w : World) (hn : zs.length = n) (hbig : n ≤ 9223372036854775807) (h : Lies w b off zs) :
    Calls Tryd.prog 46 #[.slice (some ⟨b, off, none⟩) n c] w fun e w' => e = .returned (.bool (allB zs)) ∧ Ext w w' := by
  have H := Lib.hid (fun w' h => containsFunc_some (fun f n => !cellB f n) 76 enters76 (fun f n W h0 => areCells1_any f n h0 W) b off n c zs w' hn hbig h)
  clear hn
  go_enter Tryd.func46, Tryd.ntmps46
  go_wp2_with (go_at_call 75; refine (H.out _ (h.below (by repeat' (first | (with_reducible exact Ext.refl _) | (with_reducible assumption) | (with_reducible refine Ext.alloc ?_ _) | (with_reducible refine Ext.drew ?_) | (with_reducible refine Ext.drewN ?_ _) | (with_reducible refine Ext.setCell ?_ ?_ _) | (with_reducible refine Ext.trans ?_ (by assumption)) | go_size)))).mono ?_; rintro e w' ⟨rfl, hb'⟩)
  go_returns
  exact ⟨by simp [idxP_all], hb'⟩
theorem areCells_none (a : Option Addr) (c : Nat) (w : World) :
    Calls Tryd.prog 46 #[.slice a 0 c] w fun e w' => e = .returned (.bool true) ∧ Ext w w' := by
  go_enter Tryd.func46, Tryd.ntmps46
  go_wp2
  go_rounds 1
  go_returns
  exact ⟨rfl, (by repeat' (first | (with_reducible exact Ext.refl _) | (with_reducible assumption) | (with_reducible refine Ext.alloc ?_ _) | (with_reducible refine Ext.drew ?_) | (with_reducible refine Ext.drewN ?_ _) | (with_reducible refine Ext.setCell ?_ ?_ _) | (with_reducible refine Ext.trans ?_ (by assumption)) | go_size))⟩

def ffF (zs : List (Int × Int)) : Int := match zs.find? fun z => z.1 != 0 with | some z => z.1 | none => 0
def ffN (zs : List (Int × Int)) : Int := match zs.find? fun z => z.1 != 0 with | some z => z.2 | none => 0
def ffB (zs : List (Int × Int)) : Bool := zs.any fun z => z.1 != 0

theorem firstFault_no (b off n c : Nat) (zs : List (Int × Int)) (w : World) (hn : zs.length = n) (hbig : n ≤ 9223372036854775807) (h : Lies w b off zs) (hno : ∀ j, j < zs.length → (zs[j]!).1 = 0) :
    Calls Tryd.prog 47 #[.slice (some ⟨b, off, none⟩) n c] w fun e w' => e = .returned (.tuple #[.agg #[.int .u8 0, .int .i64 0], .bool false]) ∧ Ext w w' := by
  have hi := idxP_miss (fun f _ => f != 0) zs (fun j hj => by simpa using hno j hj)
  have H := fun w' h => indexFunc_some (fun f _ => f != 0) 78 enters78 (fun f n W _ => firstFault1_any f n W) b off n c zs w' hn hbig h
  rw [hi] at H
  have H := Lib.hid H
  clear hn hi hno
  go_enter Tryd.func47, Tryd.ntmps47
  go_wp2_with (go_at_call 77; refine (H.out _ (h.below (by repeat' (first | (with_reducible exact Ext.refl _) | (with_reducible assumption) | (with_reducible refine Ext.alloc ?_ _) | (with_reducible refine Ext.drew ?_) | (with_reducible refine Ext.drewN ?_ _) | (with_reducible refine Ext.setCell ?_ ?_ _) | (with_reducible refine Ext.trans ?_ (by assumption)) | go_size)))).mono ?_; rintro e w' ⟨rfl, hb'⟩; obtain ⟨hc1, hf1, hs1⟩ := hb'.cells)
  refine bodyPost_ret (v := .tuple #[.agg #[.int .u8 0, .int .i64 0], .bool false]) (by simp [results, Tryd.results47, go_sem, *]) rfl ⟨rfl, (by repeat' (first | (with_reducible exact Ext.refl _) | (with_reducible assumption) | (with_reducible refine Ext.alloc ?_ _) | (with_reducible refine Ext.drew ?_) | (with_reducible refine Ext.drewN ?_ _) | (with_reducible refine Ext.setCell ?_ ?_ _) | (with_reducible refine Ext.trans ?_ (by assumption)) | go_size))⟩

theorem firstFault_yes (b off n c : Nat) (zs : List (Int × Int)) (w : World) (hn : zs.length = n) (hbig : n ≤ 9223372036854775807) (h : Lies w b off zs) (k : Nat) (f m : Int) (hk : k < zs.length) (hz : zs[k]! = (f, m)) (hf : ¬ f = 0) (hno : ∀ j, j < k → (zs[j]!).1 = 0) :
    Calls Tryd.prog 47 #[.slice (some ⟨b, off, none⟩) n c] w fun e w' => e = .returned (.tuple #[.agg #[.int .u8 f, .int .i64 m], .bool true]) ∧ Ext w w' := by
  have hi := idxP_hit (fun f _ => f != 0) zs k hk (by rw [hz]; simpa using hf) (fun j hj => by simpa using hno j hj)
  have H := fun w' h => indexFunc_some (fun f _ => f != 0) 78 enters78 (fun f n W _ => firstFault1_any f n W) b off n c zs w' hn hbig h
  rw [hi] at H
  have H := Lib.hid H
  obtain ⟨_, g0, g1⟩ := h.2 k hk
  rw [hz] at g0 g1
  simp only at g0 g1
  have hkn : (k : Int) < (n : Int) := by omega
  have hb0 := h.1
  have h := Lib.hid h
  clear hn hi hno hz hf
  go_enter Tryd.func47, Tryd.ntmps47
  go_wp2_with (go_at_call 77; refine (H.out _ (h.out.below (by repeat' (first | (with_reducible exact Ext.refl _) | (with_reducible assumption) | (with_reducible refine Ext.alloc ?_ _) | (with_reducible refine Ext.drew ?_) | (with_reducible refine Ext.drewN ?_ _) | (with_reducible refine Ext.setCell ?_ ?_ _) | (with_reducible refine Ext.trans ?_ (by assumption)) | go_size)))).mono ?_; rintro e w1 ⟨rfl, hb1⟩; obtain ⟨hc1, hf1, hs1⟩ := hb1.cells)
  refine bodyPost_ret (v := .tuple #[.agg #[.int .u8 f, .int .i64 m], .bool true]) (by simp [results, Tryd.results47, go_sem, *]) rfl ⟨rfl, (by repeat' (first | (with_reducible exact Ext.refl _) | (with_reducible assumption) | (with_reducible refine Ext.alloc ?_ _) | (with_reducible refine Ext.drew ?_) | (with_reducible refine Ext.drewN ?_ _) | (with_reducible refine Ext.setCell ?_ ?_ _) | (with_reducible refine Ext.trans ?_ (by assumption)) | go_size))⟩
end Go.Proofs.YtaddlhebhiehgaaDoor
