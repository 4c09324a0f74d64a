/-
  What the laws on numbers share: boxes, variables that a region makes, the kit and three numbers.
-/
import Derived.Test.YtaddlhebhiehgaaDoorKit7
import Derived.Deep.DeepCutAuto
import Derived.Test.YtaddlhebhiehgaaDoorRegInv
import Derived.Test.YtaddlhebhiehgaaDoorRegSeq
namespace Go.Proofs.YtaddlhebhiehgaaDoor.lawSums
open Go.RowKit Go.Shelf

theorem tmod_bd (x : Int) : -9999 ≤ x.tmod 10000 ∧ x.tmod 10000 ≤ 9999 := by
  have h := (Go.Proofs.YtaddlhebhiehgaaDoor.tmod_bd x 10000 (by omega)).1 (by omega)
  omega
theorem mk_cases (n : Int) : (mkF n = 0 ∧ mkN n = n ∧ -9999 ≤ n ∧ n ≤ 9999) ∨ (mkF n = 2 ∧ mkN n = 0 ∧ ¬ (-9999 ≤ n ∧ n ≤ 9999)) := by
  unfold mkF mkN
  by_cases h : -9999 ≤ n ∧ n ≤ 9999
  · rw [if_pos h, if_pos h]; exact .inl ⟨rfl, rfl, h.1, h.2⟩
  · rw [if_neg h, if_neg h]; exact .inr ⟨rfl, rfl, h⟩

def Box (W : World) (g : Nat) (f n : Int) : Prop := W.cell? ⟨g, 0, none⟩ = some (.int .u8 f) ∧ W.cell? ⟨g, 1, none⟩ = some (.int .i64 n)
theorem Box.lt {W : World} {g : Nat} {f n : Int} (h : Box W g f n) : g < W.heap.size := cell_lt h.1
theorem Box.ext {W W' : World} {g : Nat} {f n : Int} (h : Box W g f n) (he : Ext W W') : Box W' g f n := ⟨(he.cell h.lt 0).trans h.1, (he.cell h.lt 1).trans h.2⟩
/-- Two cells that may be written. -/
def Own (W : World) (g : Nat) (f n : Int) : Prop := Box W g f n ∧ W.frozen? ⟨g, 0, none⟩ = false ∧ W.frozen? ⟨g, 1, none⟩ = false
theorem Own.ext {W W' : World} {g : Nat} {f n : Int} (h : Own W g f n) (he : Ext W W') : Own W' g f n := ⟨h.1.ext he, (he.frozen h.1.lt 0).trans h.2.1, (he.frozen h.1.lt 1).trans h.2.2⟩
theorem Own.set {w : World} {g : Nat} {x y f n : Int} (h : Own w g x y) : Own ((w.setCell ⟨g, 0, none⟩ (.int .u8 f)).setCell ⟨g, 1, none⟩ (.int .i64 n)) g f n := by
  obtain ⟨⟨d0, d1⟩, f0, f1⟩ := h
  have z := cell_lt d0
  exact ⟨⟨by simp [go_sem, d0], by simp [go_sem, d1]⟩, by simp [go_sem, f0], by simp [go_sem, f1]⟩
theorem Own.far {w : World} {g h : Nat} {x y f n : Int} (H : Own w h x y) (hne : ¬ h = g) : Own ((w.setCell ⟨g, 0, none⟩ (.int .u8 f)).setCell ⟨g, 1, none⟩ (.int .i64 n)) h x y := by
  obtain ⟨⟨d0, d1⟩, f0, f1⟩ := H
  have hne' : ¬ g = h := fun e => hne e.symm
  exact ⟨⟨by simp [go_sem, d0], by simp [go_sem, d1]⟩, by simp [go_sem, f0], by simp [go_sem, f1]⟩
/-- A variable that a region makes (la: it is made; ls: it is written). -/
def Slot (W0 W : World) (v : Value) (la ls : Bool) (f n : Int) : Prop := (ls = true → la = true) ∧ (la = true → ∃ (g : Nat) (x y : Int), v = .pointer (some ⟨g, 0, none⟩) ∧ W0.heap.size ≤ g ∧ Own W g x y ∧ (ls = true → x = f ∧ y = n))
theorem Slot.ext {W0 W W' : World} {v : Value} {la ls : Bool} {f n : Int} (h : Slot W0 W v la ls f n) (he : Ext W W') : Slot W0 W' v la ls f n := ⟨h.1, fun hl => by
  obtain ⟨g, x, y, h1, h2, h3, h4⟩ := h.2 hl
  exact ⟨g, x, y, h1, h2, h3.ext he, h4⟩⟩
theorem Slot.fresh {W0 W : World} {v : Value} {la ls : Bool} {f n : Int} (h : Slot W0 W v la ls f n) (hl : la = true) : (.pointer (some ⟨W.heap.size, 0, none⟩) : Value) ≠ v := fun e => by
  obtain ⟨g, x, y, h1, _, h3, _⟩ := h.2 hl
  rw [h1] at e
  have h5 := h3.1.lt
  injection e with e
  injection e with e
  injection e with e
  omega
theorem own_new (w : World) (t : TypeId) : Own (w.alloc (.cells #[.int .u8 0, .int .i64 0] t)) w.heap.size 0 0 := ⟨⟨by simp [go_sem], by simp [go_sem]⟩, by simp [go_sem], by simp [go_sem]⟩
theorem Slot.make {W0 W : World} {v : Value} {la ls la' ls' : Bool} {f n : Int} (t : TypeId) (he : Ext W0 W) (h : Slot W0 W v la ls f n) (hl : la = false) (e1 : la' = true) (e2 : ls' = ls) :
    Slot W0 (W.alloc (.cells #[.int .u8 0, .int .i64 0] t)) (.pointer (some ⟨W.heap.size, 0, none⟩)) la' ls' f n := by
  subst e1; subst e2
  have hn : ls' = true → False := fun hs => by rw [h.1 hs] at hl; cases hl
  exact ⟨fun _ => rfl, fun _ => ⟨_, 0, 0, rfl, he.le, own_new _ _, fun hs => (hn hs).elim⟩⟩
theorem Slot.far {W0 W : World} {v : Value} {la ls : Bool} {f n p q : Int} {g : Nat} (h : Slot W0 W v la ls f n) (hne : la = true → (.pointer (some ⟨g, 0, none⟩) : Value) ≠ v) :
    Slot W0 ((W.setCell ⟨g, 0, none⟩ (.int .u8 p)).setCell ⟨g, 1, none⟩ (.int .i64 q)) v la ls f n := ⟨h.1, fun hl => by
  obtain ⟨b, x, y, rfl, h2, h3, h4⟩ := h.2 hl
  exact ⟨b, x, y, rfl, h2, h3.far (fun e => hne hl (by rw [e])), h4⟩⟩
/-- The kit and three numbers, as the law lays them at its beginning. -/
def StartAt (W : World) (kb ga gb gc : Nat) (a b c : Int) : Prop := KitAt W kb ∧ Box W ga 0 a ∧ Box W gb 0 b ∧ Box W gc 0 c
theorem StartAt.ext {W W' : World} {kb ga gb gc : Nat} {a b c : Int} (h : StartAt W kb ga gb gc a b c) (he : Ext W W') : StartAt W' kb ga gb gc a b c := ⟨h.1.ext he, h.2.1.ext he, h.2.2.1.ext he, h.2.2.2.ext he⟩
theorem mk_cell (n : Int) : 0 ≤ mkF n ∧ cellB (mkF n) (mkN n) = true := by
  rcases mk_cases n with ⟨h1, h2, h3, h4⟩ | ⟨h1, h2, h3⟩
  · rw [h1, h2]; exact ⟨by omega, cellB_num n h3 h4⟩
  · rw [h1, h2]; exact ⟨by omega, cellB_bad 2 (by omega) (by omega)⟩
theorem cell_zero {n : Int} (h : cellB 0 n = true) : -9999 ≤ n ∧ n ≤ 9999 := by simpa [cellB] using h
/-- What the sum of two cells is, whatever they are. -/
theorem add_cells (f1 n1 f2 n2 : Int) (g1 : 0 ≤ f1) (g2 : 0 ≤ f2) (c1 : cellB f1 n1 = true) (c2 : cellB f2 n2 = true) :
    ∃ rf rn : Int, Hid (∀ w', Calls Tryd.prog 14 #[.int .u8 7, .agg #[.int .u8 f1, .int .i64 n1], .agg #[.int .u8 f2, .int .i64 n2]] w' fun e w'' => e = .returned (.tuple #[.agg #[.int .u8 rf, .int .i64 rn], .int .i64 0]) ∧ Ext w' w'') ∧
      (rf = 0 → f1 = 0 ∧ f2 = 0 ∧ rn = n1 + n2) := by
  by_cases h1 : f1 = 0
  · subst h1
    by_cases h2 : f2 = 0
    · subst h2
      obtain ⟨a1, a2⟩ := cell_zero c1
      obtain ⟨b1, b2⟩ := cell_zero c2
      refine ⟨mkF (n1 + n2), mkN (n1 + n2), Lib.hid (fun w' => op2_num7 n1 n2 a1 a2 b1 b2 w'), fun h => ⟨rfl, rfl, ?_⟩⟩
      rcases mk_cases (n1 + n2) with ⟨_, h2, _⟩ | ⟨h1, _⟩
      · exact h2
      · omega
    · exact ⟨f2, n2, Lib.hid (fun w' => op2_faultB 7 n1 f2 n2 (by omega) (by omega) g2 c1 c2 h2 w'), fun h => absurd h h2⟩
  · exact ⟨f1, n1, Lib.hid (fun w' => op2_faultA 7 f1 n1 f2 n2 (by omega) (by omega) g1 g2 c1 c2 h1 w'), fun h => absurd h h1⟩
end Go.Proofs.YtaddlhebhiehgaaDoor.lawSums
