/-
  Plain words of my own that the walks over this seat share: how a cell of the language stands as a value, small laws on 'Below'. Nothing of the program is named here.
-/
import Derived.WalkKit
import Derived.WalkSpells
import Derived.WalkLawsBesides
import Derived.Handy
import Derived.Lib.Hide
import Derived.Deep.RegionHeld3
import Derived.Deep.DeepCutAuto
import Derived.Shelf.Abstract
import Derived.Deep.LoopGhost
import Derived.BigQuiet
import Derived.Deep.QuietTactic
namespace Go.Proofs.YtaddlhebhiehgaaDoor
open Go.RowKit

theorem setCell_same_block {w : World} {p : Addr} {u : Value} (hc : w.cell? p = some u) (k : Nat) : (w.setCell p u).heap[k]? = w.heap[k]? := by
  simp only [World.setCell, Array.getElem?_modify]
  by_cases hk : p.block = k
  · rw [if_pos hk]
    subst hk
    unfold World.cell? at hc
    cases ho : w.heap[p.block]? with
    | none => rfl
    | some o =>
      cases o with
      | cells c t fr =>
        rw [ho] at hc
        simp only at hc
        by_cases hs : p.spot.isSome
        · simp [hs]
        · rw [if_neg hs] at hc
          simp only [Option.map_some, if_neg hs]
          obtain ⟨hlt, hv⟩ := Array.getElem?_eq_some_iff.1 hc
          rw [show c.setIfInBounds p.off u = c from by
            apply Array.ext
            · simp
            · intro i h1 h2
              rw [Array.getElem_setIfInBounds]
              split
              · next e => subst e; exact hv.symm
              · rfl]
      | _ => rfl
  · rw [if_neg hk]
/-- A world in which a cell is stored that it holds already is as it was. -/
theorem below_setCell_same {B : Nat} {a w : World} {p : Addr} {u : Value} (h : Below B a w) (hc : w.cell? p = some u) : Below B a (w.setCell p u) := by
  exact h.trans ⟨rfl, rfl, rfl, by simp [World.setCell], fun k _ => setCell_same_block hc k⟩
/-- THE RELATION OF ALL CONTRACTS: of what lay in w nothing has turned. -/
def Ext (w w' : World) : Prop := Below w.heap.size w w'
theorem Ext.refl (w : World) : Ext w w := Below.refl _ _
theorem Ext.le {w w' : World} (h : Ext w w') : w.heap.size ≤ w'.heap.size := Below.size h
theorem Ext.trans {a b c : World} (h : Ext a b) (k : Ext b c) : Ext a c := Below.trans h (Below.mono k h.le)
theorem Ext.alloc {a w : World} (h : Ext a w) (o : Obj) : Ext a (w.alloc o) := Below.alloc h h.le o
theorem Ext.drew {a w : World} (h : Ext a w) : Ext a w.drew := Below.drew h
theorem Ext.drewN {a w : World} (h : Ext a w) (n : Nat) : Ext a (w.drewN n) := ⟨h.os, h.tape, h.output, h.size, h.block⟩
theorem Ext.setCell {a w : World} (h : Ext a w) {p : Addr} (hp : a.heap.size ≤ p.block) (u : Value) : Ext a (w.setCell p u) := Below.setCell h hp u
theorem Ext.setCell_same {a w : World} (h : Ext a w) {p : Addr} {u : Value} (hc : w.cell? p = some u) : Ext a (w.setCell p u) := below_setCell_same h hc
theorem Ext.cell {w w' : World} (h : Ext w w') {b : Nat} (hb : b < w.heap.size) (o : Nat) : w'.cell? ⟨b, o, none⟩ = w.cell? ⟨b, o, none⟩ := Below.cell (p := ⟨b, o, none⟩) h hb
theorem Ext.frozen {w w' : World} (h : Ext w w') {b : Nat} (hb : b < w.heap.size) (o : Nat) : w'.frozen? ⟨b, o, none⟩ = w.frozen? ⟨b, o, none⟩ := Below.frozen (p := ⟨b, o, none⟩) h hb
theorem Ext.cells {w w' : World} (h : Ext w w') : (∀ b o, b < w.heap.size → w'.cell? ⟨b, o, none⟩ = w.cell? ⟨b, o, none⟩) ∧ (∀ b o, b < w.heap.size → w'.frozen? ⟨b, o, none⟩ = w.frozen? ⟨b, o, none⟩) ∧ w.heap.size ≤ w'.heap.size :=
  ⟨fun _ _ hb => h.cell hb _, fun _ _ hb => h.frozen hb _, h.le⟩
end Go.Proofs.YtaddlhebhiehgaaDoor
