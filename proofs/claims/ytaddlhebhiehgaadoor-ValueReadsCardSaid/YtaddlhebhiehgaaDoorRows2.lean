/-
  Rows of cells in memory, element by element. No program stands here.
-/
import Derived.Test.YtaddlhebhiehgaaDoorVal14
namespace Go.Proofs.YtaddlhebhiehgaaDoor
open Go.RowKit

/-- The values that a list of cells lies as. -/
def cellsOf (zs : List (Int × Int)) : List Value := zs.flatMap fun z => [.int .u8 z.1, .int .i64 z.2]
theorem cellsOf_length (zs : List (Int × Int)) : (cellsOf zs).length = zs.length * 2 := by
  induction zs with
  | nil => rfl
  | cons z zs ih => simp only [cellsOf, List.flatMap_cons, List.length_append, List.length_cons, List.length_nil] at ih ⊢; omega
theorem cellsOf_get (zs : List (Int × Int)) : ∀ i, i < zs.length → (cellsOf zs)[i * 2]? = some (.int .u8 (zs[i]!).1) ∧ (cellsOf zs)[i * 2 + 1]? = some (.int .i64 (zs[i]!).2) := by
  induction zs with
  | nil => intro i hi; simp at hi
  | cons z zs ih =>
    intro i hi
    cases i with
    | zero => exact ⟨rfl, rfl⟩
    | succ i =>
      have hlt : i < zs.length := by simp at hi; omega
      have h := ih i hlt
      have e1 : (cellsOf (z :: zs))[(i + 1) * 2]? = (cellsOf zs)[i * 2]? := by
        rw [show (i + 1) * 2 = i * 2 + 1 + 1 by omega]; rfl
      have e2 : (cellsOf (z :: zs))[(i + 1) * 2 + 1]? = (cellsOf zs)[i * 2 + 1]? := by
        rw [show (i + 1) * 2 + 1 = i * 2 + 1 + 1 + 1 by omega]; rfl
      rw [e1, e2]
      simpa [hlt] using h
theorem cellsOf_one (zs : List (Int × Int)) : ∀ v ∈ cellsOf zs, v.oneCell' = true := by
  intro v hv
  simp only [cellsOf, List.mem_flatMap] at hv
  obtain ⟨z, _, hv⟩ := hv
  simp at hv
  rcases hv with rfl | rfl <;> rfl
theorem cellsOf_rep (f n : Int) (k : Nat) : repRow [.int .u8 f, .int .i64 n] ZV k k = cellsOf (List.replicate k (f, n)) := by
  unfold repRow cellsOf
  rw [Nat.sub_self, List.replicate_zero, List.flatten_nil, List.append_nil]
  induction k with
  | zero => rfl
  | succ k ih => rw [List.replicate_succ, List.flatten_cons, List.replicate_succ, List.flatMap_cons, ih]
/-- Cells of a part of a list that lies in memory. -/
theorem lies_part {w : World} {b off : Nat} {zs : List (Int × Int)} (h : Lies w b off zs) (m k : Nat) (hm : m + k ≤ zs.length) :
    ∀ j v, (cellsOf ((zs.drop m).take k))[j]? = some v → w.cell? (Addr.add ⟨b, off + m * 2, none⟩ j) = some v := by
  intro j v hj
  have hl : ((zs.drop m).take k).length = k := by simp; omega
  have hlt : j < k * 2 := by
    have := (List.getElem?_eq_some_iff.1 hj).1
    rwa [cellsOf_length, hl] at this
  have hi : j / 2 < k := by omega
  have hg := cellsOf_get ((zs.drop m).take k) (j / 2) (by rw [hl]; exact hi)
  have hz : ((zs.drop m).take k)[j / 2]! = zs[m + j / 2]! := by
    have h2 : m + j / 2 < zs.length := by omega
    simp [h2, hi]
  rw [hz] at hg
  obtain ⟨_, c0, c1⟩ := h.2 (m + j / 2) (by omega)
  rw [Addr.add_lit]
  rcases Nat.mod_two_eq_zero_or_one j with e | e
  · have ej : j = j / 2 * 2 := by omega
    rw [ej, hg.1] at hj
    cases hj
    rw [show off + m * 2 + j = off + (m + j / 2) * 2 by omega]
    exact c0
  · have ej : j = j / 2 * 2 + 1 := by omega
    rw [ej, hg.2] at hj
    cases hj
    rw [show off + m * 2 + j = off + (m + j / 2) * 2 + 1 by omega]
    exact c1
/-- A row of the call's own that holds cells. -/
def RowIs (w : World) (t : TypeId) (g : Nat) (zs : List (Int × Int)) : Prop := w.heap[g]? = some (.cells (cellsOf zs).toArray t (0, 0))
theorem RowIs.lt {w : World} {t : TypeId} {g : Nat} {zs : List (Int × Int)} (h : RowIs w t g zs) : g < w.heap.size := (Array.getElem?_eq_some_iff.1 h).1
theorem RowIs.lies {w : World} {t : TypeId} {g : Nat} {zs : List (Int × Int)} (h : RowIs w t g zs) (h0 : ∀ j, j < zs.length → 0 ≤ (zs[j]!).1) : Lies w g 0 zs := by
  refine ⟨h.lt, fun j hj => ⟨h0 j hj, ?_, ?_⟩⟩
  · have := (cellsOf_get zs j hj).1
    simp only [World.cell?, show w.heap[g]? = _ from h]
    simpa using this
  · have := (cellsOf_get zs j hj).2
    simp only [World.cell?, show w.heap[g]? = _ from h]
    simpa using this
theorem RowIs.ext {w w' : World} {t : TypeId} {g : Nat} {zs : List (Int × Int)} (h : RowIs w t g zs) (hb : Ext w w') : RowIs w' t g zs := (hb.block g h.lt).trans h
theorem keepsOthers_setRow (w : World) (g : Nat) (cs : Array Value) {c : Array Value} {t : TypeId} {fr : Nat × Nat} (h : w.heap[g]? = some (.cells c t fr)) : KeepsOthers w (w.setRow g cs) := by
  refine ⟨by simp, fun j o hj ho => ?_⟩
  by_cases e : j = g
  · subst e
    rw [h] at hj
    cases hj
    cases ho
  · rw [setRow_other w g j cs e]
    exact hj
theorem splice_all {α : Type} (L cs : List α) (h : L.length = cs.length) : splice L 0 cs = cs := by
  unfold splice
  rw [List.take_zero, List.nil_append, Nat.zero_add, ← h, List.drop_length, List.append_nil]
end Go.Proofs.YtaddlhebhiehgaaDoor
