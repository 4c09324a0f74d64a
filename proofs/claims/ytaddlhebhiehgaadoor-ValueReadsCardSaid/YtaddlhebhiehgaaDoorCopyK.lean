/-
  copy at elements of several cells: the walk's laws. No program stands here.
-/
import Derived.Test.YtaddlhebhiehgaaDoorKit
import Derived.Laws.CopyOwn
import Derived.Deep.RegionLaw
import Derived.OwnWalkIn
import Derived.RangeFuncFrom
namespace Go.Proofs.YtaddlhebhiehgaaDoor
open Go.RowKit

theorem heap_new (w : World) (o : Obj) : (w.alloc o).heap[w.heap.size]? = some o := by
  show (w.heap.push o)[w.heap.size]? = _
  simp
theorem run_copy_rowK {P : Program} (w : World) (dT sT ty elem : TypeId) (sz : Nat) (g o dLen dCap : Nat) (a : Addr) (sLen sCap : Nat) (cur : Array Value) (t : TypeId) (cs : List Value)
    (hu : P.underlying dT = some (.slice elem)) (hs : (P.info? elem).map (·.size) = some sz)
    (hg : w.heap[g]? = some (.cells cur t (0, 0))) (hn : cs.length = Nat.min sLen dLen * sz)
    (hsrc : ∀ j v, cs[j]? = some v → w.cell? (a.add j) = some v) (hfit : o + cs.length ≤ cur.size) (h1 : ∀ v ∈ cs, v.oneCell' = true) :
    (Builtin.copy_ #[dT, sT] ty #[.slice (some ⟨g, o, none⟩) dLen dCap, .slice (some a) sLen sCap]).run P w =
      .ok (goInt (Nat.min sLen dLen : Nat)) (w.setRow g (cur.toList.take o ++ cs ++ cur.toList.drop (o + cs.length)).toArray) := by
  have hl := run_loadCells_list (P := P) w a cs hsrc
  have hst := run_storeCells_at P g o t cs 0 cur w hg (by simpa using hfit) h1
  cases hq : P.info? elem with
  | none => simp [hq] at hs
  | some i =>
    have hi : i.size = sz := by simpa [hq] using hs
    simp [Builtin.copy_, run_underlying hu, Builtin.lenOf, Builtin.firstCells, sizeOf, typeInfo, hq, hi, ← hn, hl, hst]

theorem wpList_copy_rowK {P : Program} {w : World} {ops : Array Oper} {rest : List Oper} {o : Oper} {a : Act} {Q : Exit → Act → World → Prop} (hgd : o.guard = none) (d s : Operand) (dT sT : TypeId)
    (ho : o.op = .call { callee := .builtin .copy, args := #[d, s], argTypes := #[dT, sT] }) (elem : TypeId) (sz : Nat) (hu : P.underlying dT = some (.slice elem)) (hsz : (P.info? elem).map (·.size) = some sz)
    (g off dLen dCap : Nat) (ad : Addr) (sLen sCap : Nat) (hd : a.eval d = .slice (some ⟨g, off, none⟩) dLen dCap) (hs : a.eval s = .slice (some ad) sLen sCap)
    (cur : List Value) (t : TypeId) (hg : w.heap[g]? = some (.cells cur.toArray t (0, 0))) (cs : List Value) (m : Nat) (v : Int) (hm : Nat.min sLen dLen = m) (hv : (m : Int) = v) (hn : cs.length = m * sz)
    (hsrc : ∀ j v, cs[j]? = some v → w.cell? (ad.add j) = some v) (hfit : off + cs.length ≤ cur.length) (h1 : ∀ v ∈ cs, v.oneCell' = true)
    (h : ∀ w', Hid (w'.heap[g]? = some (.cells (splice cur off cs).toArray t (0, 0))) → Hid (∀ w0, w0.heap.size ≤ g → Ext w0 w → Ext w0 w') → wpList P ops Q rest (a.put o.dst (.int .i64 v)) w') :
    wpList P ops Q (o :: rest) a w := by
  subst hm
  subst hv
  refine wpList_plain hgd fun K hK => ?_
  have hrun := run_copy_rowK (P := P) w dT sT o.type elem sz g off dLen dCap ad sLen sCap cur.toArray t cs hu hsz hg hn hsrc (by simpa using hfit) h1
  unfold Oper.wp
  simp [execOp, ho, resolve, invoke, builtin, hd, hs, hrun, Result.andThen]
  have h2 := h (w.setRow g (cur.take off ++ (cs ++ cur.drop (off + cs.length))).toArray) (show _ = _ by simpa [splice] using setRow_heap w g _ _ t _ hg) (fun w0 h0 hb => below_setRow hb h0 _)
  exact hK _ _ h2

theorem wpListIn_copy_rowK {F : Fence} {n : Nat} {P : Program} {w : World} {ops : Array Oper} {rest : List Oper} {o : Oper} {a : Act} {Q : Exit → Act → World → Prop} (hgd : o.guard = none) (d s : Operand) (dT sT : TypeId)
    (ho : o.op = .call { callee := .builtin .copy, args := #[d, s], argTypes := #[dT, sT] }) (elem : TypeId) (sz : Nat) (hu : P.underlying dT = some (.slice elem)) (hsz : (P.info? elem).map (·.size) = some sz)
    (g off dLen dCap : Nat) (ad : Addr) (sLen sCap : Nat) (hd : a.eval d = .slice (some ⟨g, off, none⟩) dLen dCap) (hs : a.eval s = .slice (some ad) sLen sCap)
    (cur : List Value) (t : TypeId) (hg : w.heap[g]? = some (.cells cur.toArray t (0, 0))) (cs : List Value) (m : Nat) (v : Int) (hm : Nat.min sLen dLen = m) (hv : (m : Int) = v) (hn : cs.length = m * sz)
    (hsrc : ∀ j v, cs[j]? = some v → w.cell? (ad.add j) = some v) (hfit : off + cs.length ≤ cur.length) (h1 : ∀ v ∈ cs, v.oneCell' = true)
    (h : ∀ w', Hid (w' = w.setRow g (splice cur off cs).toArray) → wpListIn F n P ops Q rest (a.put o.dst (.int .i64 v)) w') :
    wpListIn F n P ops Q (o :: rest) a w := by
  subst hm
  subst hv
  refine wpListIn_plain hgd fun K hK => ?_
  have hrun := run_copy_rowK (P := P) w dT sT o.type elem sz g off dLen dCap ad sLen sCap cur.toArray t cs hu hsz hg hn hsrc (by simpa using hfit) h1
  unfold Oper.wpIn
  refine ⟨?_, ?_⟩
  · simp [Oper.about, ho, resolve, Target.leads, Sem.run_pure]
  · rw [Oper.semAt_plain F _ _ (by rw [ho]; intro c hc'; cases hc')]
    simp [execOp, ho, resolve, invoke, builtin, hd, hs, hrun, Result.andThen]
    have h2 := h (w.setRow g (cur.take off ++ (cs ++ cur.drop (off + cs.length))).toArray) (show _ = _ by rfl)
    exact hK _ _ h2

theorem step_copy_rowK {P : Program} {ops : Array Oper} {o : Oper} {a : Act} {w : World} {K : Act → World → Prop} {Q : Exit → Act → World → Prop} {E : Prop} (hgd : o.guard = none) (d s : Operand) (dT sT : TypeId)
    (ho : o.op = .call { callee := .builtin .copy, args := #[d, s], argTypes := #[dT, sT] }) (elem : TypeId) (sz : Nat) (hu : P.underlying dT = some (.slice elem)) (hsz : (P.info? elem).map (·.size) = some sz)
    (g off dLen dCap : Nat) (ad : Addr) (sLen sCap : Nat) (hd : a.eval d = .slice (some ⟨g, off, none⟩) dLen dCap) (hs : a.eval s = .slice (some ad) sLen sCap)
    (cur : List Value) (t : TypeId) (hg : w.heap[g]? = some (.cells cur.toArray t (0, 0))) (cs : List Value) (m : Nat) (v : Int) (hm : Nat.min sLen dLen = m) (hv : (m : Int) = v) (hn : cs.length = m * sz)
    (hsrc : ∀ j v, cs[j]? = some v → w.cell? (ad.add j) = some v) (hfit : off + cs.length ≤ cur.length) (h1 : ∀ v ∈ cs, v.oneCell' = true)
    (h : ∀ w', Hid (w'.heap[g]? = some (.cells (splice cur off cs).toArray t (0, 0))) → Hid (∀ w0, w0.heap.size ≤ g → Ext w0 w → Ext w0 w') → K (a.put o.dst (.int .i64 v)) w') :
    if Region.wanted o (yielded ops a.tmps) = true then Oper.wp P o a w K Q else E := by
  have hw : Region.wanted o (yielded ops a.tmps) = true := by simp [Region.wanted, hgd]
  rw [if_pos hw]
  subst hm
  subst hv
  have hrun := run_copy_rowK (P := P) w dT sT o.type elem sz g off dLen dCap ad sLen sCap cur.toArray t cs hu hsz hg hn hsrc (by simpa using hfit) h1
  unfold Oper.wp
  simp [execOp, ho, resolve, invoke, builtin, hd, hs, hrun, Result.andThen]
  have h2 := h (w.setRow g (cur.take off ++ (cs ++ cur.drop (off + cs.length))).toArray) (show _ = _ by simpa [splice] using setRow_heap w g _ _ t _ hg) (fun w0 h0 hb => below_setRow hb h0 _)
  exact h2

/-- m copies of an element's cells, then zero values: k elements in all. -/
def repRow (x z : List Value) (m k : Nat) : List Value := (List.replicate m x).flatten ++ (List.replicate (k - m) z).flatten
theorem flat_length (x : List Value) (m : Nat) : ((List.replicate m x).flatten).length = m * x.length := by simp
theorem repRow_length (x z : List Value) (m k : Nat) (h : z.length = x.length) (hm : m ≤ k) : (repRow x z m k).length = k * x.length := by
  unfold repRow
  rw [List.length_append, flat_length, flat_length, h, ← Nat.add_mul]
  congr 1
  omega
theorem rep_add (x : List Value) (a b : Nat) : (List.replicate (a + b) x).flatten = (List.replicate a x).flatten ++ (List.replicate b x).flatten := by
  rw [← List.replicate_append_replicate, List.flatten_append]
theorem repRow_splice (x z : List Value) (m k j : Nat) (h : z.length = x.length) (hm : m + j ≤ k) :
    splice (repRow x z m k) (m * x.length) ((List.replicate j x).flatten) = repRow x z (m + j) k := by
  unfold splice repRow
  have e1 : ((List.replicate m x).flatten ++ (List.replicate (k - m) z).flatten).take (m * x.length) = (List.replicate m x).flatten := by
    rw [List.take_append_of_le_length (by rw [flat_length]; exact Nat.le_refl _)]
    exact List.take_of_length_le (by rw [flat_length]; exact Nat.le_refl _)
  have e2 : (List.replicate (k - m) z).flatten = (List.replicate j z).flatten ++ (List.replicate (k - (m + j)) z).flatten := by
    rw [← rep_add]; congr 2; omega
  rw [e1, flat_length, e2, rep_add, ← List.append_assoc, ← List.append_assoc]
  congr 1
  rw [List.drop_append, List.drop_of_length_le (by rw [List.length_append, flat_length, flat_length, h]; exact Nat.le_refl _), List.length_append, flat_length, flat_length, h]
  simp
theorem repRow_get (x z : List Value) (m k i : Nat) (hi : i < m * x.length) : (repRow x z m k)[i]? = ((List.replicate m x).flatten)[i]? := by
  unfold repRow
  rw [List.getElem?_append_left (by rw [flat_length]; exact hi)]
theorem repRow_prefix (x z : List Value) (m k j : Nat) (hj : j ≤ m) (i : Nat) (v : Value) (h : ((List.replicate j x).flatten)[i]? = some v) : (repRow x z m k)[i]? = some v := by
  have hi : i < j * x.length := by
    have := (List.getElem?_eq_some_iff.1 h).1
    rwa [flat_length] at this
  rw [repRow_get x z m k i (Nat.lt_of_lt_of_le hi (Nat.mul_le_mul_right _ hj))]
  obtain ⟨d, rfl⟩ : ∃ d, m = j + d := ⟨m - j, by omega⟩
  rw [rep_add, List.getElem?_append_left (by rw [flat_length]; exact hi)]
  exact h
theorem flat_get (x : List Value) : ∀ (k i : Nat), i < k * x.length → ((List.replicate k x).flatten)[i]? = x[i % x.length]?
  | 0, i, h => by omega
  | k + 1, i, h => by
    rw [List.replicate_succ, List.flatten_cons]
    by_cases hi : i < x.length
    · rw [List.getElem?_append_left hi, Nat.mod_eq_of_lt hi]
    · rw [List.getElem?_append_right (by omega), flat_get x k (i - x.length) (by rw [Nat.add_mul] at h; omega)]
      congr 1
      exact (Nat.mod_eq_sub_mod (by omega)).symm
theorem madeCells_rep (x : List Value) (k : Nat) (hx : 0 < x.length) : madeCells x.toArray (k * x.length) = (repRow x x 0 k).toArray := by
  apply Array.ext
  · rw [size_madeCells]
    simp [repRow]
  · intro i h1 h2
    rw [size_madeCells] at h1
    have hm : i % x.length < x.length := Nat.mod_lt _ hx
    have e1 : (madeCells x.toArray (k * x.length))[i]? = x[i % x.length]? := by
      unfold madeCells
      rw [Array.getElem?_map, Array.getElem?_range, if_pos h1]
      simp [hm]
    have e2 : (repRow x x 0 k).toArray[i]? = x[i % x.length]? := by
      rw [List.getElem?_toArray]
      unfold repRow
      simp only [List.replicate_zero, List.flatten_nil, List.nil_append, Nat.sub_zero]
      exact flat_get x k i h1
    rw [← e2] at e1
    rw [Array.getElem?_eq_getElem (by rw [size_madeCells]; exact h1), Array.getElem?_eq_getElem h2] at e1
    exact Option.some.inj e1
theorem repRow_cells {w : World} {g : Nat} {t : TypeId} {x z : List Value} {m k : Nat} (hg : w.heap[g]? = some (.cells (repRow x z m k).toArray t (0, 0))) (j : Nat) (hj : j ≤ m) :
    ∀ i v, ((List.replicate j x).flatten)[i]? = some v → w.cell? (Addr.add ⟨g, 0, none⟩ i) = some v := by
  intro i v hi
  rw [Addr.add_lit]
  have h := repRow_prefix x z m k j hj i v hi
  simp [World.cell?, hg, h]
theorem rep_one {x : List Value} (h : ∀ v ∈ x, v.oneCell' = true) (j : Nat) : ∀ v ∈ (List.replicate j x).flatten, v.oneCell' = true := by
  intro v hv
  rw [List.mem_flatten] at hv
  obtain ⟨l, hl, hv⟩ := hv
  rw [List.mem_replicate] at hl
  rw [hl.2] at hv
  exact h v hv
/-- A row of cells abides the turn of a block that is no cells. -/
theorem row_kept {W W' : World} {row : Option Nat} {g : Nat} {c : Array Value} {t : TypeId} {fr : Nat × Nat} (h : W.heap[g]? = some (.cells c t fr)) (hg : W.grownBy W' row) (hrow : ∀ r, row = some r → ∃ o : Obj, W.heap[r]? = some o ∧ o.isCells = false) : W'.heap[g]? = some (.cells c t fr) := by
  rw [hg.block g (Array.getElem?_eq_some_iff.1 h).1 (fun e => by
    obtain ⟨o, ho, hc⟩ := hrow g e.symm
    rw [h] at ho
    cases ho
    cases hc)]
  exact h
end Go.Proofs.YtaddlhebhiehgaaDoor
