/-
  The walks of package value, twelfth part: slices.Repeat.
-/
import Derived.Test.YtaddlhebhiehgaaDoorVal11
import Derived.Test.YtaddlhebhiehgaaDoorCopyK
namespace Go.Proofs.YtaddlhebhiehgaaDoor
open Go.RowKit Go.Shelf

theorem mul1_any (k : Nat) (hk : k ≤ 8) (w : World) : Calls Tryd.prog 81 #[.int .u64 1, .int .u64 (k : Int)] w fun e w' => e = .returned (.tuple #[.int .u64 0, .int .u64 (k : Int)]) ∧ Ext w w' := by
  refine (Tryd.bits_Mul 1 k (by omega) (by omega) w).mono fun e w' ⟨he, hw⟩ => ⟨?_, hw ▸ Ext.refl _⟩
  rw [he]
  have e1 : 1 * k / 18446744073709551616 = 0 := Nat.div_eq_of_lt (by omega)
  have e2 : 1 * k % 18446744073709551616 = k := by rw [Nat.mod_eq_of_lt (by omega)]; omega
  rw [e1, e2]
  rfl
theorem infoV : (Tryd.prog.info? 23).map (fun i => (i.zero, i.size, i.bytes)) = some (some (.agg #[.int .u8 0, .int .i64 0]), 2, 16) := by kernel_rfl
theorem sizeV : (Tryd.prog.info? 23).map (·.size) = some 2 := by kernel_rfl
theorem make_row (k : Nat) (hk : k ≤ 8) (w : World) : (Instr.makeSlice 33 (.int .i64 (k : Int)) (.int .i64 (k : Int))).run Tryd.prog w = .ok (.slice (some ⟨w.heap.size, 0, none⟩) k k) (w.alloc (.cells (repRow [.int .u8 0, .int .i64 0] [.int .u8 0, .int .i64 0] 0 k).toArray 23)) := by
  obtain ⟨i0, hi, hz0, hz1, hz2⟩ := info_parts infoV
  have hr := run_make (P := Tryd.prog) w 33 23 i0 (.agg #[.int .u8 0, .int .i64 0]) Tryd.underlying33 hi hz0 .i64 .i64 k k (by omega) (by omega) (by rw [hz2]; omega) (by omega)
  simp only [Int.toNat_natCast] at hr
  rw [hr, hz1]
  rw [show (Value.agg #[.int .u8 0, .int .i64 0]).cells = ([.int .u8 0, .int .i64 0] : List Value).toArray from rfl, show k * 2 = k * ([.int .u8 0, .int .i64 0] : List Value).length from rfl, madeCells_rep _ _ (by simp)]
theorem src2 {w W : World} {b : Nat} {x y : Value} (h : Ext w W) (hb : b < w.heap.size) (c0 : w.cell? ⟨b, 0, none⟩ = some x) (c1 : w.cell? ⟨b, 1, none⟩ = some y) : ∀ j v, [x, y][j]? = some v → W.cell? (Addr.add ⟨b, 0, none⟩ j) = some v := by
  intro j v hj
  rw [Addr.add_lit]
  match j, hj with
  | 0, hj => simp at hj; subst hj; exact (h.cell hb _).trans c0
  | 1, hj => simp at hj; subst hj; exact (h.cell hb _).trans c1
  | j + 2, hj => simp at hj
theorem one2 (f n : Int) : ∀ v ∈ [Value.int .u8 f, .int .i64 n], v.oneCell' = true := by simp [Value.oneCell']
abbrev ZV : List Value := [.int .u8 0, .int .i64 0]
/-- What Repeat of one cell leaves: k copies of it in a new row. -/
def RepPost (f n : Int) (k : Nat) (w : World) (e : Ending) (w' : World) : Prop :=
  ∃ g : Nat, e = .returned (.slice (some ⟨g, 0, none⟩) k k) ∧ w.heap.size ≤ g ∧ w'.heap[g]? = some (.cells (repRow [.int .u8 f, .int .i64 n] ZV k k).toArray 23 (0, 0)) ∧ Ext w w'
set_option maxRecDepth 100000 in
set_option maxHeartbeats 1000000 in
theorem rep_any (f n : Int) (k : Nat) (h1 : 1 ≤ k) (h2 : k ≤ 8) (b : Nat) (w : World) (hb : b < w.heap.size) (c0 : w.cell? ⟨b, 0, none⟩ = some (.int .u8 f)) (c1 : w.cell? ⟨b, 1, none⟩ = some (.int .i64 n)) :
    Calls Tryd.prog 53 #[.slice (some ⟨b, 0, none⟩) 1 1, .int .i64 (k : Int)] w (RepPost f n k w) := by
  have hmk := make_row k h2
  have hk1 : (1 : Int) ≤ (k : Int) := by omega
  have hk2 : (k : Int) ≤ 8 := by omega
  have C0 := Lib.hid c0; clear c0
  have C1 := Lib.hid c1; clear c1
  have hrow := Lib.hid (repRow_splice [.int .u8 f, .int .i64 n] ZV 0 k 1 rfl (by omega))
  generalize hR : repRow ZV ZV 0 k = R0 at hmk
  go_enter Tryd.func53, Tryd.ntmps53
  go_wp2_with (first | (go_at_call 81; refine (mul1_any k h2 _).mono ?_; rintro e w1 ⟨rfl, hb1⟩; obtain ⟨hc1, hf1, hs1⟩ := hb1.cells) | (with_reducible refine wpList_copy_rowK rfl (.tmp 31) (.tmp 32) 33 33 rfl 23 2 Tryd.underlying33 sizeV w1.heap.size 0 k k ⟨b, 0, none⟩ 1 1 rfl rfl R0 23 (heap_new _ _) [.int .u8 f, .int .i64 n] 1 1 (by simp [Nat.min]; omega) rfl rfl (src2 (by repeat' (first | (with_reducible exact Ext.refl _) | (with_reducible assumption) | (with_reducible refine Ext.alloc ?_ _) | (with_reducible refine Ext.drew ?_) | (with_reducible refine Ext.drewN ?_ _) | (with_reducible refine Ext.setCell ?_ ?_ _) | (with_reducible refine Ext.trans ?_ (by assumption)) | go_size)) hb C0.out C1.out) (by rw [← hR, repRow_length _ _ _ _ rfl (by omega)]; simp; omega) (one2 f n) ?_; intro w2 HR HE))
  have hR1 : Hid (w2.heap[w1.heap.size]? = some (.cells (repRow [.int .u8 f, .int .i64 n] ZV 1 k).toArray 23 (0, 0))) := by
    have h3 := HR.out
    have h4 := hrow.out
    simp only [Nat.zero_mul, List.replicate_one, List.flatten_cons, List.flatten_nil, List.append_nil] at h4
    rw [← hR] at h3
    exact h3.trans (congrArg (fun l : List Value => some (Obj.cells l.toArray 23 (0, 0))) h4)
  have hE1 : Hid (Ext w w2) := HE.out w hb1.le (hb1.alloc _)
  have hg := Lib.hid hb1.le
  generalize w1.heap.size = g at hR1 hg
  clear HR HE hmk hR hrow hc1 hf1 hs1
  go_loopw [8] (fun s8 wr => ∃ m : Nat, 1 ≤ m ∧ m ≤ k ∧ s8 = .int .i64 m ∧ Hid (wr.heap[g]? = some (.cells (repRow [.int .u8 f, .int .i64 n] ZV m k).toArray 23 (0, 0))) ∧ Hid (Ext w wr)) (fun s8 _ => k - (intOf s8).toNat)
  case atStart => exact ⟨1, by omega, h1, rfl, hR1, hE1⟩
  case round =>
    obtain ⟨m, hm1, hm2, rfl, HR, HE⟩ := hrel
    by_cases hlt : m < k
    · have hkm : ¬ k = m := by omega
      have hmin : Nat.min m (k - m) ≤ m ∧ Nat.min m (k - m) ≤ k - m ∧ 1 ≤ Nat.min m (k - m) := ⟨Nat.min_le_left _ _, Nat.min_le_right _ _, Nat.le_min.2 ⟨hm1, by omega⟩⟩
      obtain ⟨q, hq⟩ : ∃ q, q = Nat.min m (k - m) := ⟨_, rfl⟩
      rw [← hq] at hmin
      obtain ⟨q1, q2, q3⟩ := hmin
      have HQ := Lib.hid hq.symm; clear hq
      have hs := Lib.hid (repRow_splice [.int .u8 f, .int .i64 n] ZV m k q rfl (by omega))
      have hfit : m * 2 + ((List.replicate q [Value.int .u8 f, .int .i64 n]).flatten).length ≤ (repRow [.int .u8 f, .int .i64 n] ZV m k).length := by
        rw [flat_length, repRow_length [.int .u8 f, .int .i64 n] ZV m k rfl (by omega)]; simp; omega
      have hfit := Lib.hid hfit
      have hw : IntKind.i64.wrap ((m : Int) + (q : Int)) = ((m + q : Nat) : Int) := by rw [IntWalk.i64_in _ (by omega)]; omega
      go_wp2_with fail
      go_region_law (refine step_copy_rowK rfl (.tmp 41) (.tmp 44) 33 33 rfl 23 2 Tryd.underlying33 sizeV g (m * 2) (k - m) (k - m) ⟨g, 0, none⟩ m k (by simp [Act.eval, Act.put]) (by simp [Act.eval, Act.put]) (repRow [.int .u8 f, .int .i64 n] ZV m k) 23 HR.out ((List.replicate q [.int .u8 f, .int .i64 n]).flatten) q (q : Int) HQ.out rfl (flat_length _ _) (repRow_cells HR.out q q1) hfit.out (rep_one (one2 f n) q) ?_; intro w4 hg4 hb4; simp only [List.getElem_toArray, List.getElem_cons_succ, List.getElem_cons_zero, Act.put, List.setIfInBounds_toArray, List.set_cons_succ, List.set_cons_zero])
      go_wp2
      simp only [List.getElem_toArray, List.getElem_cons_succ, List.getElem_cons_zero, Act.put, List.setIfInBounds_toArray, List.set_cons_succ, List.set_cons_zero]
      go_roundw
      case measure => simp [intOf]; omega
      case rel =>
        refine ⟨m + q, by omega, by omega, by go_num, ?_, hb4.out w hg.out (HE.out.drew)⟩
        have h4 := hg4.out
        exact h4.trans (congrArg (fun l : List Value => some (Obj.cells l.toArray 23 (0, 0))) hs.out)
    · obtain rfl : m = k := by omega
      go_wp2
      go_returns
      exact ⟨g, rfl, hg.out, HR.out, HE.out⟩
end Go.Proofs.YtaddlhebhiehgaaDoor
