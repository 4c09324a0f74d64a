/-
  The walks of package value, thirteenth part: slices.Chunk.
-/
import Derived.Test.YtaddlhebhiehgaaDoorVal12
import Derived.RangeFuncNested
import Derived.RangeFuncBound
import Derived.RangeFuncCalls
import Derived.RangeFuncLeaves
import Derived.RangeFuncFrom
import Derived.Shelf.RegionOpen
import Derived.OwnWalkIn
import Derived.TacticsInMore
import Derived.LoopNIn
import Derived.LoopIn
namespace Go.Proofs.YtaddlhebhiehgaaDoor
open Go.RowKit Go.Shelf
attribute [local go_sem] Oper.semAt_some

theorem chunk_any (a : Option Addr) (n c : Nat) (k : Nat) (h1 : 1 ≤ k) (w : World) :
    Calls Tryd.prog 55 #[.slice a n c, .int .i64 (k : Int)] w fun e w' => e = .returned (.func (.func 82) #[] #[.pointer (some ⟨w.heap.size, 0, none⟩), .pointer (some ⟨w.heap.size + 1, 0, none⟩)]) ∧ w' = (w.alloc (.cells #[.slice a n c] 33)).alloc (.cells #[.int .i64 (k : Int)] 3) := by
  have hk : ¬ (k : Int) < 1 := by omega
  go_enter Tryd.func55, Tryd.ntmps55
  go_wp2
  go_returns
  exact ⟨rfl, rfl⟩

def firstN (c : Nat) (m : Nat) : List (Fin c) := (List.finRange c).take m
theorem firstN_succ (c m : Nat) (h : m < c) : firstN c (m + 1) = firstN c m ++ [⟨m, h⟩] := by
  unfold firstN
  rw [List.take_succ_eq_append_getElem (by simpa using h)]
  simp
theorem firstN_length (c m : Nat) (h : m ≤ c) : (firstN c m).length = m := by simp [firstN, h]

/-- What the iterator reads behind a round: its two boxes. -/
def KeepsBoxes (Bs Bn : Nat) (W W' : World) : Prop := W'.heap[Bs]? = W.heap[Bs]? ∧ W'.heap[Bn]? = W.heap[Bn]?
theorem KeepsBoxes.trans {Bs Bn : Nat} {A B C : World} (h : KeepsBoxes Bs Bn A B) (k : KeepsBoxes Bs Bn B C) : KeepsBoxes Bs Bn A C := ⟨k.1.trans h.1, k.2.trans h.2⟩
theorem KeepsBoxes.cells {Bs Bn : Nat} {A B : World} (h : KeepsBoxes Bs Bn A B) : B.cell? ⟨Bs, 0, none⟩ = A.cell? ⟨Bs, 0, none⟩ ∧ B.cell? ⟨Bn, 0, none⟩ = A.cell? ⟨Bn, 0, none⟩ :=
  ⟨World.cell?_of_block (w := A) h.1, World.cell?_of_block (w := A) h.2⟩

set_option maxRecDepth 100000 in
set_option maxHeartbeats 2000000 in
theorem chunk1_in (n : Nat) (hn : 1 ≤ n) (l Bs Bn b off len cap k c : Nat) (hk : 1 ≤ k) (hlen : len = c * k) (hcap : len ≤ cap) (hbig : cap ≤ 4000000000) (J Jx : List (Fin c) → World → Prop)
    (hY : ∀ pre x W, J pre W → pre.length < c → YieldAt Fence.wide (n - 1) Tryd.prog l #[.slice (some ⟨b, off + x.val * k * 2, none⟩) k k] W fun e W' =>
      (e = .returned (.bool true) ∧ J (pre ++ [x]) W' ∧ KeepsBoxes Bs Bn W W') ∨ (e = .returned (.bool false) ∧ Jx (pre ++ [x]) W'))
    (W : World) (hBs : W.cell? ⟨Bs, 0, none⟩ = some (.slice (some ⟨b, off, none⟩) len cap)) (hBn : W.cell? ⟨Bn, 0, none⟩ = some (.int .i64 (k : Int))) (h0 : J [] W) (hJd : ∀ s A, J s A → J s A.drew) :
    CallsIn Fence.wide n Tryd.prog 82 #[.func (.yield l) #[] #[], .pointer (some ⟨Bs, 0, none⟩), .pointer (some ⟨Bn, 0, none⟩)] W fun e W' => (∃ v, e = .returned v) ∧
      ((∃ ys, ys = firstN c c ∧ J ys W') ∨ (∃ pre, (∃ m, m ≤ c ∧ pre = firstN c m) ∧ Jx pre W')) := by
  have HLEN := Lib.hid hlen; clear hlen
  have HY := Lib.hid hY; clear hY
  have HD := Lib.hid hJd; clear hJd
  refine callsIn_of_wp Tryd.func82 rfl trivial ?_ rfl
  simp only [Tryd.ntmps82, List.size_toArray, List.length_cons, List.length_nil, Nat.reduceAdd, Nat.reduceSub, Array.replicate_succ, Array.replicate_zero, List.push_toArray, List.append_toArray, List.nil_append, List.cons_append]
  gi_wp2
  gi_loopw [4] (fun i wr => ∃ m j : Nat, m ≤ c ∧ i = .int .i64 (j : Int) ∧ Hid (j = m * k) ∧ Hid (J (firstN c m) wr) ∧ wr.cell? ⟨Bs, 0, none⟩ = some (.slice (some ⟨b, off, none⟩) len cap) ∧ wr.cell? ⟨Bn, 0, none⟩ = some (.int .i64 (k : Int)))
    (fun i _ => len - (intOf i).toNat)
  case atStart => exact ⟨0, 0, Nat.zero_le _, rfl, (Nat.zero_mul _).symm, h0, hBs, hBn⟩
  case round =>
    obtain ⟨m, j, hm, rfl, HJ, HS, hs1, hs2⟩ := hrel
    clear hBs hBn
    by_cases hlt : m < c
    · have hjk : j + k ≤ len := by
        rw [HLEN.out, HJ.out, ← Nat.succ_mul]
        exact Nat.mul_le_mul_right _ hlt
      have hj1 : j < len := by omega
      have hj2 : ¬ cap = j := by omega
      have hmin : min (k : Int) ((len - j : Nat) : Int) = (k : Int) := by omega
      have hjk2 : (j : Int) + (k : Int) ≤ (len : Int) := by omega
      have hlen : (firstN c m).length < c := by rw [firstN_length c m hm]; exact hlt
      obtain ⟨fn, tmps, assign, body, hy, hR⟩ := HY.out (firstN c m) ⟨m, hlt⟩ wr.drew (HD.out _ _ HS.out) hlen
      have hA : off + m * k * 2 = off + j * 2 := by rw [HJ.out]
      simp only [hA] at hy
      clear hA hlen
      gi_wp2
      gi_region
      gi_wp2
      refine hR.mono ?_
      rintro e W3 (⟨rfl, hJ3, hk3⟩ | ⟨rfl, hJx3⟩)
      · have hs1' := hk3.cells.1.trans (show wr.drew.cell? ⟨Bs, 0, none⟩ = _ from hs1)
        have hs2' := hk3.cells.2.trans (show wr.drew.cell? ⟨Bn, 0, none⟩ = _ from hs2)
        have HJ3 := Lib.hid hJ3; clear hJ3
        clear hs1 hs2 hk3
        gi_wp2
        go_roundw
        case rel => exact ⟨m + 1, j + k, by omega, by go_num, (by rw [HJ.out, Nat.succ_mul] : j + k = (m + 1) * k), (by rw [firstN_succ c m hlt]; exact HJ3.out : J (firstN c (m + 1)) _), hs1', hs2'⟩
        case measure => simp [intOf]; omega
      · have HJ3 := Lib.hid hJx3; clear hJx3
        gi_wp2
        refine bodyPost_ret (results_none rfl _ _ _) rfl ?_
        exact ⟨⟨_, rfl⟩, .inr ⟨_, ⟨m + 1, by omega, (firstN_succ c m hlt).symm⟩, HJ3.out⟩⟩
    · obtain rfl : m = c := by omega
      have hj : j = len := by rw [HJ.out, HLEN.out]
      have hj1 : ¬ (j : Int) < (len : Int) := by omega
      clear hj
      gi_wp2
      go_end0
      exact ⟨⟨_, rfl⟩, .inl HS.out⟩
end Go.Proofs.YtaddlhebhiehgaaDoor
