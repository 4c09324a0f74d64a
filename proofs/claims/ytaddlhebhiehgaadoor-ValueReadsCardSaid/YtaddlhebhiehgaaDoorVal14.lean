/-
  The walks of package value, fourteenth part: the contract of Chunk's iterator; Pick's refusals.
-/
import Derived.Test.YtaddlhebhiehgaaDoorVal13
namespace Go.Proofs.YtaddlhebhiehgaaDoor
open Go.RowKit Go.Shelf
attribute [local go_sem] Oper.semAt_some

theorem chunk_stops (n : Nat) (hn : 1 ≤ n) (Bs Bn b off len cap k c : Nat) (hk : 1 ≤ k) (hlen : len = c * k) (hcap : len ≤ cap) (hbig : cap ≤ 4000000000) (w : World) (hb1 : Bs < w.heap.size) (hb2 : Bn < w.heap.size)
    (hBs : w.cell? ⟨Bs, 0, none⟩ = some (.slice (some ⟨b, off, none⟩) len cap)) (hBn : w.cell? ⟨Bn, 0, none⟩ = some (.int .i64 (k : Int))) :
    SeqStopsK Fence.wide n Tryd.prog 82 #[.pointer (some ⟨Bs, 0, none⟩), .pointer (some ⟨Bn, 0, none⟩)] (fun x : Fin c => #[.slice (some ⟨b, off + x.val * k * 2, none⟩) k k])
      (KeepsBoxes Bs Bn) (fun ys => ys = firstN c c) (fun pre => ∃ m, m ≤ c ∧ pre = firstN c m) c w := fun l J Jx W hW hJ hJx hY h0 => by
  refine (chunk1_in n hn l Bs Bn b off len cap k c hk hlen hcap hbig J Jx hY W ((hW.cell (p := ⟨Bs, 0, none⟩) hb1).trans hBs) ((hW.cell (p := ⟨Bn, 0, none⟩) hb2).trans hBn) h0
    (fun s A hA => hJ s A A.drew none hA ⟨rfl, rfl, rfl, Nat.le_refl _, fun _ _ _ => rfl⟩ (fun r e => by cases e))).mono ?_
  rintro e W' ⟨he, ⟨ys, hys, hj⟩ | ⟨pre, hp, hj⟩⟩
  · exact ⟨he, .inl ⟨ys, hys, hj⟩⟩
  · exact ⟨he, .inr ⟨pre, hp, hj⟩⟩

set_option maxHeartbeats 1000000 in
theorem within2_any (x y : Int) (b : Nat) (w : World) (h1 : w.cell? ⟨b, 0, none⟩ = some (.int .i64 x)) (h2 : w.cell? ⟨b, 1, none⟩ = some (.int .i64 y)) (hb : b < w.heap.size) :
    Calls Tryd.prog 52 #[.int .i64 1, .int .i64 8, .slice (some ⟨b, 0, none⟩) 2 2] w fun e w' => e = .returned (.bool (decide (1 ≤ x ∧ x ≤ 8 ∧ 1 ≤ y ∧ y ≤ 8))) ∧ Ext w w' := by
  by_cases a1 : x < 1
  · rw [show decide (1 ≤ x ∧ x ≤ 8 ∧ 1 ≤ y ∧ y ≤ 8) = false by simp; omega]
    go_enter Tryd.func52, Tryd.ntmps52
    go_wp2
    go_rounds 3
    go_returns
    exact ⟨rfl, (by repeat' (first | (with_reducible exact Ext.refl _) | (with_reducible assumption) | (with_reducible refine Ext.alloc ?_ _) | (with_reducible refine Ext.drew ?_) | (with_reducible refine Ext.drewN ?_ _) | (with_reducible refine Ext.setCell ?_ ?_ _) | (with_reducible refine Ext.trans ?_ (by assumption)) | go_size))⟩
  by_cases a2 : 8 < x
  · rw [show decide (1 ≤ x ∧ x ≤ 8 ∧ 1 ≤ y ∧ y ≤ 8) = false by simp; omega]
    go_enter Tryd.func52, Tryd.ntmps52
    go_wp2
    go_rounds 3
    go_returns
    exact ⟨rfl, (by repeat' (first | (with_reducible exact Ext.refl _) | (with_reducible assumption) | (with_reducible refine Ext.alloc ?_ _) | (with_reducible refine Ext.drew ?_) | (with_reducible refine Ext.drewN ?_ _) | (with_reducible refine Ext.setCell ?_ ?_ _) | (with_reducible refine Ext.trans ?_ (by assumption)) | go_size))⟩
  by_cases a3 : y < 1
  · rw [show decide (1 ≤ x ∧ x ≤ 8 ∧ 1 ≤ y ∧ y ≤ 8) = false by simp; omega]
    go_enter Tryd.func52, Tryd.ntmps52
    go_wp2
    go_rounds 3
    go_returns
    exact ⟨rfl, (by repeat' (first | (with_reducible exact Ext.refl _) | (with_reducible assumption) | (with_reducible refine Ext.alloc ?_ _) | (with_reducible refine Ext.drew ?_) | (with_reducible refine Ext.drewN ?_ _) | (with_reducible refine Ext.setCell ?_ ?_ _) | (with_reducible refine Ext.trans ?_ (by assumption)) | go_size))⟩
  by_cases a4 : 8 < y
  · rw [show decide (1 ≤ x ∧ x ≤ 8 ∧ 1 ≤ y ∧ y ≤ 8) = false by simp; omega]
    go_enter Tryd.func52, Tryd.ntmps52
    go_wp2
    go_rounds 3
    go_returns
    exact ⟨rfl, (by repeat' (first | (with_reducible exact Ext.refl _) | (with_reducible assumption) | (with_reducible refine Ext.alloc ?_ _) | (with_reducible refine Ext.drew ?_) | (with_reducible refine Ext.drewN ?_ _) | (with_reducible refine Ext.setCell ?_ ?_ _) | (with_reducible refine Ext.trans ?_ (by assumption)) | go_size))⟩
  · rw [show decide (1 ≤ x ∧ x ≤ 8 ∧ 1 ≤ y ∧ y ≤ 8) = true by simp; omega]
    go_enter Tryd.func52, Tryd.ntmps52
    go_wp2
    go_rounds 3
    go_returns
    exact ⟨rfl, (by repeat' (first | (with_reducible exact Ext.refl _) | (with_reducible assumption) | (with_reducible refine Ext.alloc ?_ _) | (with_reducible refine Ext.drew ?_) | (with_reducible refine Ext.drewN ?_ _) | (with_reducible refine Ext.setCell ?_ ?_ _) | (with_reducible refine Ext.trans ?_ (by assumption)) | go_size))⟩

/-- Whether a list of so many cells is elements of so many. -/
def FormOk (len wide : Int) : Prop := 1 ≤ wide ∧ wide ≤ 8 ∧ 1 ≤ len ∧ len ≤ 8 ∧ len % wide = 0 ∧ len / wide ≤ 6
theorem div_small (len wide : Int) (h1 : 1 ≤ wide) (h2 : 1 ≤ len) (h3 : len ≤ 8) : 0 ≤ len / wide ∧ len / wide ≤ 8 := by
  constructor
  · exact Int.ediv_nonneg (by omega) (by omega)
  · exact Int.le_trans (Int.ediv_le_self wide (by omega)) h3

set_option maxRecDepth 100000 in
set_option maxHeartbeats 1000000 in
theorem pick_form (a : Option Addr) (len cap : Nat) (wide f n : Int) (hno : ¬ FormOk (len : Int) wide) (w : World) :
    Calls Tryd.prog 22 #[.slice a len cap, .int .i64 wide, .agg #[.int .u8 f, .int .i64 n]] w fun e w' => e = .returned (.tuple #[.slice none 0 0, .int .i64 4]) ∧ Ext w w' := by
  have hn0 := Lib.hid hno; clear hno
  by_cases hd : 1 ≤ wide ∧ wide ≤ 8 ∧ (1 : Int) ≤ (len : Int) ∧ (len : Int) ≤ 8
  · have hd' : decide (1 ≤ wide ∧ wide ≤ 8 ∧ (1 : Int) ≤ (len : Int) ∧ (len : Int) ≤ 8) = true := by simpa using hd
    obtain ⟨d1, d2, d3, d4⟩ := hd
    by_cases hm : (len : Int) % wide = 0
    · have hq : ¬ (len : Int) / wide ≤ 6 := fun h => hn0.out ⟨d1, d2, d3, d4, hm, h⟩
      obtain ⟨q1, q2⟩ := div_small _ _ d1 d3 d4
      have hw : wrap64 ((len : Int) / wide) = (len : Int) / wide := IntWalk.wrap64_in _ (by omega)
      have hm' : ((len : Int) % wide != 0) = false := by simp [hm]
      have hm := Lib.hid hm
      refine (callsIn_wide (n := 5)).1 (callsIn_of_wp_marks Tryd.func22 rfl trivial ?_ rfl)
      simp only [Tryd.ntmps22, List.size_toArray, List.length_cons, List.length_nil, Nat.reduceAdd, Nat.reduceSub, Array.replicate_succ, Array.replicate_zero, List.push_toArray, List.append_toArray, List.nil_append, List.cons_append]
      refine wpIn_wide.2 ?_
      go_wp2_with (first | (go_at_call 52; refine (within2_any wide (len : Int) _ _ (by first | (simp [go_sem]; done) | omega | (simp; omega)) (by first | (simp [go_sem]; done) | omega | (simp; omega)) (by first | (simp [go_sem]; done) | omega | (simp; omega))).mono ?_; rintro e w1 ⟨rfl, hb1⟩; obtain ⟨hc1, hf1, hs1⟩ := hb1.cells))
      exact ⟨_, results_tmp2 rfl _ _ _, rfl, (by repeat' (first | (with_reducible exact Ext.refl _) | (with_reducible assumption) | (with_reducible refine Ext.alloc ?_ _) | (with_reducible refine Ext.drew ?_) | (with_reducible refine Ext.drewN ?_ _) | (with_reducible refine Ext.setCell ?_ ?_ _) | (with_reducible refine Ext.trans ?_ (by assumption)) | go_size))⟩
    · have hm' : ((len : Int) % wide != 0) = true := by simp [hm]
      refine (callsIn_wide (n := 5)).1 (callsIn_of_wp_marks Tryd.func22 rfl trivial ?_ rfl)
      simp only [Tryd.ntmps22, List.size_toArray, List.length_cons, List.length_nil, Nat.reduceAdd, Nat.reduceSub, Array.replicate_succ, Array.replicate_zero, List.push_toArray, List.append_toArray, List.nil_append, List.cons_append]
      refine wpIn_wide.2 ?_
      go_wp2_with (first | (go_at_call 52; refine (within2_any wide (len : Int) _ _ (by first | (simp [go_sem]; done) | omega | (simp; omega)) (by first | (simp [go_sem]; done) | omega | (simp; omega)) (by first | (simp [go_sem]; done) | omega | (simp; omega))).mono ?_; rintro e w1 ⟨rfl, hb1⟩; obtain ⟨hc1, hf1, hs1⟩ := hb1.cells))
      exact ⟨_, results_tmp2 rfl _ _ _, rfl, (by repeat' (first | (with_reducible exact Ext.refl _) | (with_reducible assumption) | (with_reducible refine Ext.alloc ?_ _) | (with_reducible refine Ext.drew ?_) | (with_reducible refine Ext.drewN ?_ _) | (with_reducible refine Ext.setCell ?_ ?_ _) | (with_reducible refine Ext.trans ?_ (by assumption)) | go_size))⟩
  · have hd' : decide (1 ≤ wide ∧ wide ≤ 8 ∧ (1 : Int) ≤ (len : Int) ∧ (len : Int) ≤ 8) = false := by simpa using hd
    have hd := Lib.hid hd
    have H := Lib.hid (fun b w' h1 h2 hb => within2_any wide (len : Int) b w' h1 h2 hb)
    rw [hd'] at H
    clear hd'
    refine (callsIn_wide (n := 5)).1 (callsIn_of_wp_marks Tryd.func22 rfl trivial ?_ rfl)
    simp only [Tryd.ntmps22, List.size_toArray, List.length_cons, List.length_nil, Nat.reduceAdd, Nat.reduceSub, Array.replicate_succ, Array.replicate_zero, List.push_toArray, List.append_toArray, List.nil_append, List.cons_append]
    refine wpIn_wide.2 ?_
    go_wp2_with (first | (go_at_call 52; refine (H.out _ _ (by first | (simp [go_sem]; done) | omega | (simp; omega)) (by first | (simp [go_sem]; done) | omega | (simp; omega)) (by first | (simp [go_sem]; done) | omega | (simp; omega))).mono ?_; rintro e w1 ⟨rfl, hb1⟩; obtain ⟨hc1, hf1, hs1⟩ := hb1.cells))
    exact ⟨_, results_tmp2 rfl _ _ _, rfl, (by repeat' (first | (with_reducible exact Ext.refl _) | (with_reducible assumption) | (with_reducible refine Ext.alloc ?_ _) | (with_reducible refine Ext.drew ?_) | (with_reducible refine Ext.drewN ?_ _) | (with_reducible refine Ext.setCell ?_ ?_ _) | (with_reducible refine Ext.trans ?_ (by assumption)) | go_size))⟩
end Go.Proofs.YtaddlhebhiehgaaDoor
