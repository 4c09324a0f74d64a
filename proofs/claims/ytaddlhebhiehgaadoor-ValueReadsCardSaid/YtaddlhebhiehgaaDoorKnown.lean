/-
  The walk of mistlaw07's 'known': the document's examples.
-/
import Derived.Test.YtaddlhebhiehgaaDoorRef1
namespace Go.Proofs.YtaddlhebhiehgaaDoor
open Go.RowKit Go.Shelf

theorem lies4 (w : World) (t : TypeId) (f n f2 n2 f3 n3 f4 n4 : Int) (h : 0 ≤ f) (h2 : 0 ≤ f2) (h3 : 0 ≤ f3) (h4 : 0 ≤ f4) (b : Nat) (hb : b = w.heap.size) : Lies (w.alloc (.cells #[.int .u8 f, .int .i64 n, .int .u8 f2, .int .i64 n2, .int .u8 f3, .int .i64 n3, .int .u8 f4, .int .i64 n4] t)) b 0 [(f, n), (f2, n2), (f3, n3), (f4, n4)] := by
  subst hb
  refine ⟨by simp, fun j hj => ?_⟩
  match j, hj with
  | 0, _ => exact ⟨h, by simp [go_sem], by simp [go_sem]⟩
  | 1, _ => exact ⟨h2, by simp [go_sem], by simp [go_sem]⟩
  | 2, _ => exact ⟨h3, by simp [go_sem], by simp [go_sem]⟩
  | 3, _ => exact ⟨h4, by simp [go_sem], by simp [go_sem]⟩
  | j + 4, hj => simp at hj; omega

theorem k_div (w : World) : Calls Tryd.prog 14 #[.int .u8 10, .agg #[.int .u8 0, .int .i64 (-7)], .agg #[.int .u8 0, .int .i64 2]] w fun e w' => e = .returned (.tuple #[.agg #[.int .u8 0, .int .i64 (-4)], .int .i64 0]) ∧ Ext w w' :=
  op2_num10 (-7) 2 (by omega) (by omega) (by omega) (by omega) (by decide : ¬ (2 : Int) = 0) w
theorem k_mod (w : World) : Calls Tryd.prog 14 #[.int .u8 11, .agg #[.int .u8 0, .int .i64 7], .agg #[.int .u8 0, .int .i64 (-2)]] w fun e w' => e = .returned (.tuple #[.agg #[.int .u8 0, .int .i64 (-1)], .int .i64 0]) ∧ Ext w w' :=
  op2_num11 7 (-2) (by omega) (by omega) (by omega) (by omega) (by decide : ¬ (-2 : Int) = 0) w
theorem k_add (w : World) : Calls Tryd.prog 14 #[.int .u8 7, .agg #[.int .u8 0, .int .i64 9999], .agg #[.int .u8 0, .int .i64 1]] w fun e w' => e = .returned (.tuple #[.agg #[.int .u8 2, .int .i64 0], .int .i64 0]) ∧ Ext w w' :=
  op2_num7 9999 1 (by omega) (by omega) (by omega) (by omega) w
theorem k_and (w : World) : Calls Tryd.prog 14 #[.int .u8 15, .agg #[.int .u8 0, .int .i64 2], .agg #[.int .u8 0, .int .i64 3]] w fun e w' => e = .returned (.tuple #[.agg #[.int .u8 0, .int .i64 3], .int .i64 0]) ∧ Ext w w' :=
  op2_and_ok 0 2 0 3 (by omega) (by omega) (by decide) (by decide) w
theorem k_choose (w : World) : Calls Tryd.prog 19 #[.agg #[.int .u8 0, .int .i64 0], .agg #[.int .u8 1, .int .i64 0], .agg #[.int .u8 0, .int .i64 2]] w fun e w' => e = .returned (.tuple #[.agg #[.int .u8 0, .int .i64 2], .int .i64 0]) ∧ Ext w w' :=
  choose_ok 0 0 1 0 0 2 (by omega) (by omega) (by omega) (by decide) (by decide) (by decide) w
theorem k_pick (b : Nat) (w : World) (h : Lies w b 0 [(0, 1), (0, 2), (0, 3), (0, 4)]) : Calls Tryd.prog 22 #[.slice (some ⟨b, 0, none⟩) 4 4, .int .i64 2, .agg #[.int .u8 0, .int .i64 1]] w fun e w' => ∃ g : Nat, e = .returned (.tuple #[.slice (some ⟨g, 0, none⟩) 2 2, .int .i64 0]) ∧ w.heap.size ≤ g ∧ RowIs w' 23 g [(0, 3), (0, 4)] ∧ Ext w w' :=
  pick_num b 0 4 4 2 2 1 [(0, 1), (0, 2), (0, 3), (0, 4)] rfl rfl (by omega) (by omega) (by omega) (by omega) (by omega) (by omega) (by omega) w h (by omega) (by omega) (by decide)
theorem k_text (w : World) (hg : Glob w) : Calls Tryd.prog 26 #[.agg #[.int .u8 0, .int .i64 (-12)]] w fun e w' => e = .returned (.tuple #[.string ⟨#[45, 49, 50]⟩, .int .i64 0]) ∧ Ext w w' := by
  have h := text_num (-12) (by omega) (by omega) w hg
  rwa [show (Lib.itoa (-12)).toArray = #[45, 49, 50] by decide +kernel] at h
theorem k_read (w : World) (hg : Glob w) : Calls Tryd.prog 28 #[.string ⟨#[45, 48]⟩] w fun e w' => e = .returned (.tuple #[.agg #[.int .u8 0, .int .i64 0], .int .i64 4]) ∧ Ext w w' :=
  read_other ⟨#[45, 48]⟩ (by decide +kernel) ⟨by decide +kernel, by decide +kernel, by decide +kernel, by decide +kernel⟩ 0 (by decide +kernel) (by omega) (by omega) (.inl (by decide +kernel)) w hg
theorem k_less (w : World) : Calls Tryd.prog 30 #[.agg #[.int .u8 0, .int .i64 9999], .agg #[.int .u8 1, .int .i64 0]] w fun e w' => e = .returned (.tuple #[.bool true, .int .i64 0]) ∧ Ext w w' :=
  less_ok 0 9999 1 0 (by omega) (by omega) (by decide) (by decide) w
theorem k_faults (b : Nat) (w : World) (h : Lies w b 0 [(1, 0), (0, 4), (4, 0)]) : Calls Tryd.prog 32 #[.slice (some ⟨b, 0, none⟩) 3 3] w fun e w' => e = .returned (.tuple #[.int .u8 9, .int .i64 0]) ∧ Ext w w' :=
  faults_some b 0 3 3 [(1, 0), (0, 4), (4, 0)] w rfl (by omega) h (by decide)
theorem k_not (w : World) : Calls Tryd.prog 41 #[.int .u8 6, .agg #[.int .u8 0, .int .i64 0]] w fun e w' => e = .returned (.tuple #[.agg #[.int .u8 0, .int .i64 1], .int .i64 0]) ∧ Ext w w' :=
  op1_not 0 (by omega) (by omega) w
theorem k_make (w : World) : Calls Tryd.prog 42 #[.int .i64 10000] w fun e w' => e = .returned (.agg #[.int .u8 2, .int .i64 0]) ∧ Ext w w' :=
  make_any 10000 w
theorem k_same (b1 b2 : Nat) (w : World) (h1 : Lies w b1 0 [(0, 3), (0, 4)]) (h2 : Lies w b2 0 [(0, 3), (0, 4)]) : Calls Tryd.prog 23 #[.slice (some ⟨b1, 0, none⟩) 2 2, .slice (some ⟨b2, 0, none⟩) 2 2] w fun e w' => e = .returned (.bool true) ∧ Ext w w' :=
  same_lies b1 0 2 b2 0 2 2 [(0, 3), (0, 4)] [(0, 3), (0, 4)] w rfl rfl (by omega) h1 h2
end Go.Proofs.YtaddlhebhiehgaaDoor
