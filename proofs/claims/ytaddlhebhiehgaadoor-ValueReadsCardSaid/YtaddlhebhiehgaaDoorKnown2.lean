/-
  The walk of mistlaw07's 'known': the whole.
-/
import Derived.Test.YtaddlhebhiehgaaDoorKnown
namespace Go.Proofs.YtaddlhebhiehgaaDoor
open Go.RowKit Go.Shelf

set_option maxRecDepth 100000 in
set_option maxHeartbeats 4000000 in
theorem known_any (w : World) (hg : Glob w) : Calls Tryd.prog 17 #[] w fun e w' => e = .returned (.bool true) ∧ Ext w w' := by
  have hg0 := hg; clear hg
  go_enter Tryd.func17, Tryd.ntmps17
  go_wp2_with fail
  refine (num_any _ _).mono ?_
  rintro e a1 ⟨rfl, h1⟩
  go_wp2_with fail
  refine (num_any _ _).mono ?_
  rintro e a2 ⟨rfl, h2⟩
  go_wp2_with fail
  refine (k_div _).mono ?_
  rintro e a3 ⟨rfl, h3⟩
  go_wp2_with fail
  refine (num_any _ _).mono ?_
  rintro e a4 ⟨rfl, h4⟩
  go_wp2_with fail
  refine (num_any _ _).mono ?_
  rintro e a5 ⟨rfl, h5⟩
  go_wp2_with fail
  refine (k_mod _).mono ?_
  rintro e a6 ⟨rfl, h6⟩
  go_wp2_with fail
  refine (num_any _ _).mono ?_
  rintro e a7 ⟨rfl, h7⟩
  go_wp2_with fail
  refine (num_any _ _).mono ?_
  rintro e a8 ⟨rfl, h8⟩
  go_wp2_with fail
  refine (k_add _).mono ?_
  rintro e a9 ⟨rfl, h9⟩
  go_wp2_with fail
  refine (num_any _ _).mono ?_
  rintro e a10 ⟨rfl, h10⟩
  go_wp2_with fail
  refine (num_any _ _).mono ?_
  rintro e a11 ⟨rfl, h11⟩
  go_wp2_with fail
  refine (k_and _).mono ?_
  rintro e a12 ⟨rfl, h12⟩
  go_wp2_with fail
  refine (num_any _ _).mono ?_
  rintro e a13 ⟨rfl, h13⟩
  go_wp2_with fail
  refine (bad_any _ _).mono ?_
  rintro e a14 ⟨rfl, h14⟩
  go_wp2_with fail
  refine (num_any _ _).mono ?_
  rintro e a15 ⟨rfl, h15⟩
  go_wp2_with fail
  refine (k_choose _).mono ?_
  rintro e a16 ⟨rfl, h16⟩
  go_wp2_with fail
  refine (num_any _ _).mono ?_
  rintro e a17 ⟨rfl, h17⟩
  go_wp2_with fail
  refine (num_any _ _).mono ?_
  rintro e a18 ⟨rfl, h18⟩
  go_wp2_with fail
  refine (num_any _ _).mono ?_
  rintro e a19 ⟨rfl, h19⟩
  go_wp2_with fail
  refine (num_any _ _).mono ?_
  rintro e a20 ⟨rfl, h20⟩
  go_wp2_with fail
  refine (num_any _ _).mono ?_
  rintro e a21 ⟨rfl, h21⟩
  go_wp2_with fail
  refine (k_pick _ _ ((lies4 a20 _ 0 1 0 2 0 3 0 4 (by omega) (by omega) (by omega) (by omega) _ rfl).below h21)).mono ?_
  rintro e a22 ⟨g, rfl, hg, hrow, h22⟩
  have HROW := Lib.hid hrow; clear hrow hg
  go_wp2_with fail
  refine (num_any _ _).mono ?_
  rintro e a23 ⟨rfl, h23⟩
  go_wp2_with fail
  refine (k_text _ (hg0.ext (by repeat' (first | (with_reducible exact Ext.refl _) | (with_reducible assumption) | (with_reducible refine Ext.alloc ?_ _) | (with_reducible refine Ext.drew ?_) | (with_reducible refine Ext.drewN ?_ _) | (with_reducible refine Ext.setCell ?_ ?_ _) | (with_reducible refine Ext.trans ?_ (by assumption)) | go_size)))).mono ?_
  rintro e a24 ⟨rfl, h24⟩
  go_wp2_with fail
  refine (k_read _ (hg0.ext (by repeat' (first | (with_reducible exact Ext.refl _) | (with_reducible assumption) | (with_reducible refine Ext.alloc ?_ _) | (with_reducible refine Ext.drew ?_) | (with_reducible refine Ext.drewN ?_ _) | (with_reducible refine Ext.setCell ?_ ?_ _) | (with_reducible refine Ext.trans ?_ (by assumption)) | go_size)))).mono ?_
  rintro e a25 ⟨rfl, h25⟩
  go_wp2_with fail
  refine (num_any _ _).mono ?_
  rintro e a26 ⟨rfl, h26⟩
  go_wp2_with fail
  refine (bad_any _ _).mono ?_
  rintro e a27 ⟨rfl, h27⟩
  go_wp2_with fail
  refine (k_less _).mono ?_
  rintro e a28 ⟨rfl, h28⟩
  go_wp2_with fail
  refine (bad_any _ _).mono ?_
  rintro e a29 ⟨rfl, h29⟩
  go_wp2_with fail
  refine (num_any _ _).mono ?_
  rintro e a30 ⟨rfl, h30⟩
  go_wp2_with fail
  refine (bad_any _ _).mono ?_
  rintro e a31 ⟨rfl, h31⟩
  go_wp2_with fail
  refine (k_faults _ _ (lies3 _ _ _ _ _ _ _ _ (by omega) (by omega) (by omega) _ (by simp))).mono ?_
  rintro e a32 ⟨rfl, h32⟩
  go_wp2_with fail
  refine (num_any _ _).mono ?_
  rintro e a33 ⟨rfl, h33⟩
  go_wp2_with fail
  refine (k_not _).mono ?_
  rintro e a34 ⟨rfl, h34⟩
  go_wp2_with fail
  have hL : Ext w (a34.alloc (.cells #[.int .u8 0, .int .i64 1] 23)) := (by repeat' (first | (with_reducible exact Ext.refl _) | (with_reducible assumption) | (with_reducible refine Ext.alloc ?_ _) | (with_reducible refine Ext.drew ?_) | (with_reducible refine Ext.drewN ?_ _) | (with_reducible refine Ext.setCell ?_ ?_ _) | (with_reducible refine Ext.trans ?_ (by assumption)) | go_size))
  have q3 := fun (W : World) (h : Ext (a3.alloc (.cells #[.int .u8 0, .int .i64 (-4)] 23)) W) => cells_one (x := .int .u8 0) (y := .int .i64 (-4)) h
  have q6 := fun (W : World) (h : Ext (a6.alloc (.cells #[.int .u8 0, .int .i64 (-1)] 23)) W) => cells_one (x := .int .u8 0) (y := .int .i64 (-1)) h
  have q9 := fun (W : World) (h : Ext (a9.alloc (.cells #[.int .u8 2, .int .i64 0] 23)) W) => cells_one (x := .int .u8 2) (y := .int .i64 0) h
  have q12 := fun (W : World) (h : Ext (a12.alloc (.cells #[.int .u8 0, .int .i64 3] 23)) W) => cells_one (x := .int .u8 0) (y := .int .i64 3) h
  have q16 := fun (W : World) (h : Ext (a16.alloc (.cells #[.int .u8 0, .int .i64 2] 23)) W) => cells_one (x := .int .u8 0) (y := .int .i64 2) h
  have q34 := fun (W : World) (h : Ext (a34.alloc (.cells #[.int .u8 0, .int .i64 1] 23)) W) => cells_one (x := .int .u8 0) (y := .int .i64 1) h
  have KS : ∀ W : World, Ext (a34.alloc (.cells #[.int .u8 0, .int .i64 1] 23)) W → (W.cell? ⟨a3.heap.size, 0, none⟩ = some (.int .u8 0) ∧ W.cell? ⟨a3.heap.size, 1, none⟩ = some (.int .i64 (-4)) ∧ W.cell? ⟨a6.heap.size, 0, none⟩ = some (.int .u8 0) ∧ W.cell? ⟨a6.heap.size, 1, none⟩ = some (.int .i64 (-1)) ∧ W.cell? ⟨a9.heap.size, 0, none⟩ = some (.int .u8 2) ∧ W.cell? ⟨a9.heap.size, 1, none⟩ = some (.int .i64 0) ∧ W.cell? ⟨a12.heap.size, 0, none⟩ = some (.int .u8 0) ∧ W.cell? ⟨a12.heap.size, 1, none⟩ = some (.int .i64 3) ∧ W.cell? ⟨a16.heap.size, 0, none⟩ = some (.int .u8 0) ∧ W.cell? ⟨a16.heap.size, 1, none⟩ = some (.int .i64 2) ∧ W.cell? ⟨a34.heap.size, 0, none⟩ = some (.int .u8 0) ∧ W.cell? ⟨a34.heap.size, 1, none⟩ = some (.int .i64 1)) := fun W hW => ⟨(q3 W (by repeat' (first | (with_reducible exact Ext.refl _) | (with_reducible assumption) | (with_reducible refine Ext.alloc ?_ _) | (with_reducible refine Ext.drew ?_) | (with_reducible refine Ext.drewN ?_ _) | (with_reducible refine Ext.setCell ?_ ?_ _) | (with_reducible refine Ext.trans ?_ (by assumption)) | go_size))).1, (q3 W (by repeat' (first | (with_reducible exact Ext.refl _) | (with_reducible assumption) | (with_reducible refine Ext.alloc ?_ _) | (with_reducible refine Ext.drew ?_) | (with_reducible refine Ext.drewN ?_ _) | (with_reducible refine Ext.setCell ?_ ?_ _) | (with_reducible refine Ext.trans ?_ (by assumption)) | go_size))).2, (q6 W (by repeat' (first | (with_reducible exact Ext.refl _) | (with_reducible assumption) | (with_reducible refine Ext.alloc ?_ _) | (with_reducible refine Ext.drew ?_) | (with_reducible refine Ext.drewN ?_ _) | (with_reducible refine Ext.setCell ?_ ?_ _) | (with_reducible refine Ext.trans ?_ (by assumption)) | go_size))).1, (q6 W (by repeat' (first | (with_reducible exact Ext.refl _) | (with_reducible assumption) | (with_reducible refine Ext.alloc ?_ _) | (with_reducible refine Ext.drew ?_) | (with_reducible refine Ext.drewN ?_ _) | (with_reducible refine Ext.setCell ?_ ?_ _) | (with_reducible refine Ext.trans ?_ (by assumption)) | go_size))).2, (q9 W (by repeat' (first | (with_reducible exact Ext.refl _) | (with_reducible assumption) | (with_reducible refine Ext.alloc ?_ _) | (with_reducible refine Ext.drew ?_) | (with_reducible refine Ext.drewN ?_ _) | (with_reducible refine Ext.setCell ?_ ?_ _) | (with_reducible refine Ext.trans ?_ (by assumption)) | go_size))).1, (q9 W (by repeat' (first | (with_reducible exact Ext.refl _) | (with_reducible assumption) | (with_reducible refine Ext.alloc ?_ _) | (with_reducible refine Ext.drew ?_) | (with_reducible refine Ext.drewN ?_ _) | (with_reducible refine Ext.setCell ?_ ?_ _) | (with_reducible refine Ext.trans ?_ (by assumption)) | go_size))).2, (q12 W (by repeat' (first | (with_reducible exact Ext.refl _) | (with_reducible assumption) | (with_reducible refine Ext.alloc ?_ _) | (with_reducible refine Ext.drew ?_) | (with_reducible refine Ext.drewN ?_ _) | (with_reducible refine Ext.setCell ?_ ?_ _) | (with_reducible refine Ext.trans ?_ (by assumption)) | go_size))).1, (q12 W (by repeat' (first | (with_reducible exact Ext.refl _) | (with_reducible assumption) | (with_reducible refine Ext.alloc ?_ _) | (with_reducible refine Ext.drew ?_) | (with_reducible refine Ext.drewN ?_ _) | (with_reducible refine Ext.setCell ?_ ?_ _) | (with_reducible refine Ext.trans ?_ (by assumption)) | go_size))).2, (q16 W (by repeat' (first | (with_reducible exact Ext.refl _) | (with_reducible assumption) | (with_reducible refine Ext.alloc ?_ _) | (with_reducible refine Ext.drew ?_) | (with_reducible refine Ext.drewN ?_ _) | (with_reducible refine Ext.setCell ?_ ?_ _) | (with_reducible refine Ext.trans ?_ (by assumption)) | go_size))).1, (q16 W (by repeat' (first | (with_reducible exact Ext.refl _) | (with_reducible assumption) | (with_reducible refine Ext.alloc ?_ _) | (with_reducible refine Ext.drew ?_) | (with_reducible refine Ext.drewN ?_ _) | (with_reducible refine Ext.setCell ?_ ?_ _) | (with_reducible refine Ext.trans ?_ (by assumption)) | go_size))).2, (q34 W (by repeat' (first | (with_reducible exact Ext.refl _) | (with_reducible assumption) | (with_reducible refine Ext.alloc ?_ _) | (with_reducible refine Ext.drew ?_) | (with_reducible refine Ext.drewN ?_ _) | (with_reducible refine Ext.setCell ?_ ?_ _) | (with_reducible refine Ext.trans ?_ (by assumption)) | go_size))).1, (q34 W (by repeat' (first | (with_reducible exact Ext.refl _) | (with_reducible assumption) | (with_reducible refine Ext.alloc ?_ _) | (with_reducible refine Ext.drew ?_) | (with_reducible refine Ext.drewN ?_ _) | (with_reducible refine Ext.setCell ?_ ?_ _) | (with_reducible refine Ext.trans ?_ (by assumption)) | go_size))).2⟩
  have K2 : ∀ W : World, Ext (a34.alloc (.cells #[.int .u8 0, .int .i64 1] 23)) W → RowIs W 23 g [(0, 3), (0, 4)] := fun W hW => HROW.out.ext (by repeat' (first | (with_reducible exact Ext.refl _) | (with_reducible assumption) | (with_reducible refine Ext.alloc ?_ _) | (with_reducible refine Ext.drew ?_) | (with_reducible refine Ext.drewN ?_ _) | (with_reducible refine Ext.setCell ?_ ?_ _) | (with_reducible refine Ext.trans ?_ (by assumption)) | go_size))
  have KS := Lib.hid KS
  have K2 := Lib.hid K2
  clear q3 q6 q9 q12 q16 q34
  have hfin := Lib.hid hL
  clear hL h1 h2 h3 h4 h5 h6 h7 h8 h9 h10 h11 h12 h13 h14 h15 h16 h17 h18 h19 h20 h21 h22 h23 h24 h25 h26 h27 h28 h29 h30 h31 h32 h33 h34
  go_region_held3 (fun W => W.cell? ⟨a3.heap.size, 0, none⟩ = some (.int .u8 0) ∧ W.cell? ⟨a3.heap.size, 1, none⟩ = some (.int .i64 (-4)) ∧ W.cell? ⟨a6.heap.size, 0, none⟩ = some (.int .u8 0) ∧ W.cell? ⟨a6.heap.size, 1, none⟩ = some (.int .i64 (-1)) ∧ W.cell? ⟨a9.heap.size, 0, none⟩ = some (.int .u8 2) ∧ W.cell? ⟨a9.heap.size, 1, none⟩ = some (.int .i64 0) ∧ W.cell? ⟨a12.heap.size, 0, none⟩ = some (.int .u8 0) ∧ W.cell? ⟨a12.heap.size, 1, none⟩ = some (.int .i64 3) ∧ W.cell? ⟨a16.heap.size, 0, none⟩ = some (.int .u8 0) ∧ W.cell? ⟨a16.heap.size, 1, none⟩ = some (.int .i64 2) ∧ W.cell? ⟨a34.heap.size, 0, none⟩ = some (.int .u8 0) ∧ W.cell? ⟨a34.heap.size, 1, none⟩ = some (.int .i64 1)) (first | exact KS.out _ (by repeat' (first | (with_reducible exact Ext.refl _) | (with_reducible assumption) | (with_reducible refine Ext.alloc ?_ _) | (with_reducible refine Ext.drew ?_) | (with_reducible refine Ext.drewN ?_ _) | (with_reducible refine Ext.setCell ?_ ?_ _) | (with_reducible refine Ext.trans ?_ (by assumption)) | go_size))) (first | (go_at_call 16; refine (num_any _ _).mono ?_; rintro e x1 ⟨rfl, y1⟩) | (go_at_call 39; refine (bad_any _ _).mono ?_; rintro e x2 ⟨rfl, y2⟩) | (go_at_call 42; refine (k_make _).mono ?_; rintro e x3 ⟨rfl, y3⟩) | (go_at_call 23; refine (k_same _ _ _ (RowIs.lies (K2.out _ (by repeat' (first | (with_reducible exact Ext.refl _) | (with_reducible assumption) | (with_reducible refine Ext.alloc ?_ _) | (with_reducible refine Ext.drew ?_) | (with_reducible refine Ext.drewN ?_ _) | (with_reducible refine Ext.setCell ?_ ?_ _) | (with_reducible refine Ext.trans ?_ (by assumption)) | go_size))) (by decide)) (lies2 _ _ _ _ _ _ (by omega) (by omega) _ (by simp))).mono ?_; rintro e x4 ⟨rfl, y4⟩))
  go_wp2
  go_returns
  exact ⟨rfl, Ext.trans hfin.out (by repeat' (first | (with_reducible exact Ext.refl _) | (with_reducible assumption) | (with_reducible refine Ext.alloc ?_ _) | (with_reducible refine Ext.drew ?_) | (with_reducible refine Ext.drewN ?_ _) | (with_reducible refine Ext.setCell ?_ ?_ _) | (with_reducible refine Ext.trans ?_ (by assumption)) | go_size))⟩

end Go.Proofs.YtaddlhebhiehgaaDoor
