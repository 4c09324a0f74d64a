/-
  Part 22 of a proof: HFn38 HFn39 HFn40 HFn41 HFn42.
-/
import Derived.Test.YtdokmmhjmclmnaaGreatMP04
import Derived.Test.YtdokmmhjmclmnaaGreatMP10
import Derived.Test.YtdokmmhjmclmnaaGreatMP17
set_option linter.unusedSimpArgs false
set_option linter.unusedVariables false
set_option linter.unusedSectionVars false
set_option linter.unnecessarySimpa false
namespace Go.Proofs.YtdokmmhjmclmnaaGreat
open Go.RowKit Go.Maps
set_option maxRecDepth 100000 in
set_option maxHeartbeats 8000000 in
theorem note_any {w0 w : World} {sb : Nat} {d : Hd} {s : Hp.Sc} {p1 p2 : Option Addr} {k1 k2 : Nat} {r e : Int} {isA : Bool} (h : ScAt w0 w sb d s p1 k1 p2 k2) (hl1 : s.res.length < 1000000) (hl2 : s.ats.length < 1000000) (hr1 : -9223372036854775808 ≤ r) (hr2 : r ≤ 9223372036854775807) (he1 : -100000 ≤ e) (he2 : e ≤ 100000) :
    Calls Tryz.prog 142 #[.pointer (some ⟨sb, 0, none⟩), .int .i64 r, .int .i64 e, .bool isA] w fun e' w' => e' = .returned (.tuple #[]) ∧ ∃ q1 c1 q2 c2, ScAt w0 w' sb d (s.note r e isA) q1 c1 q2 c2 := by
  obtain ⟨x, hx⟩ : ∃ x, (if e ≠ 0 then -e else r) = x := ⟨_, rfl⟩
  obtain ⟨y, hy⟩ : ∃ y, (if e ≠ 0 then 0 else if isA then r else 0) = y := ⟨_, rfl⟩
  have hn : s.note r e isA = ⟨s.S, s.res ++ [x], s.ats ++ [y]⟩ := by simp only [Hp.Sc.note, hx, hy]
  rw [hn]; clear hn; have bx : -9223372036854775808 ≤ x ∧ x ≤ 9223372036854775807 := by rw [← hx]; split <;> omega
  have by_ : -9223372036854775808 ≤ y ∧ y ≤ 9223372036854775807 := by rw [← hy]; split <;> (try split) <;> omega
  have B := Lib.hid h.toB; have c1 := h.h1; have c2 := h.h2; have z1 := h.lt1; have HX := Lib.hid hx; have HY := Lib.hid hy; clear h; have cases3 : (e ≠ 0 ∧ x = -e ∧ y = 0) ∨ (e = 0 ∧ isA = true ∧ x = r ∧ y = r) ∨ (e = 0 ∧ isA = false ∧ x = r ∧ y = 0) := by
   rw [← hx, ← hy]
   by_cases h0 : e = 0
   · subst h0
     cases isA <;> simp
   · simp [h0]
  have h0 := Lib.hid (fun b o (e' : p1 = some ⟨b, o, none⟩) => ScB.rlt B.out.r1 e'); clear hx hy
  rcases cases3 with ⟨h0', hx, hy⟩ | ⟨rfl, rfl, hx, hy⟩ | ⟨rfl, rfl, hx, hy⟩
  all_goals (rw [hx] at bx ⊢; rw [hy] at by_ ⊢; clear HX HY hx hy x y)
  · skip
    have t0 : (e != 0) = true := by simpa using h0'
    have wn : IntKind.i64.wrap (-e) = -e := IntWalk.i64_in _ (by omega); go_enter Tryz.func142, Tryz.ntmps142; go_upto_region 5 with (fail)
    refine wp_region_any (by kernel_rfl) ?_; refine' tkA 1 rfl ?hy1_1 ?_
    case hy1_1 => (intro w; go_simp; try with_reducible rfl)
    refine layy ?_; refine wpAny_to_X (S := (fun W : World => W.cell? ⟨sb, 1, none⟩ = some (.slice p1 s.res.length k1) ∧ W.cell? ⟨sb, 2, none⟩ = some (.slice p2 s.ats.length k2))) (R := Eq) 16 15 (fun _ => rfl) (by exact ⟨c1, c2⟩) ?_ (by rfl); refine' tkE 0 rfl ?hy0_2 ?_
    case hy0_2 => (intro w _; go_simp; try with_reducible rfl)
    refine layy ?_; refine' tkE 2 rfl ?hy2_3 ?_
    case hy2_3 => (intro w _; go_simp; try with_reducible rfl)
    refine layy ?_; refine' tkE 3 rfl ?hy3_4 ?_
    case hy3_4 => (intro w _; go_simp; try with_reducible rfl)
    refine layy ?_; refine' tkE 4 rfl ?hy4_5 ?_
    case hy4_5 => (intro w _; go_simp; try with_reducible rfl)
    refine layy ?_; refine' tkE 5 rfl ?hy5_6 ?_
    case hy5_6 => (intro w hSw; (obtain ⟨q1, q2⟩ := hSw); go_simp; try with_reducible rfl)
    refine layy ?_; refine' tkE 6 rfl ?hy6_7 ?_
    case hy6_7 => (intro w _; go_simp; try with_reducible rfl)
    refine layy ?_; refine' tkE 9 rfl ?hy9_8 ?_
    case hy9_8 => (intro w _; go_simp; try with_reducible rfl)
    refine layy ?_; refine' tkE 10 rfl ?hy10_9 ?_
    case hy10_9 => (intro w _; go_simp; try with_reducible rfl)
    refine layy ?_; refine' tkE 11 rfl ?hy11_10 ?_
    case hy11_10 => (intro w _; go_simp; try with_reducible rfl)
    refine layy ?_; refine' tkE 12 rfl ?hy12_11 ?_
    case hy12_11 => (intro w hSw; (obtain ⟨q1, q2⟩ := hSw); go_simp; try with_reducible rfl)
    refine layy ?_; refine' tkE 13 rfl ?hy13_12 ?_
    case hy13_12 => (intro w _; go_simp; try with_reducible rfl)
    refine layy ?_; have BD := Lib.hid (B.out.ext (Ext.drew (Ext.refl w))); change wpAnyX _ _ _ _ _ _ _ _ _ _ _ (World.drew w); generalize World.drew w = wd at BD ⊢; refine wpAnyX_fork [7, 14] (by kernel_rfl) (by simp) (by simp) ?_; intro i hi; have hi : i = 7 ∨ i = 14 := by simpa using hi
    rcases hi with rfl | rfl
    · have B0_7 := Lib.hid (BD.out.ext (Ext.alloc (Ext.refl wd) (.cells #[.int .i64 (-e)] 3))); have e7 : (wd.alloc (.cells #[.int .i64 (-e)] 3)).cell? ⟨wd.heap.size, 0, none⟩ = some (.int .i64 (-e)) := by simp [go_sem]
      refine wpOp_value (i := 7) (v := .slice (some ⟨wd.heap.size, 0, none⟩) 1 1) (w'' := wd.alloc (.cells #[.int .i64 (-e)] 3)) rfl (by rfl) (by go_simp) ⟨⟨B0_7.out.h1, B0_7.out.h2⟩, ?_⟩; refine layy ?_; generalize wd.alloc (.cells #[.int .i64 (-e)] 3) = w0_7 at *; refine wpAnyX_fork [8, 14] (by kernel_rfl) (by simp) (by simp) ?_; intro i hi; have hi : i = 8 ∨ i = 14 := by simpa using hi
      rcases hi with rfl | rfl
      · refine wpOp_append (.tmp 22) (.tmp 24) rfl rfl (by rfl) rfl rfl B0_7.out.r1 e7 (by omega) (by omega) (by omega) ?_; intro ga ca w1_8 rowa hRa hGa hrowa hga hlta; have B1_8 := Lib.hid (B0_7.out.grow1 hRa hGa hrowa hga); refine ⟨⟨B1_8.out.h1, B1_8.out.h2⟩, ?_⟩; refine layy ?_; refine wpAnyX_fork [14] (by kernel_rfl) (by simp) (by simp) ?_; intro i hi; obtain rfl : i = 14 := by simpa using hi
        have B2_14 := Lib.hid (B1_8.out.ext (Ext.alloc (Ext.refl w1_8) (.cells #[.int .i64 (0)] 3))); have e14 : (w1_8.alloc (.cells #[.int .i64 (0)] 3)).cell? ⟨w1_8.heap.size, 0, none⟩ = some (.int .i64 (0)) := by simp [go_sem]
        refine wpOp_value (i := 14) (v := .slice (some ⟨w1_8.heap.size, 0, none⟩) 1 1) (w'' := w1_8.alloc (.cells #[.int .i64 (0)] 3)) rfl (by rfl) (by go_simp) ⟨⟨B2_14.out.h1, B2_14.out.h2⟩, ?_⟩; refine layy ?_; generalize w1_8.alloc (.cells #[.int .i64 (0)] 3) = w2_14 at *; refine wpAnyX_fork [15] (by kernel_rfl) (by simp) (by simp) ?_; intro i hi; obtain rfl : i = 15 := by simpa using hi
        refine wpOp_append (.tmp 29) (.tmp 31) rfl rfl (by rfl) rfl rfl B2_14.out.r2 e14 (by omega) (by omega) (by omega) ?_; intro gb cb w3_15 rowb hRb hGb hrowb hgb hltb; have B3_15 := Lib.hid (B2_14.out.grow2 hRb hGb hrowb hgb); refine ⟨⟨B3_15.out.h1, B3_15.out.h2⟩, ?_⟩; refine layy ?_; refine wpAnyX_done (by kernel_rfl) ?_; intro w9 e9 _; subst e9; simp only [List.drop_succ_cons, List.drop_zero]; have y1 := B3_15.out.h1; have y2 := B3_15.out.h2; have y3 := B3_15.out.fz 1; have y4 := B3_15.out.fz 2; have FIN := B3_15.out.stored; simp only [List.length_append, List.length_singleton] at FIN; have FINH := Lib.hid FIN; clear FIN
        go_wp2_with fail
        go_returns; exact ⟨rfl, _, _, _, _, FINH.out⟩
      · have B1_14 := Lib.hid (B0_7.out.ext (Ext.alloc (Ext.refl w0_7) (.cells #[.int .i64 (0)] 3))); have e14 : (w0_7.alloc (.cells #[.int .i64 (0)] 3)).cell? ⟨w0_7.heap.size, 0, none⟩ = some (.int .i64 (0)) := by simp [go_sem]
        have far14 : ∀ b o, p1 = some ⟨b, o, none⟩ → b ≠ w0_7.heap.size := fun b o e' => by have := ScB.rlt B0_7.out.r1 e'; omega
        refine wpOp_value (i := 14) (v := .slice (some ⟨w0_7.heap.size, 0, none⟩) 1 1) (w'' := w0_7.alloc (.cells #[.int .i64 (0)] 3)) rfl (by rfl) (by go_simp) ⟨⟨B1_14.out.h1, B1_14.out.h2⟩, ?_⟩; refine layy ?_; have e7 := ((Ext.alloc (Ext.refl w0_7) (.cells #[.int .i64 (0)] 3)).cell (cell_lt e7) 0).trans e7; generalize w0_7.alloc (.cells #[.int .i64 (0)] 3) = w1_14 at *; refine wpAnyX_fork [8] (by kernel_rfl) (by simp) (by simp) ?_; intro i hi; obtain rfl : i = 8 := by simpa using hi
        refine wpOp_append (.tmp 22) (.tmp 24) rfl rfl (by rfl) rfl rfl B1_14.out.r1 e7 (by omega) (by omega) (by omega) ?_; intro ga ca w2_8 rowa hRa hGa hrowa hga hlta; have B2_8 := Lib.hid (B1_14.out.grow1 hRa hGa hrowa hga); refine ⟨⟨B2_8.out.h1, B2_8.out.h2⟩, ?_⟩; refine layy ?_; have e14 : w2_8.cell? ⟨_, 0, none⟩ = some (.int .i64 (0)) := (World.cell?_of_block (hGa.block _ (cell_lt e14) (fun e' => far14 _ 0 (hrowa _ e'.symm) rfl))).trans e14; refine wpAnyX_fork [15] (by kernel_rfl) (by simp) (by simp) ?_; intro i hi; obtain rfl : i = 15 := by simpa using hi
        refine wpOp_append (.tmp 29) (.tmp 31) rfl rfl (by rfl) rfl rfl B2_8.out.r2 e14 (by omega) (by omega) (by omega) ?_; intro gb cb w3_15 rowb hRb hGb hrowb hgb hltb; have B3_15 := Lib.hid (B2_8.out.grow2 hRb hGb hrowb hgb); refine ⟨⟨B3_15.out.h1, B3_15.out.h2⟩, ?_⟩; refine layy ?_; refine wpAnyX_done (by kernel_rfl) ?_; intro w9 e9 _; subst e9; simp only [List.drop_succ_cons, List.drop_zero]; have y1 := B3_15.out.h1; have y2 := B3_15.out.h2; have y3 := B3_15.out.fz 1; have y4 := B3_15.out.fz 2; have FIN := B3_15.out.stored; simp only [List.length_append, List.length_singleton] at FIN; have FINH := Lib.hid FIN; clear FIN
        go_wp2_with fail
        go_returns; exact ⟨rfl, _, _, _, _, FINH.out⟩
    · have B0_14 := Lib.hid (BD.out.ext (Ext.alloc (Ext.refl wd) (.cells #[.int .i64 (0)] 3))); have e14 : (wd.alloc (.cells #[.int .i64 (0)] 3)).cell? ⟨wd.heap.size, 0, none⟩ = some (.int .i64 (0)) := by simp [go_sem]
      have far14 : ∀ b o, p1 = some ⟨b, o, none⟩ → b ≠ wd.heap.size := fun b o e' => by have := ScB.rlt BD.out.r1 e'; omega
      refine wpOp_value (i := 14) (v := .slice (some ⟨wd.heap.size, 0, none⟩) 1 1) (w'' := wd.alloc (.cells #[.int .i64 (0)] 3)) rfl (by rfl) (by go_simp) ⟨⟨B0_14.out.h1, B0_14.out.h2⟩, ?_⟩; refine layy ?_; generalize wd.alloc (.cells #[.int .i64 (0)] 3) = w0_14 at *; refine wpAnyX_fork [7] (by kernel_rfl) (by simp) (by simp) ?_; intro i hi; obtain rfl : i = 7 := by simpa using hi
      have B1_7 := Lib.hid (B0_14.out.ext (Ext.alloc (Ext.refl w0_14) (.cells #[.int .i64 (-e)] 3))); have e7 : (w0_14.alloc (.cells #[.int .i64 (-e)] 3)).cell? ⟨w0_14.heap.size, 0, none⟩ = some (.int .i64 (-e)) := by simp [go_sem]
      refine wpOp_value (i := 7) (v := .slice (some ⟨w0_14.heap.size, 0, none⟩) 1 1) (w'' := w0_14.alloc (.cells #[.int .i64 (-e)] 3)) rfl (by rfl) (by go_simp) ⟨⟨B1_7.out.h1, B1_7.out.h2⟩, ?_⟩; refine layy ?_; have e14 := ((Ext.alloc (Ext.refl w0_14) (.cells #[.int .i64 (-e)] 3)).cell (cell_lt e14) 0).trans e14; generalize w0_14.alloc (.cells #[.int .i64 (-e)] 3) = w1_7 at *; refine wpAnyX_fork [8] (by kernel_rfl) (by simp) (by simp) ?_; intro i hi; obtain rfl : i = 8 := by simpa using hi
      refine wpOp_append (.tmp 22) (.tmp 24) rfl rfl (by rfl) rfl rfl B1_7.out.r1 e7 (by omega) (by omega) (by omega) ?_; intro ga ca w2_8 rowa hRa hGa hrowa hga hlta; have B2_8 := Lib.hid (B1_7.out.grow1 hRa hGa hrowa hga); refine ⟨⟨B2_8.out.h1, B2_8.out.h2⟩, ?_⟩; refine layy ?_; have e14 : w2_8.cell? ⟨_, 0, none⟩ = some (.int .i64 (0)) := (World.cell?_of_block (hGa.block _ (cell_lt e14) (fun e' => far14 _ 0 (hrowa _ e'.symm) rfl))).trans e14; refine wpAnyX_fork [15] (by kernel_rfl) (by simp) (by simp) ?_; intro i hi; obtain rfl : i = 15 := by simpa using hi
      refine wpOp_append (.tmp 29) (.tmp 31) rfl rfl (by rfl) rfl rfl B2_8.out.r2 e14 (by omega) (by omega) (by omega) ?_; intro gb cb w3_15 rowb hRb hGb hrowb hgb hltb; have B3_15 := Lib.hid (B2_8.out.grow2 hRb hGb hrowb hgb); refine ⟨⟨B3_15.out.h1, B3_15.out.h2⟩, ?_⟩; refine layy ?_; refine wpAnyX_done (by kernel_rfl) ?_; intro w9 e9 _; subst e9; simp only [List.drop_succ_cons, List.drop_zero]; have y1 := B3_15.out.h1; have y2 := B3_15.out.h2; have y3 := B3_15.out.fz 1; have y4 := B3_15.out.fz 2; have FIN := B3_15.out.stored; simp only [List.length_append, List.length_singleton] at FIN; have FINH := Lib.hid FIN; clear FIN
      go_wp2_with fail
      go_returns; exact ⟨rfl, _, _, _, _, FINH.out⟩
  · skip
    go_enter Tryz.func142, Tryz.ntmps142; go_upto_region 5 with (fail)
    refine wp_region_any (by kernel_rfl) ?_; refine' tkA 1 rfl ?hy1_13 ?_
    case hy1_13 => (intro w; go_simp; try with_reducible rfl)
    refine layy ?_; refine wpAny_to_X (S := (fun W : World => W.cell? ⟨sb, 1, none⟩ = some (.slice p1 s.res.length k1) ∧ W.cell? ⟨sb, 2, none⟩ = some (.slice p2 s.ats.length k2))) (R := Eq) 16 15 (fun _ => rfl) (by exact ⟨c1, c2⟩) ?_ (by rfl); refine' tkE 0 rfl ?hy0_14 ?_
    case hy0_14 => (intro w _; go_simp; try with_reducible rfl)
    refine layy ?_; refine' tkE 2 rfl ?hy2_15 ?_
    case hy2_15 => (intro w _; go_simp; try with_reducible rfl)
    refine layy ?_; refine' tkE 3 rfl ?hy3_16 ?_
    case hy3_16 => (intro w _; go_simp; try with_reducible rfl)
    refine layy ?_; refine' tkE 4 rfl ?hy4_17 ?_
    case hy4_17 => (intro w _; go_simp; try with_reducible rfl)
    refine layy ?_; refine' tkE 5 rfl ?hy5_18 ?_
    case hy5_18 => (intro w hSw; (obtain ⟨q1, q2⟩ := hSw); go_simp; try with_reducible rfl)
    refine layy ?_; refine' tkE 6 rfl ?hy6_19 ?_
    case hy6_19 => (intro w _; go_simp; try with_reducible rfl)
    refine layy ?_; refine' tkE 9 rfl ?hy9_20 ?_
    case hy9_20 => (intro w _; go_simp; try with_reducible rfl)
    refine layy ?_; refine' tkE 10 rfl ?hy10_21 ?_
    case hy10_21 => (intro w _; go_simp; try with_reducible rfl)
    refine layy ?_; refine' tkE 11 rfl ?hy11_22 ?_
    case hy11_22 => (intro w _; go_simp; try with_reducible rfl)
    refine layy ?_; refine' tkE 12 rfl ?hy12_23 ?_
    case hy12_23 => (intro w hSw; (obtain ⟨q1, q2⟩ := hSw); go_simp; try with_reducible rfl)
    refine layy ?_; refine' tkE 13 rfl ?hy13_24 ?_
    case hy13_24 => (intro w _; go_simp; try with_reducible rfl)
    refine layy ?_; have BD := Lib.hid (B.out.ext (Ext.drew (Ext.refl w))); change wpAnyX _ _ _ _ _ _ _ _ _ _ _ (World.drew w); generalize World.drew w = wd at BD ⊢; refine wpAnyX_fork [7, 14] (by kernel_rfl) (by simp) (by simp) ?_; intro i hi; have hi : i = 7 ∨ i = 14 := by simpa using hi
    rcases hi with rfl | rfl
    · have B0_7 := Lib.hid (BD.out.ext (Ext.alloc (Ext.refl wd) (.cells #[.int .i64 (r)] 3))); have e7 : (wd.alloc (.cells #[.int .i64 (r)] 3)).cell? ⟨wd.heap.size, 0, none⟩ = some (.int .i64 (r)) := by simp [go_sem]
      refine wpOp_value (i := 7) (v := .slice (some ⟨wd.heap.size, 0, none⟩) 1 1) (w'' := wd.alloc (.cells #[.int .i64 (r)] 3)) rfl (by rfl) (by go_simp) ⟨⟨B0_7.out.h1, B0_7.out.h2⟩, ?_⟩; refine layy ?_; generalize wd.alloc (.cells #[.int .i64 (r)] 3) = w0_7 at *; refine wpAnyX_fork [8, 14] (by kernel_rfl) (by simp) (by simp) ?_; intro i hi; have hi : i = 8 ∨ i = 14 := by simpa using hi
      rcases hi with rfl | rfl
      · refine wpOp_append (.tmp 22) (.tmp 24) rfl rfl (by rfl) rfl rfl B0_7.out.r1 e7 (by omega) (by omega) (by omega) ?_; intro ga ca w1_8 rowa hRa hGa hrowa hga hlta; have B1_8 := Lib.hid (B0_7.out.grow1 hRa hGa hrowa hga); refine ⟨⟨B1_8.out.h1, B1_8.out.h2⟩, ?_⟩; refine layy ?_; refine wpAnyX_fork [14] (by kernel_rfl) (by simp) (by simp) ?_; intro i hi; obtain rfl : i = 14 := by simpa using hi
        have B2_14 := Lib.hid (B1_8.out.ext (Ext.alloc (Ext.refl w1_8) (.cells #[.int .i64 (r)] 3))); have e14 : (w1_8.alloc (.cells #[.int .i64 (r)] 3)).cell? ⟨w1_8.heap.size, 0, none⟩ = some (.int .i64 (r)) := by simp [go_sem]
        refine wpOp_value (i := 14) (v := .slice (some ⟨w1_8.heap.size, 0, none⟩) 1 1) (w'' := w1_8.alloc (.cells #[.int .i64 (r)] 3)) rfl (by rfl) (by go_simp) ⟨⟨B2_14.out.h1, B2_14.out.h2⟩, ?_⟩; refine layy ?_; generalize w1_8.alloc (.cells #[.int .i64 (r)] 3) = w2_14 at *; refine wpAnyX_fork [15] (by kernel_rfl) (by simp) (by simp) ?_; intro i hi; obtain rfl : i = 15 := by simpa using hi
        refine wpOp_append (.tmp 29) (.tmp 31) rfl rfl (by rfl) rfl rfl B2_14.out.r2 e14 (by omega) (by omega) (by omega) ?_; intro gb cb w3_15 rowb hRb hGb hrowb hgb hltb; have B3_15 := Lib.hid (B2_14.out.grow2 hRb hGb hrowb hgb); refine ⟨⟨B3_15.out.h1, B3_15.out.h2⟩, ?_⟩; refine layy ?_; refine wpAnyX_done (by kernel_rfl) ?_; intro w9 e9 _; subst e9; simp only [List.drop_succ_cons, List.drop_zero]; have y1 := B3_15.out.h1; have y2 := B3_15.out.h2; have y3 := B3_15.out.fz 1; have y4 := B3_15.out.fz 2; have FIN := B3_15.out.stored; simp only [List.length_append, List.length_singleton] at FIN; have FINH := Lib.hid FIN; clear FIN
        go_wp2_with fail
        go_returns; exact ⟨rfl, _, _, _, _, FINH.out⟩
      · have B1_14 := Lib.hid (B0_7.out.ext (Ext.alloc (Ext.refl w0_7) (.cells #[.int .i64 (r)] 3))); have e14 : (w0_7.alloc (.cells #[.int .i64 (r)] 3)).cell? ⟨w0_7.heap.size, 0, none⟩ = some (.int .i64 (r)) := by simp [go_sem]
        have far14 : ∀ b o, p1 = some ⟨b, o, none⟩ → b ≠ w0_7.heap.size := fun b o e' => by have := ScB.rlt B0_7.out.r1 e'; omega
        refine wpOp_value (i := 14) (v := .slice (some ⟨w0_7.heap.size, 0, none⟩) 1 1) (w'' := w0_7.alloc (.cells #[.int .i64 (r)] 3)) rfl (by rfl) (by go_simp) ⟨⟨B1_14.out.h1, B1_14.out.h2⟩, ?_⟩; refine layy ?_; have e7 := ((Ext.alloc (Ext.refl w0_7) (.cells #[.int .i64 (r)] 3)).cell (cell_lt e7) 0).trans e7; generalize w0_7.alloc (.cells #[.int .i64 (r)] 3) = w1_14 at *; refine wpAnyX_fork [8] (by kernel_rfl) (by simp) (by simp) ?_; intro i hi; obtain rfl : i = 8 := by simpa using hi
        refine wpOp_append (.tmp 22) (.tmp 24) rfl rfl (by rfl) rfl rfl B1_14.out.r1 e7 (by omega) (by omega) (by omega) ?_; intro ga ca w2_8 rowa hRa hGa hrowa hga hlta; have B2_8 := Lib.hid (B1_14.out.grow1 hRa hGa hrowa hga); refine ⟨⟨B2_8.out.h1, B2_8.out.h2⟩, ?_⟩; refine layy ?_; have e14 : w2_8.cell? ⟨_, 0, none⟩ = some (.int .i64 (r)) := (World.cell?_of_block (hGa.block _ (cell_lt e14) (fun e' => far14 _ 0 (hrowa _ e'.symm) rfl))).trans e14; refine wpAnyX_fork [15] (by kernel_rfl) (by simp) (by simp) ?_; intro i hi; obtain rfl : i = 15 := by simpa using hi
        refine wpOp_append (.tmp 29) (.tmp 31) rfl rfl (by rfl) rfl rfl B2_8.out.r2 e14 (by omega) (by omega) (by omega) ?_; intro gb cb w3_15 rowb hRb hGb hrowb hgb hltb; have B3_15 := Lib.hid (B2_8.out.grow2 hRb hGb hrowb hgb); refine ⟨⟨B3_15.out.h1, B3_15.out.h2⟩, ?_⟩; refine layy ?_; refine wpAnyX_done (by kernel_rfl) ?_; intro w9 e9 _; subst e9; simp only [List.drop_succ_cons, List.drop_zero]; have y1 := B3_15.out.h1; have y2 := B3_15.out.h2; have y3 := B3_15.out.fz 1; have y4 := B3_15.out.fz 2; have FIN := B3_15.out.stored; simp only [List.length_append, List.length_singleton] at FIN; have FINH := Lib.hid FIN; clear FIN
        go_wp2_with fail
        go_returns; exact ⟨rfl, _, _, _, _, FINH.out⟩
    · have B0_14 := Lib.hid (BD.out.ext (Ext.alloc (Ext.refl wd) (.cells #[.int .i64 (r)] 3))); have e14 : (wd.alloc (.cells #[.int .i64 (r)] 3)).cell? ⟨wd.heap.size, 0, none⟩ = some (.int .i64 (r)) := by simp [go_sem]
      have far14 : ∀ b o, p1 = some ⟨b, o, none⟩ → b ≠ wd.heap.size := fun b o e' => by have := ScB.rlt BD.out.r1 e'; omega
      refine wpOp_value (i := 14) (v := .slice (some ⟨wd.heap.size, 0, none⟩) 1 1) (w'' := wd.alloc (.cells #[.int .i64 (r)] 3)) rfl (by rfl) (by go_simp) ⟨⟨B0_14.out.h1, B0_14.out.h2⟩, ?_⟩; refine layy ?_; generalize wd.alloc (.cells #[.int .i64 (r)] 3) = w0_14 at *; refine wpAnyX_fork [7] (by kernel_rfl) (by simp) (by simp) ?_; intro i hi; obtain rfl : i = 7 := by simpa using hi
      have B1_7 := Lib.hid (B0_14.out.ext (Ext.alloc (Ext.refl w0_14) (.cells #[.int .i64 (r)] 3))); have e7 : (w0_14.alloc (.cells #[.int .i64 (r)] 3)).cell? ⟨w0_14.heap.size, 0, none⟩ = some (.int .i64 (r)) := by simp [go_sem]
      refine wpOp_value (i := 7) (v := .slice (some ⟨w0_14.heap.size, 0, none⟩) 1 1) (w'' := w0_14.alloc (.cells #[.int .i64 (r)] 3)) rfl (by rfl) (by go_simp) ⟨⟨B1_7.out.h1, B1_7.out.h2⟩, ?_⟩; refine layy ?_; have e14 := ((Ext.alloc (Ext.refl w0_14) (.cells #[.int .i64 (r)] 3)).cell (cell_lt e14) 0).trans e14; generalize w0_14.alloc (.cells #[.int .i64 (r)] 3) = w1_7 at *; refine wpAnyX_fork [8] (by kernel_rfl) (by simp) (by simp) ?_; intro i hi; obtain rfl : i = 8 := by simpa using hi
      refine wpOp_append (.tmp 22) (.tmp 24) rfl rfl (by rfl) rfl rfl B1_7.out.r1 e7 (by omega) (by omega) (by omega) ?_; intro ga ca w2_8 rowa hRa hGa hrowa hga hlta; have B2_8 := Lib.hid (B1_7.out.grow1 hRa hGa hrowa hga); refine ⟨⟨B2_8.out.h1, B2_8.out.h2⟩, ?_⟩; refine layy ?_; have e14 : w2_8.cell? ⟨_, 0, none⟩ = some (.int .i64 (r)) := (World.cell?_of_block (hGa.block _ (cell_lt e14) (fun e' => far14 _ 0 (hrowa _ e'.symm) rfl))).trans e14; refine wpAnyX_fork [15] (by kernel_rfl) (by simp) (by simp) ?_; intro i hi; obtain rfl : i = 15 := by simpa using hi
      refine wpOp_append (.tmp 29) (.tmp 31) rfl rfl (by rfl) rfl rfl B2_8.out.r2 e14 (by omega) (by omega) (by omega) ?_; intro gb cb w3_15 rowb hRb hGb hrowb hgb hltb; have B3_15 := Lib.hid (B2_8.out.grow2 hRb hGb hrowb hgb); refine ⟨⟨B3_15.out.h1, B3_15.out.h2⟩, ?_⟩; refine layy ?_; refine wpAnyX_done (by kernel_rfl) ?_; intro w9 e9 _; subst e9; simp only [List.drop_succ_cons, List.drop_zero]; have y1 := B3_15.out.h1; have y2 := B3_15.out.h2; have y3 := B3_15.out.fz 1; have y4 := B3_15.out.fz 2; have FIN := B3_15.out.stored; simp only [List.length_append, List.length_singleton] at FIN; have FINH := Lib.hid FIN; clear FIN
      go_wp2_with fail
      go_returns; exact ⟨rfl, _, _, _, _, FINH.out⟩
  · skip
    go_enter Tryz.func142, Tryz.ntmps142; go_upto_region 5 with (fail)
    refine wp_region_any (by kernel_rfl) ?_; refine' tkA 1 rfl ?hy1_25 ?_
    case hy1_25 => (intro w; go_simp; try with_reducible rfl)
    refine layy ?_; refine wpAny_to_X (S := (fun W : World => W.cell? ⟨sb, 1, none⟩ = some (.slice p1 s.res.length k1) ∧ W.cell? ⟨sb, 2, none⟩ = some (.slice p2 s.ats.length k2))) (R := Eq) 16 15 (fun _ => rfl) (by exact ⟨c1, c2⟩) ?_ (by rfl); refine' tkE 0 rfl ?hy0_26 ?_
    case hy0_26 => (intro w _; go_simp; try with_reducible rfl)
    refine layy ?_; refine' tkE 2 rfl ?hy2_27 ?_
    case hy2_27 => (intro w _; go_simp; try with_reducible rfl)
    refine layy ?_; refine' tkE 3 rfl ?hy3_28 ?_
    case hy3_28 => (intro w _; go_simp; try with_reducible rfl)
    refine layy ?_; refine' tkE 4 rfl ?hy4_29 ?_
    case hy4_29 => (intro w _; go_simp; try with_reducible rfl)
    refine layy ?_; refine' tkE 5 rfl ?hy5_30 ?_
    case hy5_30 => (intro w hSw; (obtain ⟨q1, q2⟩ := hSw); go_simp; try with_reducible rfl)
    refine layy ?_; refine' tkE 6 rfl ?hy6_31 ?_
    case hy6_31 => (intro w _; go_simp; try with_reducible rfl)
    refine layy ?_; refine' tkE 9 rfl ?hy9_32 ?_
    case hy9_32 => (intro w _; go_simp; try with_reducible rfl)
    refine layy ?_; refine' tkE 10 rfl ?hy10_33 ?_
    case hy10_33 => (intro w _; go_simp; try with_reducible rfl)
    refine layy ?_; refine' tkE 11 rfl ?hy11_34 ?_
    case hy11_34 => (intro w _; go_simp; try with_reducible rfl)
    refine layy ?_; refine' tkE 12 rfl ?hy12_35 ?_
    case hy12_35 => (intro w hSw; (obtain ⟨q1, q2⟩ := hSw); go_simp; try with_reducible rfl)
    refine layy ?_; refine' tkE 13 rfl ?hy13_36 ?_
    case hy13_36 => (intro w _; go_simp; try with_reducible rfl)
    refine layy ?_; have BD := Lib.hid (B.out.ext (Ext.drew (Ext.refl w))); change wpAnyX _ _ _ _ _ _ _ _ _ _ _ (World.drew w); generalize World.drew w = wd at BD ⊢; refine wpAnyX_fork [7, 14] (by kernel_rfl) (by simp) (by simp) ?_; intro i hi; have hi : i = 7 ∨ i = 14 := by simpa using hi
    rcases hi with rfl | rfl
    · have B0_7 := Lib.hid (BD.out.ext (Ext.alloc (Ext.refl wd) (.cells #[.int .i64 (r)] 3))); have e7 : (wd.alloc (.cells #[.int .i64 (r)] 3)).cell? ⟨wd.heap.size, 0, none⟩ = some (.int .i64 (r)) := by simp [go_sem]
      refine wpOp_value (i := 7) (v := .slice (some ⟨wd.heap.size, 0, none⟩) 1 1) (w'' := wd.alloc (.cells #[.int .i64 (r)] 3)) rfl (by rfl) (by go_simp) ⟨⟨B0_7.out.h1, B0_7.out.h2⟩, ?_⟩; refine layy ?_; generalize wd.alloc (.cells #[.int .i64 (r)] 3) = w0_7 at *; refine wpAnyX_fork [8, 14] (by kernel_rfl) (by simp) (by simp) ?_; intro i hi; have hi : i = 8 ∨ i = 14 := by simpa using hi
      rcases hi with rfl | rfl
      · refine wpOp_append (.tmp 22) (.tmp 24) rfl rfl (by rfl) rfl rfl B0_7.out.r1 e7 (by omega) (by omega) (by omega) ?_; intro ga ca w1_8 rowa hRa hGa hrowa hga hlta; have B1_8 := Lib.hid (B0_7.out.grow1 hRa hGa hrowa hga); refine ⟨⟨B1_8.out.h1, B1_8.out.h2⟩, ?_⟩; refine layy ?_; refine wpAnyX_fork [14] (by kernel_rfl) (by simp) (by simp) ?_; intro i hi; obtain rfl : i = 14 := by simpa using hi
        have B2_14 := Lib.hid (B1_8.out.ext (Ext.alloc (Ext.refl w1_8) (.cells #[.int .i64 (0)] 3))); have e14 : (w1_8.alloc (.cells #[.int .i64 (0)] 3)).cell? ⟨w1_8.heap.size, 0, none⟩ = some (.int .i64 (0)) := by simp [go_sem]
        refine wpOp_value (i := 14) (v := .slice (some ⟨w1_8.heap.size, 0, none⟩) 1 1) (w'' := w1_8.alloc (.cells #[.int .i64 (0)] 3)) rfl (by rfl) (by go_simp) ⟨⟨B2_14.out.h1, B2_14.out.h2⟩, ?_⟩; refine layy ?_; generalize w1_8.alloc (.cells #[.int .i64 (0)] 3) = w2_14 at *; refine wpAnyX_fork [15] (by kernel_rfl) (by simp) (by simp) ?_; intro i hi; obtain rfl : i = 15 := by simpa using hi
        refine wpOp_append (.tmp 29) (.tmp 31) rfl rfl (by rfl) rfl rfl B2_14.out.r2 e14 (by omega) (by omega) (by omega) ?_; intro gb cb w3_15 rowb hRb hGb hrowb hgb hltb; have B3_15 := Lib.hid (B2_14.out.grow2 hRb hGb hrowb hgb); refine ⟨⟨B3_15.out.h1, B3_15.out.h2⟩, ?_⟩; refine layy ?_; refine wpAnyX_done (by kernel_rfl) ?_; intro w9 e9 _; subst e9; simp only [List.drop_succ_cons, List.drop_zero]; have y1 := B3_15.out.h1; have y2 := B3_15.out.h2; have y3 := B3_15.out.fz 1; have y4 := B3_15.out.fz 2; have FIN := B3_15.out.stored; simp only [List.length_append, List.length_singleton] at FIN; have FINH := Lib.hid FIN; clear FIN
        go_wp2_with fail
        go_returns; exact ⟨rfl, _, _, _, _, FINH.out⟩
      · have B1_14 := Lib.hid (B0_7.out.ext (Ext.alloc (Ext.refl w0_7) (.cells #[.int .i64 (0)] 3))); have e14 : (w0_7.alloc (.cells #[.int .i64 (0)] 3)).cell? ⟨w0_7.heap.size, 0, none⟩ = some (.int .i64 (0)) := by simp [go_sem]
        have far14 : ∀ b o, p1 = some ⟨b, o, none⟩ → b ≠ w0_7.heap.size := fun b o e' => by have := ScB.rlt B0_7.out.r1 e'; omega
        refine wpOp_value (i := 14) (v := .slice (some ⟨w0_7.heap.size, 0, none⟩) 1 1) (w'' := w0_7.alloc (.cells #[.int .i64 (0)] 3)) rfl (by rfl) (by go_simp) ⟨⟨B1_14.out.h1, B1_14.out.h2⟩, ?_⟩; refine layy ?_; have e7 := ((Ext.alloc (Ext.refl w0_7) (.cells #[.int .i64 (0)] 3)).cell (cell_lt e7) 0).trans e7; generalize w0_7.alloc (.cells #[.int .i64 (0)] 3) = w1_14 at *; refine wpAnyX_fork [8] (by kernel_rfl) (by simp) (by simp) ?_; intro i hi; obtain rfl : i = 8 := by simpa using hi
        refine wpOp_append (.tmp 22) (.tmp 24) rfl rfl (by rfl) rfl rfl B1_14.out.r1 e7 (by omega) (by omega) (by omega) ?_; intro ga ca w2_8 rowa hRa hGa hrowa hga hlta; have B2_8 := Lib.hid (B1_14.out.grow1 hRa hGa hrowa hga); refine ⟨⟨B2_8.out.h1, B2_8.out.h2⟩, ?_⟩; refine layy ?_; have e14 : w2_8.cell? ⟨_, 0, none⟩ = some (.int .i64 (0)) := (World.cell?_of_block (hGa.block _ (cell_lt e14) (fun e' => far14 _ 0 (hrowa _ e'.symm) rfl))).trans e14; refine wpAnyX_fork [15] (by kernel_rfl) (by simp) (by simp) ?_; intro i hi; obtain rfl : i = 15 := by simpa using hi
        refine wpOp_append (.tmp 29) (.tmp 31) rfl rfl (by rfl) rfl rfl B2_8.out.r2 e14 (by omega) (by omega) (by omega) ?_; intro gb cb w3_15 rowb hRb hGb hrowb hgb hltb; have B3_15 := Lib.hid (B2_8.out.grow2 hRb hGb hrowb hgb); refine ⟨⟨B3_15.out.h1, B3_15.out.h2⟩, ?_⟩; refine layy ?_; refine wpAnyX_done (by kernel_rfl) ?_; intro w9 e9 _; subst e9; simp only [List.drop_succ_cons, List.drop_zero]; have y1 := B3_15.out.h1; have y2 := B3_15.out.h2; have y3 := B3_15.out.fz 1; have y4 := B3_15.out.fz 2; have FIN := B3_15.out.stored; simp only [List.length_append, List.length_singleton] at FIN; have FINH := Lib.hid FIN; clear FIN
        go_wp2_with fail
        go_returns; exact ⟨rfl, _, _, _, _, FINH.out⟩
    · have B0_14 := Lib.hid (BD.out.ext (Ext.alloc (Ext.refl wd) (.cells #[.int .i64 (0)] 3))); have e14 : (wd.alloc (.cells #[.int .i64 (0)] 3)).cell? ⟨wd.heap.size, 0, none⟩ = some (.int .i64 (0)) := by simp [go_sem]
      have far14 : ∀ b o, p1 = some ⟨b, o, none⟩ → b ≠ wd.heap.size := fun b o e' => by have := ScB.rlt BD.out.r1 e'; omega
      refine wpOp_value (i := 14) (v := .slice (some ⟨wd.heap.size, 0, none⟩) 1 1) (w'' := wd.alloc (.cells #[.int .i64 (0)] 3)) rfl (by rfl) (by go_simp) ⟨⟨B0_14.out.h1, B0_14.out.h2⟩, ?_⟩; refine layy ?_; generalize wd.alloc (.cells #[.int .i64 (0)] 3) = w0_14 at *; refine wpAnyX_fork [7] (by kernel_rfl) (by simp) (by simp) ?_; intro i hi; obtain rfl : i = 7 := by simpa using hi
      have B1_7 := Lib.hid (B0_14.out.ext (Ext.alloc (Ext.refl w0_14) (.cells #[.int .i64 (r)] 3))); have e7 : (w0_14.alloc (.cells #[.int .i64 (r)] 3)).cell? ⟨w0_14.heap.size, 0, none⟩ = some (.int .i64 (r)) := by simp [go_sem]
      refine wpOp_value (i := 7) (v := .slice (some ⟨w0_14.heap.size, 0, none⟩) 1 1) (w'' := w0_14.alloc (.cells #[.int .i64 (r)] 3)) rfl (by rfl) (by go_simp) ⟨⟨B1_7.out.h1, B1_7.out.h2⟩, ?_⟩; refine layy ?_; have e14 := ((Ext.alloc (Ext.refl w0_14) (.cells #[.int .i64 (r)] 3)).cell (cell_lt e14) 0).trans e14; generalize w0_14.alloc (.cells #[.int .i64 (r)] 3) = w1_7 at *; refine wpAnyX_fork [8] (by kernel_rfl) (by simp) (by simp) ?_; intro i hi; obtain rfl : i = 8 := by simpa using hi
      refine wpOp_append (.tmp 22) (.tmp 24) rfl rfl (by rfl) rfl rfl B1_7.out.r1 e7 (by omega) (by omega) (by omega) ?_; intro ga ca w2_8 rowa hRa hGa hrowa hga hlta; have B2_8 := Lib.hid (B1_7.out.grow1 hRa hGa hrowa hga); refine ⟨⟨B2_8.out.h1, B2_8.out.h2⟩, ?_⟩; refine layy ?_; have e14 : w2_8.cell? ⟨_, 0, none⟩ = some (.int .i64 (0)) := (World.cell?_of_block (hGa.block _ (cell_lt e14) (fun e' => far14 _ 0 (hrowa _ e'.symm) rfl))).trans e14; refine wpAnyX_fork [15] (by kernel_rfl) (by simp) (by simp) ?_; intro i hi; obtain rfl : i = 15 := by simpa using hi
      refine wpOp_append (.tmp 29) (.tmp 31) rfl rfl (by rfl) rfl rfl B2_8.out.r2 e14 (by omega) (by omega) (by omega) ?_; intro gb cb w3_15 rowb hRb hGb hrowb hgb hltb; have B3_15 := Lib.hid (B2_8.out.grow2 hRb hGb hrowb hgb); refine ⟨⟨B3_15.out.h1, B3_15.out.h2⟩, ?_⟩; refine layy ?_; refine wpAnyX_done (by kernel_rfl) ?_; intro w9 e9 _; subst e9; simp only [List.drop_succ_cons, List.drop_zero]; have y1 := B3_15.out.h1; have y2 := B3_15.out.h2; have y3 := B3_15.out.fz 1; have y4 := B3_15.out.fz 2; have FIN := B3_15.out.stored; simp only [List.length_append, List.length_singleton] at FIN; have FINH := Lib.hid FIN; clear FIN
      go_wp2_with fail
      go_returns; exact ⟨rfl, _, _, _, _, FINH.out⟩
theorem lookFrom_small {S : Hp.Hs} {tag : Int} {l : List Int} (hs : S.words.length ≤ 1000000) : ∀ {n a r : Nat}, S.lookFrom tag l n a = some r → r ≤ 1000000
 | n, a, r, h => by
  rcases lookFrom_succ h with ⟨_, rfl⟩ | ⟨_, n', t, f, hn, ht, _, h1⟩
  · omega
  · rcases h1 with ⟨_, _, rfl⟩ | ⟨_, a', _, h2⟩
    · have := rd_lt ht; omega
    · subst hn; exact lookFrom_small hs h2
 termination_by n => n
theorem takeFrom_small {wide : Nat} : ∀ {n link r : Nat} {W W' : List Int}, W.length ≤ 1000000 → Hp.Hs.takeFrom W wide n link = some (r, W') → r ≤ 1000000
 | n, link, r, W, W', hs, h => by
  obtain ⟨n', a, hn, _, hq⟩ := takeFrom_succ h
  rcases hq with ⟨_, rfl, _⟩ | ⟨_, v, next, hv, _, hq⟩
  · omega
  · have hv := rd_lt (rc_some hv).1
    rcases hq with ⟨_, rfl, _⟩ | ⟨_, _, rfl, _⟩ | ⟨_, _, hq⟩
    · omega
    · omega
    · subst hn; exact takeFrom_small hs hq
 termination_by n => n
theorem look_small {S : Hp.Hs} {tag : Int} {l : List Int} {r : Nat} (hs : S.words.length ≤ 1000000) (h : S.look tag l = some r) : r ≤ 1000000 := by
 unfold Hp.Hs.look at h
 simp only [Option.bind_eq_bind, Option.bind_eq_some_iff] at h
 obtain ⟨_, _, _, _, h⟩ := h
 exact lookFrom_small hs h
theorem add_small {S S' : Hp.Hs} {tag : Int} {l : List Int} {r : Nat} (hs : S.words.length ≤ 1000000) (h : S.add tag l = some (r, S')) : r ≤ 1000000 := by
 obtain ⟨a0, hL, hq⟩ := add_some h
 rcases hq with ⟨_, rfl, _⟩ | ⟨_, k, a, W, _, hT, hq⟩
 · exact look_small hs hL
 · have := takeFrom_small hs hT
   rcases hq with ⟨rfl, rfl, _⟩ | ⟨_, rfl, _⟩ <;> omega
theorem full_small {r : Nat} {S : Hp.Hs} {a e : Int} {S' : Hp.Hs} (hr : r ≤ 1000000) (h : Hp.Hs.full (r, S) = (a, e, S')) : 0 ≤ a ∧ a ≤ 1000000 ∧ 0 ≤ e ∧ e ≤ 8 := by
 rw [full_eq] at h
 simp only [Prod.mk.injEq] at h
 obtain ⟨rfl, rfl, _⟩ := h
 unfold err8
 split <;> omega
theorem end_small {S S' : Hp.Hs} {f n r e : Int} (hs : S.words.length ≤ 1000000) (h : S.end' f n = some (r, e, S')) : 0 ≤ r ∧ r ≤ 1000000 ∧ 0 ≤ e ∧ e ≤ 8 := by
 unfold Hp.Hs.end' at h
 split at h
 · simp only [Option.some.injEq, Prod.mk.injEq] at h; omega
 · simp only [Option.bind_eq_bind, Option.bind_eq_some_iff, Option.pure_def, Option.some.injEq] at h; obtain ⟨⟨a, S1⟩, ha, h⟩ := h; exact full_small (add_small hs ha) h
def actV (x : Hp.Act') (p : Option Addr) (c : Nat) (f : Nat) : Value := .agg #[.int .u8 x.kind, .int .i64 x.a, .slice p x.list.length c, .int .u8 f, .int .i64 x.n]
def DoPost (w0 : World) (sb : Nat) (d : Hd) (s : Hp.Sc) (e : Ending) (w' : World) : Prop :=
 e = .returned (.tuple #[]) ∧ ∃ g cap q1 c1 q2 c2, ScAt w0 w' sb { d with gw := g, cap := cap } s q1 c1 q2 c2
theorem note_do {w0 w : World} {sb : Nat} {d : Hd} {s : Hp.Sc} {p1 p2 : Option Addr} {k1 k2 : Nat} {r e : Int} {isA : Bool} (h : ScAt w0 w sb d s p1 k1 p2 k2) (hl1 : s.res.length < 1000000) (hl2 : s.ats.length < 1000000) (hr1 : -9223372036854775808 ≤ r) (hr2 : r ≤ 9223372036854775807) (he1 : -100000 ≤ e) (he2 : e ≤ 100000) :
    Calls Tryz.prog 142 #[.pointer (some ⟨sb, 0, none⟩), .int .i64 r, .int .i64 e, .bool isA] w (DoPost w0 sb d (s.note r e isA)) :=
  (note_any h hl1 hl2 hr1 hr2 he1 he2).mono fun _ _ ⟨h1, q1, c1, q2, c2, h2⟩ => ⟨h1, d.gw, d.cap, q1, c1, q2, c2, h2⟩
theorem wp_noPanic {P : Program} {c : Code} {Q : Exit → Act → World → Prop} {a : Act} {w : World} (h : c.wp P Q a w) : c.wp P Q a w := h
set_option maxRecDepth 100000 in
set_option maxHeartbeats 8000000 in
theorem do_end {w0 w : World} {sb : Nat} {d : Hd} {s s' : Hp.Sc} {p1 p2 p : Option Addr} {k1 k2 c f : Nat} {x : Hp.Act'} (h : ScAt w0 w sb d s p1 k1 p2 k2) (hl1 : s.res.length < 1000000) (hl2 : s.ats.length < 1000000) (hk : x.kind = 1) (hf : x.fault = f) (hf2 : f < 256) (hn1 : -9223372036854775808 ≤ x.n) (hn2 : x.n ≤ 9223372036854775807) (hr : s.do' x = some s') :
    Calls Tryz.prog 93 #[.pointer (some ⟨sb, 0, none⟩), actV x p c f] w (DoPost w0 sb d s') := by
  unfold Hp.Sc.do' at hr
  rw [if_pos hk] at hr; simp only [Option.bind_eq_bind, Option.bind_eq_some_iff] at hr; obtain ⟨⟨r, e, S1⟩, hr, hs⟩ := hr; simp only [Option.some.injEq] at hs; subst hs; rw [hf] at hr; have H := Lib.hid h; have HR := Lib.hid hr; unfold actV; rw [hk]; clear h hr hk; go_enter Tryz.func93, Tryz.ntmps93; go_upto_region 3 with (fail)
  have bs := end_small H.out.small HR.out; have H1 := Lib.hid (H.out.ext (Ext.alloc (Ext.refl w) (.cells #[.int .u8 1, .int .i64 x.a, .slice p x.list.length c, .int .u8 f, .int .i64 x.n] 85))); have b3 : (w.alloc (.cells #[.int .u8 1, .int .i64 x.a, .slice p x.list.length c, .int .u8 f, .int .i64 x.n] 85)).cell? ⟨w.heap.size, 3, none⟩ = some (.int .u8 f) := by simp [go_sem]
  have b4 : (w.alloc (.cells #[.int .u8 1, .int .i64 x.a, .slice p x.list.length c, .int .u8 f, .int .i64 x.n] 85)).cell? ⟨w.heap.size, 4, none⟩ = some (.int .i64 x.n) := by simp [go_sem]
  have own := H.out.own_lt; have bn : w.heap.size ∉ d.own := fun hm => by have := own _ hm; omega
  generalize w.alloc (.cells #[.int .u8 1, .int .i64 x.a, .slice p x.list.length c, .int .u8 f, .int .i64 x.n] 85) = w1 at H1 b3 b4 ⊢; have BN := Lib.hid bn; have h0 := H1.out.h0; clear own bn H; refine wp_noPanic ?_; refine wp_region_plan (S := (fun W : World => W.cell? ⟨sb, 0, none⟩ = some (.pointer (some ⟨d.hb, 0, none⟩)) ∧ W.cell? ⟨w.heap.size, 3, none⟩ = some (.int .u8 f) ∧ W.cell? ⟨w.heap.size, 4, none⟩ = some (.int .i64 x.n))) (R := Eq) [false, false, false, false, false, false, true, false, false, false, false, false] (by kernel_rfl) (fun _ => rfl) (fun _ _ _ h k => h.trans k) (by kernel_rfl) (fun _ _ d _ _ h => by cases d <;> exact h) (by kernel_rfl) (by exact ⟨h0, b3, b4⟩) ?_; intro ops hops'; have hops := Lib.hid hops'; clear hops'; have HD := Lib.hid (H1.out.ext (Ext.drew (Ext.refl w1))); have d0 : (World.drew w1).cell? ⟨sb, 0, none⟩ = some (.pointer (some ⟨d.hb, 0, none⟩)) := h0; have d3 : (World.drew w1).cell? ⟨w.heap.size, 3, none⟩ = some (.int .u8 f) := b3; have d4 : (World.drew w1).cell? ⟨w.heap.size, 4, none⟩ = some (.int .i64 x.n) := b4; generalize World.drew w1 = wd at HD d0 d3 d4 ⊢; clear H1 h0 b3 b4; refine' tkP hops ?hy0_1 ?_
  case hy0_1 => (intro w _; go_simp; try with_reducible rfl)
  refine layy ?_; refine' tkP hops ?hy1_2 ?_
  case hy1_2 => (intro w _; go_simp; try with_reducible rfl)
  refine layy ?_; refine' tkP hops ?hy2_3 ?_
  case hy2_3 => (intro w _; go_simp; try with_reducible rfl)
  refine layy ?_; refine' tkP hops ?hy3_4 ?_
  case hy3_4 => (intro w hSw; (obtain ⟨q0, q3, q4⟩ := hSw); go_simp; try with_reducible rfl)
  refine layy ?_; refine' tkP hops ?hy4_5 ?_
  case hy4_5 => (intro w _; go_simp; try with_reducible rfl)
  refine layy ?_; refine' tkP hops ?hy5_6 ?_
  case hy5_6 => (intro w hSw; (obtain ⟨q0, q3, q4⟩ := hSw); go_simp; try with_reducible rfl)
  refine layy ?_; refine Plan.run (fun v W => v = .tuple #[.int .i64 r, .int .i64 e] ∧ Now wd W d S1) (by first | rfl | (rw [hops.out]; rfl)) ?run6 ?vs6 ?next6
  case run6 =>
   intro w' e1 _; subst e1; refine .inl ⟨43, #[.pointer (some ⟨d.hb, 0, none⟩), .agg #[.int .u8 f, .int .i64 x.n]], ?_, (End_any HD.out.toHAt hf2 hn1 hn2 HR.out).mono ?_⟩
   · go_simp
   · rintro e' w2 ⟨rfl, hN⟩; exact ⟨_, rfl, rfl, hN⟩
  case vs6 =>
   rintro v W ⟨rfl, hN⟩ W' e1; subst e1; exact ⟨(hN.but.cell (cell_lt d0) HD.out.sbn 0).trans d0, (hN.but.cell (cell_lt d3) BN.out 3).trans d3, (hN.but.cell (cell_lt d4) BN.out 4).trans d4⟩
  rintro v w2 ⟨rfl, hN⟩; have N2 := Lib.hid (HD.out.turn (g := d.gw) (cap := d.cap) hN.but hN.toHAt (.inl rfl)); clear hN d0 d3 d4 HD; refine layy ?_; refine' tkP hops ?hy7_7 ?_
  case hy7_7 => (intro w _; go_simp; try with_reducible rfl)
  refine layy ?_; refine' tkP hops ?hy8_8 ?_
  case hy8_8 => (intro w _; go_simp; try with_reducible rfl)
  refine layy ?_; refine' tkP hops ?hy9_9 ?_
  case hy9_9 => (intro w _; go_simp; try with_reducible rfl)
  refine layy ?_; refine' tkP hops ?hy10_10 ?_
  case hy10_10 => (intro w _; go_simp; try with_reducible rfl)
  refine layy ?_; refine' tkP hops ?hy11_11 ?_
  case hy11_11 => (intro w _; go_simp; try with_reducible rfl)
  refine layy ?_; refine Plan.done ?_; intro w3 e3 _; subst e3
  go_wp2_with (go_at_call 142; refine (note_do N2.out hl1 hl2 (by omega) (by omega) (by omega) (by omega)).mono ?_; rintro e' w4 ⟨rfl, hD⟩)
  go_returns; exact ⟨rfl, hD⟩
theorem checkNode_small {S : Hp.Hs} {a : Int} {l : List Int} {e : Int} (h : S.checkNode a l = some e) : 0 ≤ e ∧ e ≤ 8 := by
 unfold Hp.Hs.checkNode at h
 split at h
 · cases h
   omega
 · simp only [Option.bind_eq_bind, Option.bind_eq_some_iff] at h; obtain ⟨v, _, h⟩ := h
   split at h
   · cases h
     omega
   · split at h
     · cases h
       omega
     · simp only [Option.bind_eq_some_iff] at h; obtain ⟨b, _, h⟩ := h
       split at h
       · cases h
         omega
       · cases h
         omega
theorem make_wf {S S' : Hp.Hs} {a : Int} {l : List Int} {r e : Int} (hs : S.words.length ≤ 1000000) (hl : ∀ x ∈ l, -9223372036854775808 ≤ x ∧ x ≤ 9223372036854775807) (h : S.make a l = some (r, e, S')) : -9223372036854775808 ≤ r ∧ r ≤ 9223372036854775807 ∧ 0 ≤ e ∧ e ≤ 8 := by
 unfold Hp.Hs.make at h
 simp only [Option.bind_eq_bind, Option.bind_eq_some_iff] at h
 obtain ⟨e0, he, h⟩ := h
 have := checkNode_small he
 split at h
 · simp only [Option.some.injEq, Prod.mk.injEq] at h; omega
 · split at h
   · simp only [Option.bind_eq_some_iff, Option.some.injEq, Prod.mk.injEq] at h; obtain ⟨k, hk, rfl, rfl, _⟩ := h; have := hl k (List.mem_of_head? hk); omega
   · simp only [Option.bind_eq_some_iff, Option.pure_def, Option.some.injEq] at h; obtain ⟨⟨a', S1⟩, ha, h⟩ := h; have := full_small (add_small hs ha) h; omega
theorem find_wf {S : Hp.Hs} {a : Int} {l : List Int} {r e : Int} (hs : S.words.length ≤ 1000000) (hl : ∀ x ∈ l, -9223372036854775808 ≤ x ∧ x ≤ 9223372036854775807) (h : S.find a l = some (r, e)) : -9223372036854775808 ≤ r ∧ r ≤ 9223372036854775807 ∧ 0 ≤ e ∧ e ≤ 8 := by
 unfold Hp.Hs.find at h
 simp only [Option.bind_eq_bind, Option.bind_eq_some_iff] at h
 obtain ⟨e0, he, h⟩ := h
 have := checkNode_small he
 split at h
 · simp only [Option.some.injEq, Prod.mk.injEq] at h; omega
 · split at h
   · simp only [Option.bind_eq_some_iff, Option.some.injEq, Prod.mk.injEq] at h; obtain ⟨k, hk, rfl, rfl⟩ := h; have := hl k (List.mem_of_head? hk); omega
   · simp only [Option.bind_eq_some_iff] at h; obtain ⟨a', ha, h⟩ := h; have := look_small hs ha
     split at h
     · simp only [Option.some.injEq, Prod.mk.injEq] at h; omega
     · simp only [Option.some.injEq, Prod.mk.injEq] at h; omega
set_option maxRecDepth 100000 in
set_option maxHeartbeats 8000000 in
theorem do_make {w0 w : World} {sb : Nat} {d : Hd} {s s' : Hp.Sc} {p1 p2 p : Option Addr} {k1 k2 c f : Nat} {x : Hp.Act'} (h : ScAt w0 w sb d s p1 k1 p2 k2) (hl1 : s.res.length < 1000000) (hl2 : s.ats.length < 1000000) (hk : x.kind = 2) (hs : SliceAt w p c x.list) (hll : x.list.length ≤ 1000) (ha1 : -9223372036854775808 ≤ x.a) (ha2 : x.a ≤ 9223372036854775807) (hr : s.do' x = some s') :
    Calls Tryz.prog 93 #[.pointer (some ⟨sb, 0, none⟩), actV x p c f] w (DoPost w0 sb d s') := by
  unfold Hp.Sc.do' at hr
  rw [if_neg (by omega), if_pos (by omega)] at hr; simp only [hk, if_true] at hr; obtain ⟨kids, hkids⟩ : ∃ kids, x.list.map (Hp.nameOf s.ats) = kids := ⟨_, rfl⟩
  rw [hkids] at hr; have H := Lib.hid h; have HS := Lib.hid hs; have HK := Lib.hid hkids
  have KB := Lib.hid (fun k (hm : k ∈ kids) => (by
   rw [← hkids] at hm; obtain ⟨a, _, rfl⟩ := List.mem_map.1 hm; exact nameOf_wf h.r2.2 a : -9223372036854775808 ≤ k ∧ k ≤ 9223372036854775807))
  unfold actV; rw [hk]; have H1 := Lib.hid (h.ext (Ext.alloc (Ext.refl w) (.cells #[.int .u8 2, .int .i64 x.a, .slice p x.list.length c, .int .u8 f, .int .i64 x.n] 85))); have HS1 := Lib.hid (hs.ext (Ext.alloc (Ext.refl w) (.cells #[.int .u8 2, .int .i64 x.a, .slice p x.list.length c, .int .u8 f, .int .i64 x.n] 85))); have own := h.own_lt; have bn : w.heap.size ∉ d.own := fun hm => by have := own _ hm; omega
  have b0 : (w.alloc (.cells #[.int .u8 2, .int .i64 x.a, .slice p x.list.length c, .int .u8 f, .int .i64 x.n] 85)).cell? ⟨w.heap.size, 0, none⟩ = some (.int .u8 2) := by simp [go_sem]
  have b1 : (w.alloc (.cells #[.int .u8 2, .int .i64 x.a, .slice p x.list.length c, .int .u8 f, .int .i64 x.n] 85)).cell? ⟨w.heap.size, 1, none⟩ = some (.int .i64 x.a) := by simp [go_sem]
  have BN := Lib.hid bn; have zb := cell_lt b0; clear own bn h hs hkids hk
  by_cases hc : kids.contains 0 = true
  · rw [if_pos hc] at hr; simp only [Option.some.injEq] at hr; subst hr; have HC := Lib.hid hc; clear hc; go_enter Tryz.func93, Tryz.ntmps93
    go_wp2_with (first
     | (go_at_call 143; refine (names_any H1.out (by omega) HS1.out hll).mono ?_; rintro e w2 ⟨q, cq, rfl, RQ, E2⟩; rw [HK.out, HC.out]; have N2 := Lib.hid (H1.out.ext E2))
     | (go_at_call 142; refine (note_do N2.out hl1 hl2 (by omega) (by omega) (by omega) (by omega)).mono ?_; rintro e' w4 ⟨rfl, hD⟩))
    go_returns; exact ⟨rfl, hD⟩
  · rw [if_neg hc] at hr; simp only [Option.bind_eq_bind, Option.bind_eq_some_iff, Option.some.injEq] at hr; obtain ⟨⟨r, e, S1⟩, hr, rfl⟩ := hr; have HC := Lib.hid (by simpa using hc : kids.contains 0 = false); have bs := make_wf H.out.small KB.out hr; have HR := Lib.hid hr; clear hc hr; go_enter Tryz.func93, Tryz.ntmps93; go_upto_region 12 with (go_at_call 143; refine (names_any H1.out (by omega) HS1.out hll).mono ?_; rintro e w2 ⟨q, cq, rfl, RQ, E2⟩; rw [HK.out, HC.out]; have N2 := Lib.hid (H1.out.ext E2); have h0 := N2.out.h0; have b0' := (E2.cell zb 0).trans b0; have b1' := (E2.cell zb 1).trans b1; have RQH := Lib.hid (HK.out ▸ RQ); clear RQ)
    have far := fun b o (e' : q = some ⟨b, o, none⟩) (hm : b ∈ d.own) => (by
     have h1 := RQH.out.far e'; have h2 := H.out.own_lt b hm; simp at h1; omega : False)
    have FAR := Lib.hid far; clear far
    go_wp2_with fail
    refine Calls.mono (Make_any N2.out.toHAt RQH.out.at_ FAR.out ha1 ha2 HR.out) ?_; rintro e' w3 ⟨rfl, hN⟩; have N3 := Lib.hid (N2.out.turn (g := d.gw) (cap := d.cap) hN.but hN.toHAt (.inl rfl)); clear hN N2 h0 b0' b1'
    go_wp2_with (go_at_call 142; refine (note_do N3.out hl1 hl2 (by omega) (by omega) (by omega) (by omega)).mono ?_; rintro e' w4 ⟨rfl, hD⟩)
    go_returns; exact ⟨rfl, hD⟩
set_option maxRecDepth 100000 in
set_option maxHeartbeats 8000000 in
theorem do_find {w0 w : World} {sb : Nat} {d : Hd} {s s' : Hp.Sc} {p1 p2 p : Option Addr} {k1 k2 c f : Nat} {x : Hp.Act'} (h : ScAt w0 w sb d s p1 k1 p2 k2) (hl1 : s.res.length < 1000000) (hl2 : s.ats.length < 1000000) (hk : x.kind = 3) (hs : SliceAt w p c x.list) (hll : x.list.length ≤ 1000) (ha1 : -9223372036854775808 ≤ x.a) (ha2 : x.a ≤ 9223372036854775807) (hr : s.do' x = some s') :
    Calls Tryz.prog 93 #[.pointer (some ⟨sb, 0, none⟩), actV x p c f] w (DoPost w0 sb d s') := by
  unfold Hp.Sc.do' at hr
  rw [if_neg (by omega), if_pos (by omega)] at hr; simp only [hk, show ¬ (3 : Int) = 2 by decide, if_false] at hr; obtain ⟨kids, hkids⟩ : ∃ kids, x.list.map (Hp.nameOf s.ats) = kids := ⟨_, rfl⟩
  rw [hkids] at hr; have H := Lib.hid h; have HS := Lib.hid hs; have HK := Lib.hid hkids
  have KB := Lib.hid (fun k (hm : k ∈ kids) => (by
   rw [← hkids] at hm; obtain ⟨a, _, rfl⟩ := List.mem_map.1 hm; exact nameOf_wf h.r2.2 a : -9223372036854775808 ≤ k ∧ k ≤ 9223372036854775807))
  unfold actV; rw [hk]; have H1 := Lib.hid (h.ext (Ext.alloc (Ext.refl w) (.cells #[.int .u8 3, .int .i64 x.a, .slice p x.list.length c, .int .u8 f, .int .i64 x.n] 85))); have HS1 := Lib.hid (hs.ext (Ext.alloc (Ext.refl w) (.cells #[.int .u8 3, .int .i64 x.a, .slice p x.list.length c, .int .u8 f, .int .i64 x.n] 85))); have own := h.own_lt; have bn : w.heap.size ∉ d.own := fun hm => by have := own _ hm; omega
  have b0 : (w.alloc (.cells #[.int .u8 3, .int .i64 x.a, .slice p x.list.length c, .int .u8 f, .int .i64 x.n] 85)).cell? ⟨w.heap.size, 0, none⟩ = some (.int .u8 3) := by simp [go_sem]
  have b1 : (w.alloc (.cells #[.int .u8 3, .int .i64 x.a, .slice p x.list.length c, .int .u8 f, .int .i64 x.n] 85)).cell? ⟨w.heap.size, 1, none⟩ = some (.int .i64 x.a) := by simp [go_sem]
  have BN := Lib.hid bn; have zb := cell_lt b0; clear own bn h hs hkids hk
  by_cases hc : kids.contains 0 = true
  · rw [if_pos hc] at hr; simp only [Option.some.injEq] at hr; subst hr; have HC := Lib.hid hc; clear hc; go_enter Tryz.func93, Tryz.ntmps93
    go_wp2_with (first
     | (go_at_call 143; refine (names_any H1.out (by omega) HS1.out hll).mono ?_; rintro e w2 ⟨q, cq, rfl, RQ, E2⟩; rw [HK.out, HC.out]; have N2 := Lib.hid (H1.out.ext E2))
     | (go_at_call 142; refine (note_do N2.out hl1 hl2 (by omega) (by omega) (by omega) (by omega)).mono ?_; rintro e' w4 ⟨rfl, hD⟩))
    go_returns; exact ⟨rfl, hD⟩
  · rw [if_neg hc] at hr; simp only [Option.bind_eq_bind, Option.bind_eq_some_iff, Option.some.injEq] at hr; obtain ⟨⟨r, e⟩, hr, rfl⟩ := hr; have HC := Lib.hid (by simpa using hc : kids.contains 0 = false); have bs := find_wf H.out.small KB.out hr; have HR := Lib.hid hr; clear hc hr; go_enter Tryz.func93, Tryz.ntmps93; go_upto_region 12 with (go_at_call 143; refine (names_any H1.out (by omega) HS1.out hll).mono ?_; rintro e w2 ⟨q, cq, rfl, RQ, E2⟩; rw [HK.out, HC.out]; have N2 := Lib.hid (H1.out.ext E2); have h0 := N2.out.h0; have b0' := (E2.cell zb 0).trans b0; have b1' := (E2.cell zb 1).trans b1; have RQH := Lib.hid (HK.out ▸ RQ); clear RQ)
    have far := fun b o (e' : q = some ⟨b, o, none⟩) (hm : b ∈ d.own) => (by
     have h1 := RQH.out.far e'; have h2 := H.out.own_lt b hm; simp at h1; omega : False)
    have FAR := Lib.hid far; clear far
    go_wp2_with fail
    refine Calls.mono (Find_any N2.out.toHAt RQH.out.at_ FAR.out ha1 ha2 HR.out) ?_; rintro e' w3 ⟨rfl, E3⟩; have N3 := Lib.hid (N2.out.ext E3); clear N2 h0 b0' b1'
    go_wp2_with (go_at_call 142; refine (note_do N3.out hl1 hl2 (by omega) (by omega) (by omega) (by omega)).mono ?_; rintro e' w4 ⟨rfl, hD⟩)
    go_returns; exact ⟨rfl, hD⟩
theorem hold_small {S S' : Hp.Hs} {a e : Int} (h : S.hold a = some (e, S')) : 0 ≤ e ∧ e ≤ 9 := by
 unfold Hp.Hs.hold at h
 split at h
 · simp only [Option.some.injEq, Prod.mk.injEq] at h; omega
 · simp only [Option.bind_eq_bind, Option.bind_eq_some_iff, Option.pure_def, Option.some.injEq, Prod.mk.injEq] at h; obtain ⟨_, _, _, _, h, _⟩ := h; omega
theorem drop_small {S S' : Hp.Hs} {a e : Int} (h : S.drop a = some (e, S')) : 0 ≤ e ∧ e ≤ 9 := by
 unfold Hp.Hs.drop at h
 split at h
 · simp only [Option.some.injEq, Prod.mk.injEq] at h; omega
 · simp only [Option.bind_eq_bind, Option.bind_eq_some_iff] at h; obtain ⟨_, _, h⟩ := h
   split at h
   · simp only [Option.some.injEq, Prod.mk.injEq] at h; omega
   · simp only [Option.bind_eq_some_iff, Option.pure_def, Option.some.injEq, Prod.mk.injEq] at h; obtain ⟨_, _, h, _⟩ := h; omega
set_option maxRecDepth 100000 in
set_option maxHeartbeats 8000000 in
theorem do_hold {w0 w : World} {sb : Nat} {d : Hd} {s s' : Hp.Sc} {p1 p2 p : Option Addr} {k1 k2 c f : Nat} {x : Hp.Act'} (h : ScAt w0 w sb d s p1 k1 p2 k2) (hl1 : s.res.length < 1000000) (hl2 : s.ats.length < 1000000) (hk : x.kind = 4) (ha1 : -9223372036854775808 ≤ x.a) (ha2 : x.a ≤ 9223372036854775807) (hr : s.do' x = some s') :
    Calls Tryz.prog 93 #[.pointer (some ⟨sb, 0, none⟩), actV x p c f] w (DoPost w0 sb d s') := by
  unfold Hp.Sc.do' at hr
  rw [if_neg (by omega), if_neg (by omega), if_pos (by omega)] at hr; obtain ⟨y, hy⟩ : ∃ y, Hp.nameOf s.ats x.a = y := ⟨_, rfl⟩
  simp only [hk, if_true] at hr; rw [hy] at hr; have by_ := nameOf_wf h.r2.2 x.a; rw [hy] at by_; have H := Lib.hid h; have HY := Lib.hid hy; unfold actV; rw [hk]; have H1 := Lib.hid (h.ext (Ext.alloc (Ext.refl w) (.cells #[.int .u8 4, .int .i64 x.a, .slice p x.list.length c, .int .u8 f, .int .i64 x.n] 85))); have b0 : (w.alloc (.cells #[.int .u8 4, .int .i64 x.a, .slice p x.list.length c, .int .u8 f, .int .i64 x.n] 85)).cell? ⟨w.heap.size, 0, none⟩ = some (.int .u8 4) := by simp [go_sem]
  have zb := cell_lt b0; have nm := name_any (a := x.a) H1.out (by omega) ha1 ha2; rw [HY.out] at nm; clear h hy hk
  by_cases hc : y = 0
  · rw [if_pos hc] at hr; simp only [Option.some.injEq] at hr; subst hr; subst hc; go_enter Tryz.func93, Tryz.ntmps93
    go_wp2_with (first
     | (go_at_call 144; refine nm.mono ?_; rintro e w2 ⟨rfl, E2⟩; have N2 := Lib.hid (H1.out.ext E2))
     | (go_at_call 142; refine (note_do N2.out hl1 hl2 (by omega) (by omega) (by omega) (by omega)).mono ?_; rintro e' w4 ⟨rfl, hD⟩))
    go_returns; exact ⟨rfl, hD⟩
  · rw [if_neg hc] at hr; simp only [Option.bind_eq_bind, Option.bind_eq_some_iff, Option.some.injEq] at hr; obtain ⟨⟨e, S1⟩, hr, rfl⟩ := hr; have bs := hold_small hr; have HR := Lib.hid hr; have t0 : (y != 0) = true := by simpa using hc
    clear hc hr; go_enter Tryz.func93, Tryz.ntmps93; go_upto_region 21 with (go_at_call 144; refine nm.mono ?_; rintro e' w2 ⟨rfl, E2⟩; have N2 := Lib.hid (H1.out.ext E2); have h0 := N2.out.h0; have b0' := (E2.cell zb 0).trans b0)
    go_wp2_with fail
    refine Calls.mono (Hold_any N2.out.toHAt HR.out by_.1 by_.2) ?_; rintro e' w3 ⟨rfl, hA, hB⟩; have N3 := Lib.hid (N2.out.turn (g := d.gw) (cap := d.cap) hB hA (.inl rfl)); clear hA hB N2 h0 b0'
    go_wp2_with (go_at_call 142; refine (note_do N3.out hl1 hl2 (by omega) (by omega) (by omega) (by omega)).mono ?_; rintro e' w4 ⟨rfl, hD⟩)
    go_returns; exact ⟨rfl, hD⟩
set_option maxRecDepth 100000 in
set_option maxHeartbeats 8000000 in
theorem do_drop {w0 w : World} {sb : Nat} {d : Hd} {s s' : Hp.Sc} {p1 p2 p : Option Addr} {k1 k2 c f : Nat} {x : Hp.Act'} (h : ScAt w0 w sb d s p1 k1 p2 k2) (hl1 : s.res.length < 1000000) (hl2 : s.ats.length < 1000000) (hk : x.kind = 5) (ha1 : -9223372036854775808 ≤ x.a) (ha2 : x.a ≤ 9223372036854775807) (hr : s.do' x = some s') :
    Calls Tryz.prog 93 #[.pointer (some ⟨sb, 0, none⟩), actV x p c f] w (DoPost w0 sb d s') := by
  unfold Hp.Sc.do' at hr
  rw [if_neg (by omega), if_neg (by omega), if_pos (by omega)] at hr; obtain ⟨y, hy⟩ : ∃ y, Hp.nameOf s.ats x.a = y := ⟨_, rfl⟩
  simp only [hk, show ¬ (5 : Int) = 4 by decide, if_false] at hr; rw [hy] at hr; have by_ := nameOf_wf h.r2.2 x.a; rw [hy] at by_; have H := Lib.hid h; have HY := Lib.hid hy; unfold actV; rw [hk]; have H1 := Lib.hid (h.ext (Ext.alloc (Ext.refl w) (.cells #[.int .u8 5, .int .i64 x.a, .slice p x.list.length c, .int .u8 f, .int .i64 x.n] 85))); have b0 : (w.alloc (.cells #[.int .u8 5, .int .i64 x.a, .slice p x.list.length c, .int .u8 f, .int .i64 x.n] 85)).cell? ⟨w.heap.size, 0, none⟩ = some (.int .u8 5) := by simp [go_sem]
  have zb := cell_lt b0; have nm := name_any (a := x.a) H1.out (by omega) ha1 ha2; rw [HY.out] at nm; clear h hy hk
  by_cases hc : y = 0
  · rw [if_pos hc] at hr; simp only [Option.some.injEq] at hr; subst hr; subst hc; go_enter Tryz.func93, Tryz.ntmps93
    go_wp2_with (first
     | (go_at_call 144; refine nm.mono ?_; rintro e w2 ⟨rfl, E2⟩; have N2 := Lib.hid (H1.out.ext E2))
     | (go_at_call 142; refine (note_do N2.out hl1 hl2 (by omega) (by omega) (by omega) (by omega)).mono ?_; rintro e' w4 ⟨rfl, hD⟩))
    go_returns; exact ⟨rfl, hD⟩
  · rw [if_neg hc] at hr; simp only [Option.bind_eq_bind, Option.bind_eq_some_iff, Option.some.injEq] at hr; obtain ⟨⟨e, S1⟩, hr, rfl⟩ := hr; have bs := drop_small hr; have HR := Lib.hid hr; have t0 : (y != 0) = true := by simpa using hc
    clear hc hr; go_enter Tryz.func93, Tryz.ntmps93; go_upto_region 21 with (go_at_call 144; refine nm.mono ?_; rintro e' w2 ⟨rfl, E2⟩; have N2 := Lib.hid (H1.out.ext E2); have h0 := N2.out.h0; have b0' := (E2.cell zb 0).trans b0)
    go_wp2_with fail
    refine Calls.mono (Drop_any N2.out.toHAt HR.out by_.1 by_.2) ?_; rintro e' w3 ⟨rfl, hA, hB⟩; have N3 := Lib.hid (N2.out.turn (g := d.gw) (cap := d.cap) hB hA (.inl rfl)); clear hA hB N2 h0 b0'
    go_wp2_with (go_at_call 142; refine (note_do N3.out hl1 hl2 (by omega) (by omega) (by omega) (by omega)).mono ?_; rintro e' w4 ⟨rfl, hD⟩)
    go_returns; exact ⟨rfl, hD⟩
set_option maxRecDepth 100000 in
set_option maxHeartbeats 8000000 in
theorem do_none {w0 w : World} {sb : Nat} {d : Hd} {s s' : Hp.Sc} {p1 p2 p : Option Addr} {k1 k2 c f : Nat} {x : Hp.Act'} (h : ScAt w0 w sb d s p1 k1 p2 k2) (hl1 : s.res.length < 1000000) (hl2 : s.ats.length < 1000000) (hk : x.kind < 1 ∨ 7 < x.kind) (hr : s.do' x = some s') :
    Calls Tryz.prog 93 #[.pointer (some ⟨sb, 0, none⟩), actV x p c f] w (DoPost w0 sb d s') := by
  unfold Hp.Sc.do' at hr
  rw [if_neg (by omega), if_neg (by omega), if_neg (by omega), if_neg (by omega), if_neg (by omega)] at hr; simp only [Option.some.injEq] at hr; subst hr; unfold actV; obtain ⟨kd, hkd⟩ : ∃ kd, x.kind = kd := ⟨_, rfl⟩
  rw [hkd] at hk ⊢; have H1 := Lib.hid (h.ext (Ext.alloc (Ext.refl w) (.cells #[.int .u8 kd, .int .i64 x.a, .slice p x.list.length c, .int .u8 f, .int .i64 x.n] 85))); have e1 : (kd == 1) = false := by simp; omega
  have e2 : (kd == 2) = false := by simp; omega
  have e3 : (kd == 3) = false := by simp; omega
  have e4 : (kd == 4) = false := by simp; omega
  have e5 : (kd == 5) = false := by simp; omega
  have e6 : (kd == 6) = false := by simp; omega
  have e7 : (kd == 7) = false := by simp; omega
  clear h hkd; go_enter Tryz.func93, Tryz.ntmps93
  go_wp2_with (go_at_call 142; refine (note_do H1.out hl1 hl2 (by omega) (by omega) (by omega) (by omega)).mono ?_; rintro e' w4 ⟨rfl, hD⟩)
  go_returns; exact ⟨rfl, hD⟩
theorem collect_small {w : World} {d : Hd} {S S' : Hp.Hs} {m : Nat} (h : HAt w d S) (hr : S.collect = some (m, S')) : m ≤ 1000000 := by
 obtain ⟨L, S1, S2, _, hU, _, _, hm⟩ := collect_some hr
 have h1 := h.taken_len
 have h2 := h.small
 have h3 := unlink_taken hU
 have h4 := List.length_filter_le (fun a => !L.contains a) S1.taken
 rw [h3] at h4
 rw [hm, h3]
 omega
set_option maxRecDepth 100000 in
set_option maxHeartbeats 8000000 in
theorem do_collect {w0 w : World} {sb : Nat} {d : Hd} {s s' : Hp.Sc} {p1 p2 p : Option Addr} {k1 k2 c f : Nat} {x : Hp.Act'} (h : ScAt w0 w sb d s p1 k1 p2 k2) (hl1 : s.res.length < 1000000) (hl2 : s.ats.length < 1000000) (hk : x.kind = 6) (hr : s.do' x = some s') :
    Calls Tryz.prog 93 #[.pointer (some ⟨sb, 0, none⟩), actV x p c f] w (DoPost w0 sb d s') := by
  unfold Hp.Sc.do' at hr
  rw [if_neg (by omega), if_neg (by omega), if_neg (by omega), if_pos hk] at hr; simp only [Option.bind_eq_bind, Option.bind_eq_some_iff, Option.some.injEq] at hr; obtain ⟨⟨m, S1⟩, hr, rfl⟩ := hr; have bm := collect_small h.toHAt hr; have HR := Lib.hid hr; unfold actV; rw [hk]; have H1 := Lib.hid (h.ext (Ext.alloc (Ext.refl w) (.cells #[.int .u8 6, .int .i64 x.a, .slice p x.list.length c, .int .u8 f, .int .i64 x.n] 85))); have h0 := H1.out.h0; clear h hk hr; go_enter Tryz.func93, Tryz.ntmps93
  go_wp2_with (first
   | (go_at_call 111; refine (collect_any H1.out.toHAt HR.out).mono ?_; rintro e' w2 ⟨rfl, hA, hB⟩; have N2 := Lib.hid (H1.out.turn (g := d.gw) (cap := d.cap) hB hA (.inl rfl)); clear hA hB)
   | (go_at_call 145; refine (forget_any N2.out (by simp only; omega)).mono ?_; rintro e' w3 ⟨rfl, hN3⟩; have N3 := Lib.hid hN3; clear hN3)
   | (go_at_call 142; refine (note_do N3.out hl1 (by simp only [Hp.Sc.forget, List.length_map]; omega) (by omega) (by omega) (by omega) (by omega)).mono ?_; rintro e' w4 ⟨rfl, hD⟩))
  go_returns; exact ⟨rfl, hD⟩
end Go.Proofs.YtdokmmhjmclmnaaGreat
