/-
  Part 25 of a proof: LH7 RH6 RH7 LHO.
-/
import Derived.BigRegion
import Derived.ChangeMaps5
import Derived.Deep.AppendLies
import Derived.Deep.Slices
import Derived.Lib.SmallJoins
import Derived.OpenShut
import Derived.ProofKit
import Derived.Test.YtdokmmhjmclmnaaGreatRows
import Derived.Test.YtdokmmhjmclmnaaGreatMP24
set_option linter.unusedSimpArgs false
set_option linter.unusedVariables false
set_option linter.unusedSectionVars false
set_option linter.unnecessarySimpa false
namespace Go.Proofs.YtdokmmhjmclmnaaGreat
open Go.RowKit Go.Maps
theorem cut_worldL {P : Program} {ops : Array Oper} {rest : List Oper} {Q : Exit → Act → World → Prop} {a : Act} {w : World} {F : World → Prop} (h : F w) (k : ∀ w', F w' → wpList P ops Q rest a w') : wpList P ops Q rest a w := k w h
theorem news5 {w : World} {b : Nat} {v0 v1 v2 v3 v4 : Value} (h0 : w.cell? ⟨b, 0, none⟩ = some v0) (h1 : w.cell? ⟨b, 1, none⟩ = some v1) (h2 : w.cell? ⟨b, 2, none⟩ = some v2) (h3 : w.cell? ⟨b, 3, none⟩ = some v3) (h4 : w.cell? ⟨b, 4, none⟩ = some v4) :
    ∀ (j : Nat) (u : Value), [v0, v1, v2, v3, v4][j]? = some u → w.cell? ((⟨b, 0, none⟩ : Addr).add j) = some u := fun j u hj => by
  rw [Addr.add_lit, Nat.zero_add]
  match j, hj with
  | 0, hj => cases hj; exact h0
  | 1, hj => cases hj; exact h1
  | 2, hj => cases hj; exact h2
  | 3, hj => cases hj; exact h3
  | 4, hj => cases hj; exact h4
  | j + 5, hj => simp at hj
theorem row_block {w : World} {base j c : Nat} {e : TypeId} {size : Nat} {p : Option Addr} {xs : List Value} (h : w.ownsRow base e size (.slice p j c) j xs) : ∀ g, (Value.slice p j c).ownBlock = some g → p = some ⟨g, 0, none⟩ := fun g hg => by
 rcases h.2 with ⟨e, _⟩ | ⟨g', cap', cur, e, h1, _⟩
 · rw [e] at hg; simp [Value.ownBlock] at hg
 · injection e with e1
   subst e1; have : g' = g := by simpa [Value.ownBlock] using hg
   rw [this]
def ActsPost (w : World) (l : List Hp.Act') (e : Ending) (w' : World) : Prop := ∃ p c, e = .returned (.slice p l.length c) ∧ ActsAt w' p c l ∧ Ext w w'
set_option maxRecDepth 100000 in
set_option maxHeartbeats 4000000 in
theorem acts_any {w : World} {pa : Option Addr} {ca : Nat} {acts : List Hp.Act'} (h : ActsAt w pa ca acts) (hl : acts.length ≤ 60) (hl2 : ∀ x ∈ acts, x.list.length ≤ 14) (hw : ActsW w pa ca acts) (hn : NilActs w pa acts) :
    Calls Tryz.prog 31 #[.slice pa acts.length ca] w (ActsPost w acts) := by
  have HA := Lib.hid h; have le := h.le; have cap := h.cap; have HL2 := Lib.hid hl2; have HN := Lib.hid hn; have HW := Lib.hid hw; clear h hl2 hn hw; obtain ⟨m, hm⟩ : ∃ m, acts.length = m := ⟨_, rfl⟩
  have HM := Lib.hid hm; rw [hm] at le hl ⊢; clear hm; obtain ⟨i0, hi, hz0, hz1, hz2⟩ := info_parts act_info; go_enter Tryz.func31, Tryz.ntmps31
  go_wp2_with fail
  go_loopg [3, 4] m (fun g s i wr => ∃ (j : Nat) (p : Option Addr) (c : Nat), j ≤ m ∧ m - j ≤ g ∧ i = .int .i64 j ∧ s = .slice p j c ∧ Hid (ActsRow w wr p c j acts))
  case atStart => exact ⟨0, none, 0, Nat.zero_le _, by omega, rfl, rfl, Lib.hid ⟨exx, [], World.ownsRow_nil w _ _ _, fun k x hk => by omega⟩⟩
  case round =>
   obtain ⟨j, p, c, hj, hg, rfl, rfl, R⟩ := hrel
   by_cases hlt : j < m
   · obtain ⟨x, hx⟩ : ∃ x, acts[j]? = some x := ⟨acts[j]'(by rw [HM.out]; exact hlt), List.getElem?_eq_getElem _⟩
     obtain ⟨bb, oo, rfl, hbb, hc⟩ := (HA.out.ext R.out.ext0).cells (by rw [HM.out]; omega); obtain ⟨q', c', f, ok, a0, a1, a2, a3, a4, hs⟩ := hc j x hx; have tk : decide ((j : Int) < (m : Int)) = true := decide_eq_true (by omega); have hnil := HN.out.ext HW.out R.out.ext0 bb oo j x q' c' rfl hx a2; have hx14 := HL2.out x (List.mem_of_getElem? hx); have HX := Lib.hid hx; have HOK := Lib.hid ok; have HS := Lib.hid hs; have xc := hs.le; clear hc hx ok hs; have EA : Ext wr (wr.alloc (.cells #[.int .u8 x.kind, .int .i64 x.a, .slice q' x.list.length c', .int .u8 f, .int .i64 x.n] 85)) := Ext.alloc (Ext.refl _) _; have IA := Lib.hid (ints_any (HS.out.ext EA) hnil (by omega)); go_upto_region 7 with (go_at_call 17; refine IA.out.mono ?_; rintro e w1 ⟨q2, c2, rfl, hR2, hb1, _⟩; obtain ⟨hc1, hf1, hs1⟩ := hb1.cells; have hz1' : wr.heap.size < w1.heap.size := (by have h := hb1.le; (try simp at h); omega); have hc10 := hb1.cell (b := wr.heap.size) (by simp); have hf10 := hb1.frozen (b := wr.heap.size) (by simp))
     have RF := Lib.hid (show ∀ b o, q2 = some ⟨b, o, none⟩ → wr.heap.size + 1 ≤ b from fun b o e => by have := hR2.far e; simpa using this)
     have pf : ∀ b o, p = some ⟨b, o, none⟩ → b < wr.heap.size := fun b o e => by
      obtain ⟨xs0, o1, _⟩ := R.out.own
      rcases o1.2 with ⟨e', _⟩ | ⟨g', cap', cur', e', hb', hg', _⟩
      · injection e' with e1
        rw [e1] at e
        cases e
      · injection e' with e1
        rw [e1] at e
        cases e
        exact (Array.getElem?_eq_some_iff.1 hg').1
     have PF := Lib.hid pf; have SA := Lib.hid hR2.at_; have SL := Lib.hid (show ∀ b o, q2 = some ⟨b, o, none⟩ → b < w1.heap.size from fun b o e => hR2.lt e); clear pf hR2 hnil; go_upto_region 4 with (at_builtin; refine cut_worldL (F := fun W => ActsRow w W p c j acts ∧ SliceAt W q2 c2 x.list ∧ w1.heap.size + 1 = W.heap.size ∧ W.cell? ⟨w1.heap.size, 0, none⟩ = some (.int .u8 x.kind) ∧ W.cell? ⟨w1.heap.size, 1, none⟩ = some (.int .i64 x.a) ∧ W.cell? ⟨w1.heap.size, 2, none⟩ = some (.slice q2 x.list.length c2) ∧ W.cell? ⟨w1.heap.size, 3, none⟩ = some (.int .u8 f) ∧ W.cell? ⟨w1.heap.size, 4, none⟩ = some (.int .i64 x.n)) ⟨R.out.ext (exx), SA.out.but (((But.refl [wr.heap.size] _).setCell (.inl (by simp)) _).alloc _) (fun b o e hm => by have := RF.out b o e; have : b = wr.heap.size := (by simpa using hm); omega), by simp, by go_simp, by go_simp, by go_simp, by go_simp, by go_simp⟩ ?_; rintro w2 ⟨R2, SA2, zz, n0, n1, n2, n3, n4⟩; obtain ⟨xs, own1, each1⟩ := R2.own; refine wpList_append_lies w2 rfl _ _ 23 rfl w.heap.size 85 i0 _ 5 56 Tryz.underlying23 hi hz0 hz1 hz2 rfl (by decide) (.slice p j c) j xs rfl own1 ⟨w1.heap.size, 0, none⟩ 1 1 [.int .u8 x.kind, .int .i64 x.a, .slice q2 x.list.length c2, .int .u8 f, .int .i64 x.n] rfl (by simp) (news5 n0 n1 n2 n3 n4) (by simp [Value.oneCell']) (by omega) (by unfold maxLen; omega) (by omega) (R2.ext0.le) _ rfl ?_; intro g5 cap5 w3 hown hgrow hor hlt5; obtain ⟨p', c5, e5, R3⟩ := ActsRow.grow R2.ext0 own1 each1 HX.out HOK.out SA2 (fun b o e => ⟨by have := SL.out b o e; omega, fun o' e' => by have := RF.out b o e; have := PF.out b o' e'; omega⟩) hown hgrow (fun g cap e => by cases e; exact hor.imp (row_block own1 g5) id); cases e5; have R4 := Lib.hid R3)
     go_wp2_with fail
     go_roundg (m - (j + 1))
     case measure => omega
     case rel => exact ⟨j + 1, some ⟨g5, 0, none⟩, cap5, by omega, Nat.le_refl _, by go_num, rfl, R4⟩
   · have : j = m := by omega
     subst this; have tk : decide ((j : Int) < (j : Int)) = false := decide_eq_false (by omega)
     go_wp2_with fail
     go_returns; have hr := R.out; rw [← HM.out] at hr; exact ⟨p, c, by rw [HM.out]; rfl, hr.at_, hr.ext0⟩
theorem alike_true {l : List Int} (h : ∀ k, k < l.length → Hp.rd l k = Hp.rd l 0) : Hp.Hs.alike l = true := by
 unfold Hp.Hs.alike
 rw [List.all_eq_true]
 intro x hx
 obtain ⟨k, hk, rfl⟩ := List.getElem_of_mem hx
 have h1 := h k hk
 unfold Hp.rd at h1
 rw [List.getElem?_eq_getElem hk, List.getElem?_eq_getElem (by omega)] at h1
 cases l with
 | nil => simp at hk
 | cons y r =>
  have := Option.some.inj h1; simp only [List.getElem_cons_zero] at this; simp [this]
theorem alike_false {l : List Int} {k : Nat} {x y : Int} (h : Hp.rd l k = some x) (h0 : Hp.rd l 0 = some y) (hne : x ≠ y) : Hp.Hs.alike l = false := by
 cases ha : Hp.Hs.alike l with
 | false => rfl
 | true =>
  unfold Hp.Hs.alike at ha; rw [List.all_eq_true] at ha; have h1 := ha x (List.mem_of_getElem? h)
  cases l with
  | nil => simp [Hp.rd] at h0
  | cons z r =>
   have e : z = y := by simpa [Hp.rd] using h0
   subst e; have : x = z := by simpa using h1
   exact absurd this hne
set_option maxHeartbeats 2000000 in
theorem dFlat {w : World} {p : Option Addr} {c : Nat} {l : List Int} {v : Int} {b : Bool} (h : SliceAt w p c l) (hb : Hp.Hs.alike l = b) :
    Calls Tryz.prog 136 #[.agg #[.int .i64 v, .slice p l.length c]] w fun e w' => e = .returned (.bool b) ∧ Ext w w' := by
  have hle := h.le; have hcap := h.cap; have H := Lib.hid h; have HB := Lib.hid hb; clear h hb; generalize hL : l.length = n at hle ⊢; have HL := Lib.hid hL; clear hL; go_enter Tryz.func136, Tryz.ntmps136
  go_wp2_with fail
  have E0 : Ext w (w.alloc (.cells #[.int .i64 v, .slice p n c] 41)) := exx; have c1 : (w.alloc (.cells #[.int .i64 v, .slice p n c] 41)).cell? ⟨w.heap.size, 1, none⟩ = some (.slice p n c) := by simp [go_sem]
  have z1 : w.heap.size < (w.alloc (.cells #[.int .i64 v, .slice p n c] 41)).heap.size := by simp
  generalize hB : w.heap.size = bx at c1 z1 ⊢; generalize w.alloc (.cells #[.int .i64 v, .slice p n c] 41) = w0 at *; have E0H := Lib.hid E0; clear E0 hB
  go_loopg [3] (n + 1) (fun g i wr => ∃ j : Nat, 1 ≤ j ∧ j ≤ n + 1 ∧ n + 1 - j ≤ g ∧ i = .int .i64 j ∧ Hid (Ext w0 wr) ∧ Hid (∀ k, k < j → k < n → Hp.rd l k = Hp.rd l 0))
  case atStart => exact ⟨1, by omega, by omega, by omega, rfl, Lib.hid (Ext.refl _), Lib.hid (fun k hk _ => by rw [show k = 0 by omega])⟩
  case round =>
   obtain ⟨j, hj1, hj, hg, rfl, E, A⟩ := hrel; have c1' := (E.out.cell z1 1).trans c1; have zr := Nat.lt_of_lt_of_le z1 E.out.le
   by_cases hlt : j < n
   · obtain ⟨x, hx⟩ := rd_get (l := l) (j := j) (by rw [HL.out]; exact hlt); obtain ⟨y, hy⟩ := rd_get (l := l) (j := 0) (by rw [HL.out]; omega); have EX := E0H.out.trans E.out; obtain ⟨bb, o, hp, hbb, hc⟩ := (H.out.ext EX).cells (by rw [HL.out]; omega); have gx := hc j x hx; have gy := hc 0 y hy; rw [Nat.add_zero] at gy; have HX := Lib.hid hx; have HY := Lib.hid hy; have tk : decide ((j : Int) < (n : Int)) = true := decide_eq_true (by omega); have n0 : 0 < n := by omega
     clear hc hx hy; subst hp
     by_cases hxy : x = y
     · have t0 : (x != y) = false := by simpa using hxy
       have A2 : Hid (∀ k, k < j + 1 → k < n → Hp.rd l k = Hp.rd l 0) := Lib.hid (fun k hk hkn => by
        by_cases e : k = j
        · subst e; rw [HX.out, HY.out, hxy]
        · exact A.out k (by omega) hkn)
       clear hxy
       go_wp2_with fail
       have PR29 := Lib.hid (fun (ww : World) (hSw : Ext wr ww) => And.intro ((hSw.cell zr 1).trans c1') (And.intro ((hSw.cell hbb (o + j)).trans gx) ((hSw.cell hbb o).trans gy))); refine wp_region_seq (S := fun W => Ext wr W) (R := Ext) (by kernel_rfl) Ext.refl ?_ ?_
       · exact exx
       refine' tkL 0 rfl ?h0_1 ?_
       case h0_1 => (intro w q; obtain ⟨c1'', gx', gy'⟩ := PR29.out w q; go_simp; try with_reducible rfl)
       refine layy ?_; refine' tkL 1 rfl ?h1_2 ?_
       case h1_2 => (intro w q; obtain ⟨c1'', gx', gy'⟩ := PR29.out w q; go_simp; try with_reducible rfl)
       refine layy ?_; refine' tkL 2 rfl ?h2_3 ?_
       case h2_3 => (intro w q; obtain ⟨c1'', gx', gy'⟩ := PR29.out w q; go_simp; try with_reducible rfl)
       refine layy ?_; refine' tkL 3 rfl ?h3_4 ?_
       case h3_4 => (intro w q; obtain ⟨c1'', gx', gy'⟩ := PR29.out w q; go_simp; try with_reducible rfl)
       refine layy ?_; refine' tkL 4 rfl ?h4_5 ?_
       case h4_5 => (intro w q; obtain ⟨c1'', gx', gy'⟩ := PR29.out w q; go_simp; try with_reducible rfl)
       refine layy ?_; refine' tkL 5 rfl ?h5_6 ?_
       case h5_6 => (intro w q; obtain ⟨c1'', gx', gy'⟩ := PR29.out w q; go_simp; try with_reducible rfl)
       refine layy ?_; refine' tkL 6 rfl ?h6_7 ?_
       case h6_7 => (intro w q; obtain ⟨c1'', gx', gy'⟩ := PR29.out w q; go_simp; try with_reducible rfl)
       refine layy ?_; refine' tkL 7 rfl ?h7_8 ?_
       case h7_8 => (intro w q; obtain ⟨c1'', gx', gy'⟩ := PR29.out w q; go_simp; try with_reducible rfl)
       refine layy ?_; refine' tkL 8 rfl ?h8_9 ?_
       case h8_9 => (intro w q; obtain ⟨c1'', gx', gy'⟩ := PR29.out w q; go_simp; try with_reducible rfl)
       refine layy ?_; refine' tkL 9 rfl ?h9_10 ?_
       case h9_10 => (intro w q; obtain ⟨c1'', gx', gy'⟩ := PR29.out w q; go_simp; try with_reducible rfl)
       refine layy ?_; refine wpAnyR_done (by kernel_rfl) ?_ _; intro x1 _ Ex1; have E2 := Lib.hid (E.out.trans Ex1)
       go_wp2_with fail
       go_roundg (n + 1 - (j + 1))
       case measure => omega
       case rel => exact ⟨j + 1, by omega, by omega, Nat.le_refl _, by go_num, E2, A2⟩
     · have t0 : (x != y) = true := by simpa using hxy
       have hbf : b = false := by rw [← HB.out]; exact alike_false HX.out HY.out hxy
       subst hbf; clear hxy
       go_wp2_with fail
       have PR30 := Lib.hid (fun (ww : World) (hSw : Ext wr ww) => And.intro ((hSw.cell zr 1).trans c1') (And.intro ((hSw.cell hbb (o + j)).trans gx) ((hSw.cell hbb o).trans gy))); refine wp_region_seq (S := fun W => Ext wr W) (R := Ext) (by kernel_rfl) Ext.refl ?_ ?_
       · exact exx
       refine' tkL 0 rfl ?h0_11 ?_
       case h0_11 => (intro w q; obtain ⟨c1'', gx', gy'⟩ := PR30.out w q; go_simp; try with_reducible rfl)
       refine layy ?_; refine' tkL 1 rfl ?h1_12 ?_
       case h1_12 => (intro w q; obtain ⟨c1'', gx', gy'⟩ := PR30.out w q; go_simp; try with_reducible rfl)
       refine layy ?_; refine' tkL 2 rfl ?h2_13 ?_
       case h2_13 => (intro w q; obtain ⟨c1'', gx', gy'⟩ := PR30.out w q; go_simp; try with_reducible rfl)
       refine layy ?_; refine' tkL 3 rfl ?h3_14 ?_
       case h3_14 => (intro w q; obtain ⟨c1'', gx', gy'⟩ := PR30.out w q; go_simp; try with_reducible rfl)
       refine layy ?_; refine' tkL 4 rfl ?h4_15 ?_
       case h4_15 => (intro w q; obtain ⟨c1'', gx', gy'⟩ := PR30.out w q; go_simp; try with_reducible rfl)
       refine layy ?_; refine' tkL 5 rfl ?h5_16 ?_
       case h5_16 => (intro w q; obtain ⟨c1'', gx', gy'⟩ := PR30.out w q; go_simp; try with_reducible rfl)
       refine layy ?_; refine' tkL 6 rfl ?h6_17 ?_
       case h6_17 => (intro w q; obtain ⟨c1'', gx', gy'⟩ := PR30.out w q; go_simp; try with_reducible rfl)
       refine layy ?_; refine' tkL 7 rfl ?h7_18 ?_
       case h7_18 => (intro w q; obtain ⟨c1'', gx', gy'⟩ := PR30.out w q; go_simp; try with_reducible rfl)
       refine layy ?_; refine' tkL 8 rfl ?h8_19 ?_
       case h8_19 => (intro w q; obtain ⟨c1'', gx', gy'⟩ := PR30.out w q; go_simp; try with_reducible rfl)
       refine layy ?_; refine' tkL 9 rfl ?h9_20 ?_
       case h9_20 => (intro w q; obtain ⟨c1'', gx', gy'⟩ := PR30.out w q; go_simp; try with_reducible rfl)
       refine layy ?_; refine wpAnyR_done (by kernel_rfl) ?_ _; intro x1 _ Ex1
       go_wp2_with fail
       go_returns; exact ⟨rfl, EX.trans Ex1⟩
   · have tk : decide ((j : Int) < (n : Int)) = false := decide_eq_false (by omega); have hbt : b = true := by
      rw [← HB.out]; exact alike_true fun k hk => A.out k (by have := HL.out; omega) (by have := HL.out; omega)
     subst hbt
     go_wp2_with fail
     go_returns; exact ⟨rfl, E0H.out.trans E.out⟩
open Go.ChangeShapes Go.WideShapes Go.ChangeAt Go.RowKit Go.Joins
theorem own : ownKnob Tryz.prog.godebug = none := by kernel_rfl
theorem kids : Kids Tryz.prog (· < Tryz.prog.types.size) := kids_rows (by kernel_rfl) (by kernel_rfl)
theorem full : ∀ t e, t < Tryz.prog.types.size → Tryz.prog.underlying t = some (.slice e) → 0 < Tryz.prog.cellsOf e := slices_full_of _ (by kernel_rfl)
theorem same_at {W W' : World} (he : Ext W W') {p : MemPlace} (hp : p.block < W.heap.size) : W.sameAt W' p := by
 cases p with
 | cell b off => exact he.cell hp off
 | map b => exact he.block b hp
theorem args_again {H : Type} {enc : TypeId × Value → H} {W W' : World} (he : Ext W W') {sp : Nat → Bool} : ∀ {ts : List TypeId} {vs : List Value} {ds : List (DataW H)} {ps : List MemPlace}, (∀ t ∈ ts, t < Tryz.prog.types.size) → DataW.TrodAll enc Tryz.prog W 0 (fun _ => true) true ts vs ds ps →
    (∀ p ∈ ps, p.block < W.heap.size) → (∀ p ∈ ps, sp p.block = true) → DataW.TrodAll enc Tryz.prog W' 0 sp true ts vs ds ps := by
  intro ts vs ds ps hT h hlt hs; refine DataW.TrodAll.respare kids full hT ?_ hs; clear hs hT
  induction ts generalizing vs ds ps with
  | nil => match vs, ds, h with
   | [], [], h => exact h
  | cons t ts ih => match vs, ds, h with
   | v :: vs, d :: ds, ⟨p, q, ⟨n, h1⟩, h2, e⟩ =>
    subst e; exact ⟨p, q, ⟨n, DataW.trod_carry n _ _ _ h1 (fun x hx => same_at he (hlt x (List.mem_append_left _ hx)))⟩, ih h2 (fun x hx => hlt x (List.mem_append_right _ hx)), rfl⟩
theorem post_ext {H : Type} {enc : TypeId × Value → H} {P : Program} {f : Func} {s : ChangeSpec} {W W' : World} {args : Array Value} {v : Value} {ds gs : List (DataW H)} {before pa pv : List MemPlace}
    (hW : DataW.Whole enc P f.params.toList s.vars false W args.toList ds gs before)
    (hres : ∀ (b : Nat) (sp : Nat → Bool) (hd : Bool), DataW.TrodAll enc P W' b sp hd f.resultTypes.toList (v.resultList f.resultTypes.size) (s.fn H (ds ++ gs)).results [])
    (hargs : ∀ sp : Nat → Bool, (∀ p ∈ before, sp p.block = true) → DataW.TrodAll enc P W' 0 sp true f.params.toList args.toList (s.fn H (ds ++ gs)).args pa)
    (hvars : ∀ sp : Nat → Bool, (∀ p ∈ before, sp p.block = true) → DataW.TrodVars enc P W' sp s.vars (s.fn H (ds ++ gs)).vars pv)
    (hps : before = pa ++ pv) (hb : Ext W W') : s.post enc P f false true false false W args v W' := by
  have hold : ∀ p ∈ before, (fun b => decide (b < W.heap.size)) p.block = true := fun p hp => by simpa using hW.lt p hp
  refine ⟨ds, gs, before, [], pa, pv, hW, hres _ _ _, hargs _ hold, hvars _ hold, World.keptBut_mono (fun p hp => ⟨hp, ?_⟩) (Below.frame hb (· ∈ before)), fun h => by cases h⟩; rw [hps, List.mem_append] at hp; exact Or.inr hp
theorem cellsOf_I : Tryz.prog.cellsOf 3 = 1 := by kernel_rfl
theorem cellsOf_B : Tryz.prog.cellsOf 5 = 1 := by kernel_rfl
theorem cellsOf_L : Tryz.prog.cellsOf 22 = 1 := by kernel_rfl
theorem cellsOf_V : Tryz.prog.cellsOf 43 = 2 := by kernel_rfl
theorem cellsOf_A : Tryz.prog.cellsOf 85 = 5 := by kernel_rfl
section
variable {H : Type} {enc : TypeId × Value → H} {w : World} {base : Nat} {held : Bool}
theorem open_ints {fuel : Nat} {v : Value} {y : DataW H × List MemPlace} (h : DataW.trod enc Tryz.prog w base (fun _ => true) held fuel 22 [v] = some y) : ∃ (q : Option Addr) (c : Nat) (l : List Int), v = .slice q l.length c ∧ SliceAt w q c l ∧ (q = none → c = 0) := by
 rcases Go.Deep.open_slice1 Tryz.underlying22 cellsOf_I h with ⟨hcs, -⟩ | ⟨a, len, cap, m, n, V, D, Pl, hcs, hb, hl, hm, hmm, hx, hi⟩
 · exact ⟨none, 0, [], (List.cons.inj hcs).1, ⟨by simp, by omega, by simp, fun h => by simp at h⟩, fun _ => rfl⟩
 · have hcs := (List.cons.inj hcs).1; simp only [if_true] at hmm; subst hmm; have num : ∀ i, i < m → ∃ z : Int, V i = .int .i64 z ∧ -9223372036854775808 ≤ z ∧ z ≤ 9223372036854775807 := fun i h => by
    obtain ⟨-, h2⟩ := hi i h; obtain ⟨f, e0, _, wf0⟩ := DataW.trod_int Tryz.underlying3 h2; simp at e0; exact ⟨f, e0, bounds_i64 wf0⟩
   obtain ⟨z, hz⟩ : ∃ z : Nat → Int, ∀ i, i < m → V i = .int .i64 (z i) ∧ -9223372036854775808 ≤ z i ∧ z i ≤ 9223372036854775807 :=
    ⟨fun i => if h : i < m then (num i h).choose else 0, fun i h => by simp only [dif_pos h]; exact (num i h).choose_spec⟩
   refine ⟨some a, m, (List.range len).map z, by simpa using hcs, ⟨by simpa using hl, by unfold maxLen at hm; omega, fun x hx => ?_, fun h0 => ?_⟩, fun h => by cases h⟩
   · obtain ⟨i, hi', rfl⟩ := List.mem_map.1 hx; have := List.mem_range.1 hi'; exact (hz i (by omega)).2
   · simp only [List.length_map, List.length_range] at h0; obtain ⟨b, off, spot⟩ := a; have hspot : spot = none := by simpa [Addr.add] using World.cell?_spot (hi 0 (by omega)).1
     subst hspot; have key : ∀ j, j < len → w.cell? ⟨b, off + j, none⟩ = some (.int .i64 (z j)) := fun j hj => by
      have := (hi j (by omega)).1; rw [(hz j (by omega)).1, Addr.add_lit] at this; exact this
     refine ⟨b, off, rfl, cell_lt (key 0 h0), fun j x hx => ?_⟩; have hj := rd_lt hx; simp only [List.length_map, List.length_range] at hj; have : z j = x := by simpa [Hp.rd, hj] using hx
     rw [← this]; exact key j hj
theorem open_acts {fuel : Nat} {v : Value} {y : DataW H × List MemPlace} (h : DataW.trod enc Tryz.prog w base (fun _ => true) held fuel 23 [v] = some y) : ∃ (pa : Option Addr) (ca : Nat) (acts : List Hp.Act'), v = .slice pa acts.length ca ∧ ActsW w pa ca acts ∧ NilActs w pa acts := by
 rcases Go.Deep.open_slice Tryz.underlying23 h with ⟨hcs, -⟩ | ⟨a, len, cap, m, n, D, Pl, hcs, hb, hl, hm, hmm, hx, hi⟩
 · exact ⟨none, 0, [], (List.cons.inj hcs).1, ⟨by simp, by omega, fun h => by simp at h⟩, fun b o j x q c hp => by cases hp⟩
 · have hcs := (List.cons.inj hcs).1; simp only [if_true] at hmm; subst hmm; rw [cellsOf_A] at hi; have num : ∀ i, i < m → ∃ (x : Hp.Act'), ∃ (q : Option Addr) (c f : Nat), ActOk { x with list := [] } f ∧ w.cell? (a.add (i * 5)) = some (.int .u8 x.kind) ∧ w.cell? (a.add (i * 5 + 1)) = some (.int .i64 x.a) ∧ w.cell? (a.add (i * 5 + 2)) = some (.slice q x.list.length c) ∧ w.cell? (a.add (i * 5 + 3)) = some (.int .u8 f) ∧ w.cell? (a.add (i * 5 + 4)) = some (.int .i64 x.n) ∧ SliceAt w q c x.list ∧ (q = none → c = 0) := fun i h => by
    obtain ⟨cs, hc, ht⟩ := hi i h; obtain ⟨_, hlen, hcell⟩ := World.cells?_some hc
    match cs, hlen with
    | [c0, c1, c2, c3, c4], _ =>
     obtain ⟨xs, k, -, -, -, hxl, hf⟩ := DataW.trod_struct Tryz.underlying85 ht; have f0 : DataW.trod enc Tryz.prog w base (fun _ => true) held k 5 (([c0, c1, c2, c3, c4].drop 0).take (Tryz.prog.cellsOf 5)) = xs[0]? := hf 0 _ rfl; rw [cellsOf_B] at f0; have f1 : DataW.trod enc Tryz.prog w base (fun _ => true) held k 3 (([c0, c1, c2, c3, c4].drop 1).take (Tryz.prog.cellsOf 3)) = xs[1]? := hf 1 _ rfl; rw [cellsOf_I] at f1; have f2 : DataW.trod enc Tryz.prog w base (fun _ => true) held k 22 (([c0, c1, c2, c3, c4].drop 2).take (Tryz.prog.cellsOf 22)) = xs[2]? := hf 2 _ rfl; rw [cellsOf_L] at f2; have f3 : DataW.trod enc Tryz.prog w base (fun _ => true) held k 43 (([c0, c1, c2, c3, c4].drop 3).take (Tryz.prog.cellsOf 43)) = xs[3]? := hf 3 _ rfl; rw [cellsOf_V] at f3; simp only [List.drop_succ_cons, List.drop_zero, List.take_succ_cons, List.take_zero] at f0 f1 f2 f3; clear hf; have hxl4 : xs.length = 4 := hxl; have fin : ∀ j, j < 4 → ∃ y, xs[j]? = some y := fun j hj => ⟨_, List.getElem?_eq_getElem (by omega)⟩
     obtain ⟨y0, g0⟩ := fin 0 (by omega); obtain ⟨y1, g1⟩ := fin 1 (by omega); obtain ⟨y2, g2⟩ := fin 2 (by omega); obtain ⟨y3, g3⟩ := fin 3 (by omega); rw [g0] at f0; rw [g1] at f1; rw [g2] at f2; rw [g3] at f3; obtain ⟨k0, e0, _, w0⟩ := DataW.trod_int Tryz.underlying5 f0; obtain ⟨k1, e1, _, w1⟩ := DataW.trod_int Tryz.underlying3 f1; obtain ⟨q, c, l, e2, hs, hn⟩ := open_ints f2; obtain ⟨z0, z1, n', -, _, h0, h1⟩ := trod_struct2 Tryz.underlying43 f3; obtain ⟨k3, e3, _, w3⟩ := DataW.trod_int Tryz.underlying5 h0; obtain ⟨k4, e4, _, w4⟩ := DataW.trod_int Tryz.underlying3 h1; rw [cellsOf_B] at e3; rw [cellsOf_I] at e4; simp at e0 e1 e3 e4; subst e0 e1 e2 e3 e4; obtain ⟨b0, b1⟩ := bounds_u8 w0; obtain ⟨b2, b3⟩ := bounds_i64 w1; obtain ⟨b4, b5⟩ := bounds_u8 w3; obtain ⟨b6, b7⟩ := bounds_i64 w4; have cl : ∀ (i2 : Nat) (u : Value), [Value.int .u8 k0, .int .i64 k1, .slice q l.length c, .int .u8 k3, .int .i64 k4][i2]? = some u → w.cell? ((a.add (i * 5)).add i2) = some u := fun i2 u hu => by
      rw [hcell i2 (by have := (List.getElem?_eq_some_iff.1 hu).1; simpa using this)]
      exact hu
     refine ⟨⟨k0, k1, l, k3, k4⟩, q, c, k3.toNat, ⟨b0, by show k3 = _; omega, by omega, b6, b7, b2, b3, by simp⟩, ?_, ?_, ?_, ?_, ?_, hs, hn⟩
     · have := cl 0 _ rfl
       rwa [Go.Deep.add_add] at this
     · have := cl 1 _ rfl
       rwa [Go.Deep.add_add] at this
     · have := cl 2 _ rfl
       rwa [Go.Deep.add_add] at this
     · have := cl 3 _ rfl; rw [Go.Deep.add_add] at this; rw [this, show ((k3.toNat : Nat) : Int) = k3 by omega]
     · have := cl 4 _ rfl
       rwa [Go.Deep.add_add] at this
   obtain ⟨z, hz⟩ : ∃ z : Nat → Hp.Act', ∀ i, i < m → ∃ (q : Option Addr) (c f : Nat), ActOk { z i with list := [] } f ∧ w.cell? (a.add (i * 5)) = some (.int .u8 (z i).kind) ∧ w.cell? (a.add (i * 5 + 1)) = some (.int .i64 (z i).a) ∧ w.cell? (a.add (i * 5 + 2)) = some (.slice q (z i).list.length c) ∧ w.cell? (a.add (i * 5 + 3)) = some (.int .u8 f) ∧ w.cell? (a.add (i * 5 + 4)) = some (.int .i64 (z i).n) ∧ SliceAt w q c (z i).list ∧ (q = none → c = 0) :=
    ⟨fun i => if h : i < m then (num i h).choose else ⟨0, 0, [], 0, 0⟩, fun i h => by simp only [dif_pos h]; exact (num i h).choose_spec⟩
   have zl : ∀ (j : Nat) (x : Hp.Act'), ((List.range len).map z)[j]? = some x → j < len ∧ x = z j := fun j x hx => by
    have hj : j < len := by simpa using (List.getElem?_eq_some_iff.1 hx).1
    exact ⟨hj, by simpa [hj, eq_comm] using hx⟩
   refine ⟨some a, m, (List.range len).map z, by simpa using hcs, ⟨by simpa using hl, by unfold maxLen at hm; omega, fun h0 => ?_⟩, fun b o j x q c hp hx hc hq => ?_⟩
   · simp only [List.length_map, List.length_range] at h0; obtain ⟨b, off, spot⟩ := a; have hspot : spot = none := by
      obtain ⟨_, _, _, _, h1, _⟩ := hz 0 (by omega)
      simpa [Addr.add] using World.cell?_spot h1
     subst hspot; refine ⟨b, off, rfl, ?_, fun j x hx => ?_⟩
     · obtain ⟨_, _, _, _, h1, _⟩ := hz 0 (by omega); rw [Addr.add_lit] at h1; exact cell_lt h1
     · obtain ⟨hj, rfl⟩ := zl j x hx; obtain ⟨q, c, f, h1, h2, h3, h4, h5, h6, h7, _⟩ := hz j (by omega); rw [Addr.add_lit] at h2 h3 h4 h5 h6; exact ⟨q, c, f, h1, h2, h3, h4, h5, h6, h7⟩
   · obtain ⟨hj, rfl⟩ := zl j x hx
     cases hp
     obtain ⟨q', c', f, h1, h2, h3, h4, h5, h6, h7, h8⟩ := hz j (by omega); have : w.cell? ⟨b, o + j * 5 + 2, none⟩ = some (.slice q' (z j).list.length c') := by
      rw [Addr.add_lit] at h4; exact h4
     rw [this] at hc
     cases hc
     exact h8 hq
set_option maxRecDepth 100000 in
theorem open_S {r : Reach} {b0 : Nat} {v : Value} {d : DataW H} {p : List MemPlace} (hv : Value.okWide Tryz.prog w r b0 25 v) (h : DataW.Trod enc Tryz.prog w base (fun _ => true) held 25 v d p) :
    ∃ (sp op pa : Option Addr) (sc oc ca : Nat) (z o : List Int) (n : Int) (acts : List Hp.Act'), v = .agg #[.slice sp z.length sc, .slice op o.length oc, .int .i64 n, .slice pa acts.length ca] ∧ SAt w sp sc op oc pa ca z o acts ∧ -9223372036854775808 ≤ n ∧ n ≤ 9223372036854775807 := by
  obtain ⟨c0, c1, c2, c3, y0, y1, y2, y3, m, rfl, -, -, h0, h1, h2, h3⟩ := open_agg4 Tryz.underlying25 (by kernel_rfl) (by kernel_rfl) hv h; obtain ⟨sp, sc, z, rfl, s0, n0⟩ := open_ints h0; obtain ⟨op, oc, o, rfl, s1, n1⟩ := open_ints h1; obtain ⟨n, e2, _, wf⟩ := DataW.trod_int Tryz.underlying3 h2; obtain ⟨pa, ca, acts, rfl, s3, n3⟩ := open_acts h3; simp at e2; subst e2; exact ⟨sp, op, pa, sc, oc, ca, z, o, n, acts, rfl, ⟨n3, s0, s1, s3, n0, n1⟩, bounds_i64 wf⟩
end
end Go.Proofs.YtdokmmhjmclmnaaGreat
