/-
  Part 35 of a proof: HFn34.
-/
import Derived.Test.YtdokmmhjmclmnaaGreatM19
import Derived.Test.YtdokmmhjmclmnaaGreatM34
set_option linter.unusedSimpArgs false
set_option linter.unusedVariables false
set_option linter.unusedSectionVars false
set_option linter.unnecessarySimpa false
namespace Go.Proofs.YtdokmmhjmclmnaaGreat
open Go.RowKit Go.Maps
theorem SliceAt.drop_ {w : World} {g o c k : Nat} {l : List Int} (h : SliceAt w (some ⟨g, o, none⟩) c l) (hk : k < l.length) : SliceAt w (some ⟨g, o + k, none⟩) (c - k) (l.drop k) := by
 obtain ⟨b, o', e, hb, hc⟩ := h.cells (by omega)
 cases e
 have h1 := h.le
 have h2 := h.cap
 refine ⟨by rw [List.length_drop]; omega, by omega, fun x hx => h.wf x (List.mem_of_mem_drop hx), fun _ => ⟨g, o + k, rfl, hb, fun j x hx => ?_⟩⟩
 have : Hp.rd l (k + j) = some x := by
  unfold Hp.rd at hx ⊢
  rwa [List.getElem?_drop] at hx
 rw [Nat.add_assoc]
 exact hc _ _ this
theorem lit_ints {w : World} {l : List Int} (hl : ∀ x ∈ l, -9223372036854775808 ≤ x ∧ x ≤ 9223372036854775807) (hn : l.length ≤ 1000000) (t : TypeId) : SliceAt (w.alloc (.cells (ints l).toArray t)) (some ⟨w.heap.size, 0, none⟩) l.length l := by
 refine ⟨Nat.le_refl _, by omega, hl, fun _ => ⟨w.heap.size, 0, rfl, by simp, fun j x hx => ?_⟩⟩
 have : (ints l)[j]? = some (.int .i64 x) := by
  unfold Hp.rd at hx
  simp [ints, hx]
 have e := World.alloc_heap_new w (.cells (ints l).toArray t)
 simp only [World.cell?, e]
 simpa using this
theorem HAt.box {w : World} {d : Hd} {S : Hp.Hs} {g : Nat} {v : Value} {o : Nat} (h : HAt w d S) (ho : ∀ b ∈ d.own, b < g) (h1 : ∀ b o, d.sp = some ⟨b, o, none⟩ → b < g) (h2 : ∀ b o, d.op = some ⟨b, o, none⟩ → b < g) : HAt (w.setCell ⟨g, o, none⟩ v) d S :=
 h.but ((But.refl [g] _).setCell (.inl (by simp)) _) (by have := ho _ d.hb_own; simp; omega) (by have := ho _ d.gw_own; simp; omega) (by have := ho _ d.gm_own; simp; omega) (fun b o e => by have := h1 b o e; simp; omega) (fun b o e => by have := h2 b o e; simp; omega)
set_option maxRecDepth 100000 in
set_option maxHeartbeats 16000000 in
theorem awake_any (w : World) : Calls Tryz.prog 15 #[] w fun e w' => e = .returned (.bool true) ∧ Ext w w' := by
 have L16 : (Aw.S4.words.drop 16).length = 23 := by kernel_rfl
 have SM : ∀ (W : World) (p q : Option Addr) (c d : Nat), SliceAt W p c (Aw.S4.words.drop 16) → SliceAt W q d lastWords → Calls Tryz.prog 24 #[.slice p 23 c, .slice q 23 d] W fun e w' => e = .returned (.bool true) ∧ Ext W w' := fun W p q c d h k => by
  have := dSame_is Aw.es h k
  rw [L16, show lastWords.length = 23 from rfl] at this
  exact this
 have SK : ∀ (W : World) (p q : Option Addr) (c d : Nat), SliceAt W p c [17, 22] → SliceAt W q d [17, 22] → Calls Tryz.prog 24 #[.slice p 2 c, .slice q 2 d] W fun e w' => e = .returned (.bool true) ∧ Ext W w' := fun W p q c d h k => by
  have := dSame_is (b := true) (l := [17, 22]) (m := [17, 22]) rfl h k
  exact this
 have WX : ∀ {d : Hd} (W : World), HAt W d Aw.S4 → Calls Tryz.prog 20 #[.pointer (some ⟨d.hb, 0, none⟩)] W fun e w' => ∃ g c, e = .returned (.tuple #[.slice (some ⟨g, 0, none⟩) 39 c, .int .i64 0]) ∧ Row w' W.heap.size (some ⟨g, 0, none⟩) c Aw.S4.words ∧ Ext W w' := fun {d} W h => by
  have := Words_any h (by rw [Aw.ew]; omega)
  unfold WordsPost at this
  rw [Aw.ew] at this
  exact this
 have SX : ∀ {d : Hd} (W : World), HAt W d Aw.S6 → Calls Tryz.prog 21 #[.pointer (some ⟨d.hb, 0, none⟩)] W fun e w' => e = .returned (.tuple #[.agg #[.int .i64 3, .int .i64 3, .int .i64 6, .int .i64 6], .int .i64 0]) ∧ Ext W w' := fun {d} W h => by
  have := Stats_any h Aw.el Aw.ep
  rw [Aw.eg, Aw.et] at this
  exact this
 have SMH := Lib.hid SM
 have SKH := Lib.hid SK
 clear SM SK L16
 go_enter Tryz.func15, Tryz.ntmps15
 go_upto_region 2 with (go_at_call 55; refine (pair_any (n := 39) (by omega) (by omega) Aw.ee Aw.e0 Aw.e1 Aw.e2 Aw.e3).mono ?_; rintro e w1 ⟨d, rfl, hA1, o1, E1, s1, s2⟩)
 have A2 : HAt (w1.alloc (.cells #[.int .i64 17, .int .i64 22, .int .i64 27] 97)) d Aw.S3 := hA1.ext (Ext.alloc (Ext.refl _) _)
 have X2 : Ext w (w1.alloc (.cells #[.int .i64 17, .int .i64 22, .int .i64 27] 97)) := E1.alloc _
 have own1 := hA1.own_lt
 have hx : w1.heap.size ∉ d.own := fun hm => by have := own1 _ hm; omega
 have z2 : w1.heap.size < (w1.alloc (.cells #[.int .i64 17, .int .i64 22, .int .i64 27] 97)).heap.size := by simp
 have b0 : (w1.alloc (.cells #[.int .i64 17, .int .i64 22, .int .i64 27] 97)).cell? ⟨w1.heap.size, 0, none⟩ = some (.int .i64 17) := by simp [go_sem]
 have b1 : (w1.alloc (.cells #[.int .i64 17, .int .i64 22, .int .i64 27] 97)).cell? ⟨w1.heap.size, 1, none⟩ = some (.int .i64 22) := by simp [go_sem]
 have b2 : (w1.alloc (.cells #[.int .i64 17, .int .i64 22, .int .i64 27] 97)).cell? ⟨w1.heap.size, 2, none⟩ = some (.int .i64 27) := by simp [go_sem]
 generalize w1.alloc (.cells #[.int .i64 17, .int .i64 22, .int .i64 27] 97) = w2 at A2 X2 z2 b0 b1 b2 ⊢
 have CX := Lib.hid (fun (W : World) (k : But d.own w2 W) => (⟨(k.cell z2 hx 0).trans b0, (k.cell z2 hx 1).trans b1, (k.cell z2 hx 2).trans b2, Nat.lt_of_lt_of_le z2 k.size⟩ : W.cell? ⟨w1.heap.size, 0, none⟩ = some (.int .i64 17) ∧ W.cell? ⟨w1.heap.size, 1, none⟩ = some (.int .i64 22) ∧ W.cell? ⟨w1.heap.size, 2, none⟩ = some (.int .i64 27) ∧ w1.heap.size < W.heap.size))
 have X2H := Lib.hid X2
 have N2 := Lib.hid (Now.refl A2)
 have O1 := Lib.hid o1
 have OW := Lib.hid own1
 have q3 : SliceAt (w2.alloc (.cells #[.int .i64 17, .int .i64 27] 3)) (some ⟨w2.heap.size, 0, none⟩) 2 [17, 27] := SliceAt.two w2 17 27 (by omega) (by omega) _
 have E3 : Ext w2 (w2.alloc (.cells #[.int .i64 17, .int .i64 27] 3)) := Ext.alloc (Ext.refl _) _
 have M3 : Calls Tryz.prog 44 #[.pointer (some ⟨d.hb, 0, none⟩), .int .i64 0, .slice (some ⟨w2.heap.size, 0, none⟩) 2 2] (w2.alloc (.cells #[.int .i64 17, .int .i64 27] 3)) (Added d (w2.alloc (.cells #[.int .i64 17, .int .i64 27] 3)) (33, 0, Aw.S4)) :=
  Make_any (l := [17, 27]) (N2.out.ext E3).toHAt q3 (fun b o e hm => by
   cases e
   have := N2.out.own_lt _ hm
   omega) (by omega) (by omega) Aw.e4
 clear q3 A2 X2 own1 o1 hA1 E1 s1 s2 hx
 go_upto_region 3 with (go_at_call 44; refine M3.mono ?_; rintro e w3 ⟨rfl, A3⟩)
 have N3 := Lib.hid (Now.mk A3.toHAt ((N2.out.but.ext E3).trans A3.but))
 clear A3 M3 N2 E3 b0 b1 b2 z2
 go_upto_region 4 with (go_at_call 20; refine (WX _ N3.out.toHAt).mono ?_; rintro e w4 ⟨gW, cW, rfl, RW, E4⟩)
 have N4 := Lib.hid (N3.out.ext E4)
 have RW4 := Lib.hid RW
 have W34 := E4.le
 have Z3 := (CX.out _ N3.out.but).2.2.2
 clear RW N3 E4
 obtain ⟨-, -, b2, z2⟩ := CX.out _ N4.out.but
 go_upto_region 5 with (go_at_call 53; refine (Hold_any N4.out.toHAt Aw.e5 (by omega) (by omega)).mono ?_; rintro e w5 ⟨rfl, hA5, hB5⟩)
 have N5 := Lib.hid (Now.mk hA5 (N4.out.but.trans hB5))
 have RW5 := Lib.hid (RW4.out.but hB5 (fun b hb => by have := OW.out b hb; omega))
 clear hA5 hB5 N4 RW4 b2
 go_upto_region 6 with (go_at_call 47; refine (Collect_any N5.out.toHAt Aw.e6).mono ?_; rintro e w6 ⟨rfl, hA6, hB6⟩)
 have N6 := Lib.hid (Now.mk hA6 (N5.out.but.trans hB6))
 have RW6 := Lib.hid (RW5.out.but hB6 (fun b hb => by have := OW.out b hb; omega))
 clear hA6 hB6 N5 RW5
 go_upto_region 7 with (go_at_call 21; refine (SX _ N6.out.toHAt).mono ?_; rintro e w7 ⟨rfl, E7⟩)
 have N7 := Lib.hid ((N6.out.ext E7).ext (Ext.alloc (Ext.refl _) (.cells #[.int .i64 3, .int .i64 3, .int .i64 6, .int .i64 6] 37)))
 have RW7 := Lib.hid ((RW6.out.ext E7).ext (Ext.alloc (Ext.refl _) (.cells #[.int .i64 3, .int .i64 3, .int .i64 6, .int .i64 6] 37)))
 clear N6 RW6 E7
 obtain ⟨-, -, b2, z2⟩ := CX.out _ N7.out.but
 go_upto_region 8 with (go_at_call 22; refine (At_node N7.out.toHAt Aw.h27 Aw.t27 rfl Aw.k27 (by omega) (by omega)).mono ?_; rintro e w8 ⟨g8, c8, rfl, R8, E8⟩)
 have E89 : Ext w8 ((w8.alloc (.cells #[.int .i64 1, .slice (some ⟨g8, 0, none⟩) 2 c8] 41)).alloc (.cells #[.int .u8 0, .int .i64 0] 43)) := Ext.alloc (Ext.alloc (Ext.refl _) _) _
 have N9 := Lib.hid ((N7.out.ext E8).ext E89)
 have RW9 := Lib.hid ((RW7.out.ext E8).ext E89)
 have R9 := Lib.hid (R8.ext E89)
 have z7 : w7.heap.size < w8.heap.size := by have := E8.le; simp at this; omega
 have s0 : w8.cell? ⟨w7.heap.size, 0, none⟩ = some (.int .i64 3) := (E8.cell (by simp) 0).trans (by simp [go_sem])
 have s1 : w8.cell? ⟨w7.heap.size, 1, none⟩ = some (.int .i64 3) := (E8.cell (by simp) 1).trans (by simp [go_sem])
 have s2 : w8.cell? ⟨w7.heap.size, 2, none⟩ = some (.int .i64 6) := (E8.cell (by simp) 2).trans (by simp [go_sem])
 have s3 : w8.cell? ⟨w7.heap.size, 3, none⟩ = some (.int .i64 6) := (E8.cell (by simp) 3).trans (by simp [go_sem])
 have v0 : ((w8.alloc (.cells #[.int .i64 1, .slice (some ⟨g8, 0, none⟩) 2 c8] 41)).alloc (.cells #[.int .u8 0, .int .i64 0] 43)).cell? ⟨w8.heap.size, 0, none⟩ = some (.int .i64 1) := by simp [go_sem]
 have v1 : ((w8.alloc (.cells #[.int .i64 1, .slice (some ⟨g8, 0, none⟩) 2 c8] 41)).alloc (.cells #[.int .u8 0, .int .i64 0] 43)).cell? ⟨w8.heap.size, 1, none⟩ = some (.slice (some ⟨g8, 0, none⟩) 2 c8) := by simp [go_sem]
 have v2 : ((w8.alloc (.cells #[.int .i64 1, .slice (some ⟨g8, 0, none⟩) 2 c8] 41)).alloc (.cells #[.int .u8 0, .int .i64 0] 43)).cell? ⟨w8.heap.size + 1, 0, none⟩ = some (.int .u8 0) := by simp [go_sem]
 have v3 : ((w8.alloc (.cells #[.int .i64 1, .slice (some ⟨g8, 0, none⟩) 2 c8] 41)).alloc (.cells #[.int .u8 0, .int .i64 0] 43)).cell? ⟨w8.heap.size + 1, 1, none⟩ = some (.int .i64 0) := by simp [go_sem]
 have z9 : w8.heap.size + 1 < ((w8.alloc (.cells #[.int .i64 1, .slice (some ⟨g8, 0, none⟩) 2 c8] 41)).alloc (.cells #[.int .u8 0, .int .i64 0] 43)).heap.size := by simp
 have s0 := (E89.cell z7 0).trans s0
 have s1 := (E89.cell z7 1).trans s1
 have s2 := (E89.cell z7 2).trans s2
 have s3 := (E89.cell z7 3).trans s3
 clear N7 RW7 R8 E8
 generalize (w8.alloc (.cells #[.int .i64 1, .slice (some ⟨g8, 0, none⟩) 2 c8] 41)).alloc (.cells #[.int .u8 0, .int .i64 0] 43) = w9 at *
 obtain ⟨b0, b1, b2, z2⟩ := CX.out _ N9.out.but
 obtain ⟨bW, oW, eW, zg, gc⟩ := RW9.out.at_.cells (by rw [Aw.ew]; omega)
 cases eW
 have g1 := gc 1 _ Aw.r1
 have g3 := gc 3 _ Aw.r3
 have g11 := gc 11 _ Aw.r11
 have g14 := gc 14 _ Aw.r14
 simp only [Nat.zero_add] at g1 g3 g11 g14
 have y7 : w7.heap.size < w9.heap.size := by omega
 have y8 : w8.heap.size < w9.heap.size := by omega
 have FX := Lib.hid (fun (W : World) (k : Ext w9 W) => (⟨(k.cell z2 0).trans b0, (k.cell z2 1).trans b1, (k.cell z2 2).trans b2, (k.cell y7 0).trans s0, (k.cell y7 1).trans s1, (k.cell y7 2).trans s2, (k.cell y7 3).trans s3, (k.cell y8 0).trans v0, (k.cell y8 1).trans v1, (k.cell z9 0).trans v2, (k.cell z9 1).trans v3, (k.cell zg 1).trans g1, (k.cell zg 3).trans g3, (k.cell zg 11).trans g11, (k.cell zg 14).trans g14, Nat.lt_of_lt_of_le z2 k.le, Nat.lt_of_lt_of_le y7 k.le, Nat.lt_of_lt_of_le y8 k.le, Nat.lt_of_lt_of_le z9 k.le, Nat.lt_of_lt_of_le zg k.le⟩ : W.cell? ⟨w1.heap.size, 0, none⟩ = some (.int .i64 17) ∧ W.cell? ⟨w1.heap.size, 1, none⟩ = some (.int .i64 22) ∧ W.cell? ⟨w1.heap.size, 2, none⟩ = some (.int .i64 27) ∧ W.cell? ⟨w7.heap.size, 0, none⟩ = some (.int .i64 3) ∧ W.cell? ⟨w7.heap.size, 1, none⟩ = some (.int .i64 3) ∧ W.cell? ⟨w7.heap.size, 2, none⟩ = some (.int .i64 6) ∧ W.cell? ⟨w7.heap.size, 3, none⟩ = some (.int .i64 6) ∧ W.cell? ⟨w8.heap.size, 0, none⟩ = some (.int .i64 1) ∧ W.cell? ⟨w8.heap.size, 1, none⟩ = some (.slice (some ⟨g8, 0, none⟩) 2 c8) ∧ W.cell? ⟨w8.heap.size + 1, 0, none⟩ = some (.int .u8 0) ∧ W.cell? ⟨w8.heap.size + 1, 1, none⟩ = some (.int .i64 0) ∧ W.cell? ⟨gW, 1, none⟩ = some (.int .i64 17) ∧ W.cell? ⟨gW, 3, none⟩ = some (.int .i64 22) ∧ W.cell? ⟨gW, 11, none⟩ = some (.int .i64 27) ∧ W.cell? ⟨gW, 14, none⟩ = some (.int .i64 33) ∧ w1.heap.size < W.heap.size ∧ w7.heap.size < W.heap.size ∧ w8.heap.size < W.heap.size ∧ w8.heap.size + 1 < W.heap.size ∧ gW < W.heap.size))
 have X9 : Ext w w9 := But.toExt X2H.out N9.out.but (fun b hb => O1.out b hb)
 have GX := Lib.hid (fun (w10 W : World) (k : Ext ((w10.alloc (.cells #[.int .i64 (-1), .slice none 0 0] 41)).alloc (.cells #[.int .u8 0, .int .i64 7] 43)) W) => (⟨(k.cell (by simp) 0).trans (by simp [go_sem]), (k.cell (by simp) 1).trans (by simp [go_sem]), by have := k.le; simp at this; omega⟩ : W.cell? ⟨w10.heap.size + 1, 0, none⟩ = some (.int .u8 0) ∧ W.cell? ⟨w10.heap.size + 1, 1, none⟩ = some (.int .i64 7) ∧ w10.heap.size + 1 < W.heap.size))
 have R8S := Lib.hid (fun (W : World) (k : Ext w9 W) => (R9.out.at_.ext k : SliceAt W (some ⟨g8, 0, none⟩) c8 [17, 22]))
 have RWS := Lib.hid (fun (W : World) (k : Ext w9 W) => ((RW9.out.at_.ext k).drop_ (k := 16) (by rw [Aw.ew]; omega) : SliceAt W (some ⟨gW, 0 + 16, none⟩) (cW - 16) (Aw.S4.words.drop 16)))
 have cw39 : 39 ≤ cW := by have := RW9.out.at_.le; rw [Aw.ew] at this; exact this
 have cwmax := RW9.out.at_.cap
 have X9H := Lib.hid X9
 have b1w := b1
 clear X9 gc g1 g3 g11 g14 RW9 R9 v0 v1 v2 v3 s0 s1 s2 s3 b0 b2 y7 y8 z9 zg z7 E89
 go_upto_region 9 with (go_at_call 22; refine (At_end N9.out.toHAt Aw.h22 Aw.t22 rfl Aw.n22).mono ?_; rintro e w10 ⟨rfl, E10⟩)
 have E11 : Ext w9 ((w10.alloc (.cells #[.int .i64 (-1), .slice none 0 0] 41)).alloc (.cells #[.int .u8 0, .int .i64 7] 43)) := (E10.alloc _).alloc _
 have G11 := Lib.hid (GX.out w10)
 generalize (w10.alloc (.cells #[.int .i64 (-1), .slice none 0 0] 41)).alloc (.cells #[.int .u8 0, .int .i64 7] 43) = w11 at E11 G11 ⊢
 clear E10 GX N9 CX b1 z2
 have q97 : ∀ u : World, Sem.run Tryz.prog (Op.equalIn 10000 97 (.agg #[.int .i64 17, .int .i64 22, .int .i64 27]) (.agg #[.int .i64 17, .int .i64 22, .int .i64 27])) u = .ok true u := fun u => by kernel_rfl
 have q37 : ∀ u : World, Sem.run Tryz.prog (Op.equalIn 10000 37 (.agg #[.int .i64 3, .int .i64 3, .int .i64 6, .int .i64 6]) (.agg #[.int .i64 3, .int .i64 3, .int .i64 6, .int .i64 6])) u = .ok true u := fun u => by kernel_rfl
 have q43 : ∀ u : World, Sem.run Tryz.prog (Op.equalIn 10000 43 (.agg #[.int .u8 0, .int .i64 0]) (.agg #[.int .u8 0, .int .i64 0])) u = .ok true u := fun u => by kernel_rfl
 have q44 : ∀ u : World, Sem.run Tryz.prog (Op.equalIn 10000 43 (.agg #[.int .u8 0, .int .i64 7]) (.agg #[.int .u8 0, .int .i64 7])) u = .ok true u := fun u => by kernel_rfl
 have cne : ¬ cW = 16 := by omega
 refine wp_region_plan (S := fun W => Ext w11 W) (R := Ext) [false, false, false, false, false, false, false, false, false, false, false, false, false, false, false, false, false, false, false, false, false, false, false, false, false, false, true, false, false, false, false, false, false, false, false, false, false, false, false, false, false, false, false, false, false, false, false, false, false, false, false, false, false, false, false, false, false, false, false, false, false, false, false, false, false, false, false, false, false, false, false, false, false, false, false, false, false, false, false, false, false, false, false, false, false, false, true, false, false, false, false, false, false, false, false, false, false, false, false, false, false, false, false, false] (by kernel_rfl) Ext.refl (fun _ _ _ => Ext.trans) (by kernel_rfl) (fun _ _ d _ _ h => by cases d <;> exact h) (by kernel_rfl) exx ?_
 intro ops hops'; have hops := Lib.hid hops'; clear hops'
 refine' Plan.take (v := ?v0_1) (Or.inl (Or.inl ⟨by first | rfl | (rw [hops.out]; rfl), ?hy0_1⟩)) ?rest0_1
 case hy0_1 => (intro w hSw; (skip); go_simp; (try with_reducible rfl))
 (try simp only [Act.put, List.setIfInBounds_toArray, List.set_cons_zero, List.set_cons_succ])
 refine' Plan.take (v := ?v1_2) (Or.inl (Or.inl ⟨by first | rfl | (rw [hops.out]; rfl), ?hy1_2⟩)) ?rest1_2
 case hy1_2 => (intro w hSw; (skip); go_simp; (try with_reducible rfl))
 (try simp only [Act.put, List.setIfInBounds_toArray, List.set_cons_zero, List.set_cons_succ])
 refine' Plan.take (v := ?v2_3) (Or.inl (Or.inl ⟨by first | rfl | (rw [hops.out]; rfl), ?hy2_3⟩)) ?rest2_3
 case hy2_3 => (intro w hSw; (obtain ⟨qa_0, qa_1, qa_2, qa_3, qa_4, qa_5, qa_6, qa_7, qa_8, qa_9, qa_10, qa_11, qa_12, qa_13, qa_14, qa_15, qa_16, qa_17, qa_18, qa_19⟩ := FX.out _ (E11.trans hSw); obtain ⟨p1, p2, p3⟩ := G11.out _ hSw); go_simp; (try with_reducible rfl))
 (try simp only [Act.put, List.setIfInBounds_toArray, List.set_cons_zero, List.set_cons_succ])
 refine' Plan.take (v := ?v3_4) (Or.inl (Or.inl ⟨by first | rfl | (rw [hops.out]; rfl), ?hy3_4⟩)) ?rest3_4
 case hy3_4 => (intro w hSw; (skip); go_simp; (try with_reducible rfl))
 (try simp only [Act.put, List.setIfInBounds_toArray, List.set_cons_zero, List.set_cons_succ])
 refine' Plan.take (v := ?v4_5) (Or.inl (Or.inl ⟨by first | rfl | (rw [hops.out]; rfl), ?hy4_5⟩)) ?rest4_5
 case hy4_5 => (intro w hSw; (skip); go_simp; (try with_reducible rfl))
 (try simp only [Act.put, List.setIfInBounds_toArray, List.set_cons_zero, List.set_cons_succ])
 refine' Plan.take (v := ?v5_6) (Or.inl (Or.inl ⟨by first | rfl | (rw [hops.out]; rfl), ?hy5_6⟩)) ?rest5_6
 case hy5_6 => (intro w hSw; (skip); go_simp; (try with_reducible rfl))
 (try simp only [Act.put, List.setIfInBounds_toArray, List.set_cons_zero, List.set_cons_succ])
 refine' Plan.take (v := ?v6_7) (Or.inl (Or.inl ⟨by first | rfl | (rw [hops.out]; rfl), ?hy6_7⟩)) ?rest6_7
 case hy6_7 => (intro w hSw; (skip); go_simp; (try with_reducible rfl))
 (try simp only [Act.put, List.setIfInBounds_toArray, List.set_cons_zero, List.set_cons_succ])
 refine' Plan.take (v := ?v7_8) (Or.inl (Or.inl ⟨by first | rfl | (rw [hops.out]; rfl), ?hy7_8⟩)) ?rest7_8
 case hy7_8 => (intro w hSw; (skip); go_simp; (try with_reducible rfl))
 (try simp only [Act.put, List.setIfInBounds_toArray, List.set_cons_zero, List.set_cons_succ])
 refine' Plan.take (v := ?v8_9) (Or.inl (Or.inl ⟨by first | rfl | (rw [hops.out]; rfl), ?hy8_9⟩)) ?rest8_9
 case hy8_9 => (intro w hSw; (skip); go_simp; (try with_reducible rfl))
 (try simp only [Act.put, List.setIfInBounds_toArray, List.set_cons_zero, List.set_cons_succ])
 refine' Plan.take (v := ?v9_10) (Or.inl (Or.inl ⟨by first | rfl | (rw [hops.out]; rfl), ?hy9_10⟩)) ?rest9_10
 case hy9_10 => (intro w hSw; (skip); go_simp; (try with_reducible rfl))
 (try simp only [Act.put, List.setIfInBounds_toArray, List.set_cons_zero, List.set_cons_succ])
 refine' Plan.take (v := ?v10_11) (Or.inl (Or.inl ⟨by first | rfl | (rw [hops.out]; rfl), ?hy10_11⟩)) ?rest10_11
 case hy10_11 => (intro w hSw; (skip); go_simp; (try with_reducible rfl))
 (try simp only [Act.put, List.setIfInBounds_toArray, List.set_cons_zero, List.set_cons_succ])
 refine' Plan.take (v := ?v11_12) (Or.inl (Or.inl ⟨by first | rfl | (rw [hops.out]; rfl), ?hy11_12⟩)) ?rest11_12
 case hy11_12 => (intro w hSw; (skip); go_simp; (try with_reducible rfl))
 (try simp only [Act.put, List.setIfInBounds_toArray, List.set_cons_zero, List.set_cons_succ])
 refine' Plan.take (v := ?v12_13) (Or.inl (Or.inl ⟨by first | rfl | (rw [hops.out]; rfl), ?hy12_13⟩)) ?rest12_13
 case hy12_13 => (intro w hSw; (skip); go_simp; (try with_reducible rfl))
 (try simp only [Act.put, List.setIfInBounds_toArray, List.set_cons_zero, List.set_cons_succ])
 refine' Plan.take (v := ?v13_14) (Or.inl (Or.inl ⟨by first | rfl | (rw [hops.out]; rfl), ?hy13_14⟩)) ?rest13_14
 case hy13_14 => (intro w hSw; (skip); go_simp; (try with_reducible rfl))
 (try simp only [Act.put, List.setIfInBounds_toArray, List.set_cons_zero, List.set_cons_succ])
 refine' Plan.take (v := ?v14_15) (Or.inl (Or.inl ⟨by first | rfl | (rw [hops.out]; rfl), ?hy14_15⟩)) ?rest14_15
 case hy14_15 => (intro w hSw; (skip); go_simp; (try with_reducible rfl))
 (try simp only [Act.put, List.setIfInBounds_toArray, List.set_cons_zero, List.set_cons_succ])
 refine' Plan.take (v := ?v15_16) (Or.inl (Or.inl ⟨by first | rfl | (rw [hops.out]; rfl), ?hy15_16⟩)) ?rest15_16
 case hy15_16 => (intro w hSw; (skip); go_simp; (try with_reducible rfl))
 (try simp only [Act.put, List.setIfInBounds_toArray, List.set_cons_zero, List.set_cons_succ])
 refine' Plan.take (v := ?v16_17) (Or.inl (Or.inl ⟨by first | rfl | (rw [hops.out]; rfl), ?hy16_17⟩)) ?rest16_17
 case hy16_17 => (intro w hSw; (skip); go_simp; (try with_reducible rfl))
 (try simp only [Act.put, List.setIfInBounds_toArray, List.set_cons_zero, List.set_cons_succ])
 refine' Plan.take (v := ?v17_18) (Or.inl (Or.inl ⟨by first | rfl | (rw [hops.out]; rfl), ?hy17_18⟩)) ?rest17_18
 case hy17_18 => (intro w hSw; (skip); go_simp; (try with_reducible rfl))
 (try simp only [Act.put, List.setIfInBounds_toArray, List.set_cons_zero, List.set_cons_succ])
 refine' Plan.take (v := ?v18_19) (Or.inl (Or.inl ⟨by first | rfl | (rw [hops.out]; rfl), ?hy18_19⟩)) ?rest18_19
 case hy18_19 => (intro w hSw; (skip); go_simp; (try with_reducible rfl))
 (try simp only [Act.put, List.setIfInBounds_toArray, List.set_cons_zero, List.set_cons_succ])
 refine' Plan.take (v := ?v19_20) (Or.inl (Or.inl ⟨by first | rfl | (rw [hops.out]; rfl), ?hy19_20⟩)) ?rest19_20
 case hy19_20 => (intro w hSw; (skip); go_simp; (try with_reducible rfl))
 (try simp only [Act.put, List.setIfInBounds_toArray, List.set_cons_zero, List.set_cons_succ])
 refine' Plan.take (v := ?v20_21) (Or.inl (Or.inl ⟨by first | rfl | (rw [hops.out]; rfl), ?hy20_21⟩)) ?rest20_21
 case hy20_21 => (intro w hSw; (skip); go_simp; (try with_reducible rfl))
 (try simp only [Act.put, List.setIfInBounds_toArray, List.set_cons_zero, List.set_cons_succ])
 refine' Plan.take (v := ?v21_22) (Or.inl (Or.inl ⟨by first | rfl | (rw [hops.out]; rfl), ?hy21_22⟩)) ?rest21_22
 case hy21_22 => (intro w hSw; (skip); go_simp; (try with_reducible rfl))
 (try simp only [Act.put, List.setIfInBounds_toArray, List.set_cons_zero, List.set_cons_succ])
 refine' Plan.take (v := ?v22_23) (Or.inl (Or.inl ⟨by first | rfl | (rw [hops.out]; rfl), ?hy22_23⟩)) ?rest22_23
 case hy22_23 => (intro w hSw; (skip); go_simp; (try with_reducible rfl))
 (try simp only [Act.put, List.setIfInBounds_toArray, List.set_cons_zero, List.set_cons_succ])
 refine' Plan.take (v := ?v23_24) (Or.inl (Or.inl ⟨by first | rfl | (rw [hops.out]; rfl), ?hy23_24⟩)) ?rest23_24
 case hy23_24 => (intro w hSw; (skip); go_simp; (try with_reducible rfl))
 (try simp only [Act.put, List.setIfInBounds_toArray, List.set_cons_zero, List.set_cons_succ])
 refine' Plan.take (v := ?v24_25) (Or.inl (Or.inl ⟨by first | rfl | (rw [hops.out]; rfl), ?hy24_25⟩)) ?rest24_25
 case hy24_25 => (intro w hSw; (skip); go_simp; (try with_reducible rfl))
 (try simp only [Act.put, List.setIfInBounds_toArray, List.set_cons_zero, List.set_cons_succ])
 refine' Plan.take (v := ?v25_26) (Or.inl (Or.inl ⟨by first | rfl | (rw [hops.out]; rfl), ?hy25_26⟩)) ?rest25_26
 case hy25_26 => (intro w hSw; (skip); go_simp; (try with_reducible rfl))
 (try simp only [Act.put, List.setIfInBounds_toArray, List.set_cons_zero, List.set_cons_succ])
 refine Plan.run (fun v W => ∃ g, v = .slice (some ⟨g, 0, none⟩) 23 23 ∧ SliceAt W (some ⟨g, 0, none⟩) 23 lastWords ∧ Ext w11 W) (by first | rfl | (rw [hops.out]; rfl)) ?run26 ?vs26 ?next26
 case run26 =>
  intro w' _ s
  refine .inl ⟨58, #[], ?_, (last_any w').mono ?_⟩
  · go_simp
  · rintro e w'' ⟨rfl, rfl⟩
    exact ⟨_, rfl, w'.heap.size, rfl, lit_ints (by decide) (by decide) _, Ext.alloc s _⟩
 case vs26 =>
  rintro v W ⟨g, rfl, _, h⟩ W' k
  exact h.trans k
 rintro v w12 ⟨gl, rfl, SL, E12⟩
 have SLH := Lib.hid SL
 clear SL
 (try simp only [Act.put, List.setIfInBounds_toArray, List.set_cons_zero, List.set_cons_succ])
 have RS1 : SliceAt w12 (some ⟨gW, 16, none⟩) (cW - 16) (Aw.S4.words.drop 16) := by have := RWS.out w12 (E11.trans E12); rwa [Nat.zero_add] at this
 have RS1H := Lib.hid RS1
 clear RS1
 refine' Plan.take (v := .bool true) (Or.inr ⟨by first | rfl | (rw [hops.out]; rfl), 24, _, ?hx27, ?hy27⟩) ?rest27
 case hx27 => (intro w hSw; go_simp; (try with_reducible rfl))
 case hy27 => exact fun w hE => (SMH.out w _ _ _ _ (RS1H.out.ext hE) (SLH.out.ext hE)).mono (fun _ _ h => ⟨h.1, h.2, Ext.trans hE h.2⟩)
 (try simp only [Act.put, List.setIfInBounds_toArray, List.set_cons_zero, List.set_cons_succ])
 have E12' := E11.trans E12
 refine' Plan.take (v := ?v28_27) (Or.inl (Or.inl ⟨by first | rfl | (rw [hops.out]; rfl), ?hy28_27⟩)) ?rest28_27
 case hy28_27 => (intro w hSw; (skip); go_simp; (try with_reducible rfl))
 (try simp only [Act.put, List.setIfInBounds_toArray, List.set_cons_zero, List.set_cons_succ])
 refine' Plan.take (v := ?v29_28) (Or.inl (Or.inl ⟨by first | rfl | (rw [hops.out]; rfl), ?hy29_28⟩)) ?rest29_28
 case hy29_28 => (intro w hSw; (skip); go_simp; (try with_reducible rfl))
 (try simp only [Act.put, List.setIfInBounds_toArray, List.set_cons_zero, List.set_cons_succ])
 refine' Plan.take (v := ?v30_29) (Or.inl (Or.inl ⟨by first | rfl | (rw [hops.out]; rfl), ?hy30_29⟩)) ?rest30_29
 case hy30_29 => (intro w hSw; (skip); go_simp; (try with_reducible rfl))
 (try simp only [Act.put, List.setIfInBounds_toArray, List.set_cons_zero, List.set_cons_succ])
 refine' Plan.take (v := ?v31_30) (Or.inl (Or.inl ⟨by first | rfl | (rw [hops.out]; rfl), ?hy31_30⟩)) ?rest31_30
 case hy31_30 => (intro w hSw; (skip); go_simp; (try with_reducible rfl))
 (try simp only [Act.put, List.setIfInBounds_toArray, List.set_cons_zero, List.set_cons_succ])
 refine' Plan.take (v := ?v32_31) (Or.inl (Or.inl ⟨by first | rfl | (rw [hops.out]; rfl), ?hy32_31⟩)) ?rest32_31
 case hy32_31 => (intro w hSw; (obtain ⟨qa_0, qa_1, qa_2, qa_3, qa_4, qa_5, qa_6, qa_7, qa_8, qa_9, qa_10, qa_11, qa_12, qa_13, qa_14, qa_15, qa_16, qa_17, qa_18, qa_19⟩ := FX.out _ (E12'.trans hSw); obtain ⟨p1, p2, p3⟩ := G11.out _ (E12.trans hSw)); go_simp; (try with_reducible rfl))
 (try simp only [Act.put, List.setIfInBounds_toArray, List.set_cons_zero, List.set_cons_succ])
 refine' Plan.take (v := ?v33_32) (Or.inl (Or.inl ⟨by first | rfl | (rw [hops.out]; rfl), ?hy33_32⟩)) ?rest33_32
 case hy33_32 => (intro w hSw; (skip); go_simp; (try with_reducible rfl))
 (try simp only [Act.put, List.setIfInBounds_toArray, List.set_cons_zero, List.set_cons_succ])
 refine' Plan.take (v := ?v34_33) (Or.inl (Or.inl ⟨by first | rfl | (rw [hops.out]; rfl), ?hy34_33⟩)) ?rest34_33
 case hy34_33 => (intro w hSw; (skip); go_simp; (try with_reducible rfl))
 (try simp only [Act.put, List.setIfInBounds_toArray, List.set_cons_zero, List.set_cons_succ])
 refine' Plan.take (v := ?v35_34) (Or.inl (Or.inl ⟨by first | rfl | (rw [hops.out]; rfl), ?hy35_34⟩)) ?rest35_34
 case hy35_34 => (intro w hSw; (skip); go_simp; (try with_reducible rfl))
 (try simp only [Act.put, List.setIfInBounds_toArray, List.set_cons_zero, List.set_cons_succ])
 refine' Plan.take (v := ?v36_35) (Or.inl (Or.inl ⟨by first | rfl | (rw [hops.out]; rfl), ?hy36_35⟩)) ?rest36_35
 case hy36_35 => (intro w hSw; (skip); go_simp; (try with_reducible rfl))
 (try simp only [Act.put, List.setIfInBounds_toArray, List.set_cons_zero, List.set_cons_succ])
 refine' Plan.take (v := ?v37_36) (Or.inl (Or.inl ⟨by first | rfl | (rw [hops.out]; rfl), ?hy37_36⟩)) ?rest37_36
 case hy37_36 => (intro w hSw; (skip); go_simp; (try with_reducible rfl))
 (try simp only [Act.put, List.setIfInBounds_toArray, List.set_cons_zero, List.set_cons_succ])
 refine' Plan.take (v := ?v38_37) (Or.inl (Or.inl ⟨by first | rfl | (rw [hops.out]; rfl), ?hy38_37⟩)) ?rest38_37
 case hy38_37 => (intro w hSw; (obtain ⟨qa_0, qa_1, qa_2, qa_3, qa_4, qa_5, qa_6, qa_7, qa_8, qa_9, qa_10, qa_11, qa_12, qa_13, qa_14, qa_15, qa_16, qa_17, qa_18, qa_19⟩ := FX.out _ (E12'.trans hSw); obtain ⟨p1, p2, p3⟩ := G11.out _ (E12.trans hSw)); go_simp; (try with_reducible rfl))
 (try simp only [Act.put, List.setIfInBounds_toArray, List.set_cons_zero, List.set_cons_succ])
 refine' Plan.take (v := ?v39_38) (Or.inl (Or.inl ⟨by first | rfl | (rw [hops.out]; rfl), ?hy39_38⟩)) ?rest39_38
 case hy39_38 => (intro w hSw; (skip); go_simp; (try with_reducible rfl))
 (try simp only [Act.put, List.setIfInBounds_toArray, List.set_cons_zero, List.set_cons_succ])
 refine' Plan.take (v := ?v40_39) (Or.inl (Or.inl ⟨by first | rfl | (rw [hops.out]; rfl), ?hy40_39⟩)) ?rest40_39
 case hy40_39 => (intro w hSw; (skip); go_simp; (try with_reducible rfl))
 (try simp only [Act.put, List.setIfInBounds_toArray, List.set_cons_zero, List.set_cons_succ])
 refine' Plan.take (v := ?v41_40) (Or.inl (Or.inl ⟨by first | rfl | (rw [hops.out]; rfl), ?hy41_40⟩)) ?rest41_40
 case hy41_40 => (intro w hSw; (skip); go_simp; (try with_reducible rfl))
 (try simp only [Act.put, List.setIfInBounds_toArray, List.set_cons_zero, List.set_cons_succ])
 refine' Plan.take (v := ?v42_41) (Or.inl (Or.inl ⟨by first | rfl | (rw [hops.out]; rfl), ?hy42_41⟩)) ?rest42_41
 case hy42_41 => (intro w hSw; (skip); go_simp; (try with_reducible rfl))
 (try simp only [Act.put, List.setIfInBounds_toArray, List.set_cons_zero, List.set_cons_succ])
 refine' Plan.take (v := ?v43_42) (Or.inl (Or.inl ⟨by first | rfl | (rw [hops.out]; rfl), ?hy43_42⟩)) ?rest43_42
 case hy43_42 => (intro w hSw; (skip); go_simp; (try with_reducible rfl))
 (try simp only [Act.put, List.setIfInBounds_toArray, List.set_cons_zero, List.set_cons_succ])
 refine' Plan.take (v := ?v44_43) (Or.inl (Or.inl ⟨by first | rfl | (rw [hops.out]; rfl), ?hy44_43⟩)) ?rest44_43
 case hy44_43 => (intro w hSw; (obtain ⟨qa_0, qa_1, qa_2, qa_3, qa_4, qa_5, qa_6, qa_7, qa_8, qa_9, qa_10, qa_11, qa_12, qa_13, qa_14, qa_15, qa_16, qa_17, qa_18, qa_19⟩ := FX.out _ (E12'.trans hSw); obtain ⟨p1, p2, p3⟩ := G11.out _ (E12.trans hSw)); go_simp; (try with_reducible rfl))
 (try simp only [Act.put, List.setIfInBounds_toArray, List.set_cons_zero, List.set_cons_succ])
 refine' Plan.take (v := ?v45_44) (Or.inl (Or.inl ⟨by first | rfl | (rw [hops.out]; rfl), ?hy45_44⟩)) ?rest45_44
 case hy45_44 => (intro w hSw; (skip); go_simp; (try with_reducible rfl))
 (try simp only [Act.put, List.setIfInBounds_toArray, List.set_cons_zero, List.set_cons_succ])
 refine' Plan.take (v := ?v46_45) (Or.inl (Or.inl ⟨by first | rfl | (rw [hops.out]; rfl), ?hy46_45⟩)) ?rest46_45
 case hy46_45 => (intro w hSw; (skip); go_simp; (try with_reducible rfl))
 (try simp only [Act.put, List.setIfInBounds_toArray, List.set_cons_zero, List.set_cons_succ])
 refine' Plan.take (v := ?v47_46) (Or.inl (Or.inl ⟨by first | rfl | (rw [hops.out]; rfl), ?hy47_46⟩)) ?rest47_46
 case hy47_46 => (intro w hSw; (skip); go_simp; (try with_reducible rfl))
 (try simp only [Act.put, List.setIfInBounds_toArray, List.set_cons_zero, List.set_cons_succ])
 refine' Plan.take (v := ?v48_47) (Or.inl (Or.inl ⟨by first | rfl | (rw [hops.out]; rfl), ?hy48_47⟩)) ?rest48_47
 case hy48_47 => (intro w hSw; (skip); go_simp; (try with_reducible rfl))
 (try simp only [Act.put, List.setIfInBounds_toArray, List.set_cons_zero, List.set_cons_succ])
 refine' Plan.take (v := ?v49_48) (Or.inl (Or.inl ⟨by first | rfl | (rw [hops.out]; rfl), ?hy49_48⟩)) ?rest49_48
 case hy49_48 => (intro w hSw; (skip); go_simp; (try with_reducible rfl))
 (try simp only [Act.put, List.setIfInBounds_toArray, List.set_cons_zero, List.set_cons_succ])
 refine' Plan.take (v := ?v50_49) (Or.inl (Or.inl ⟨by first | rfl | (rw [hops.out]; rfl), ?hy50_49⟩)) ?rest50_49
 case hy50_49 => (intro w hSw; (obtain ⟨qa_0, qa_1, qa_2, qa_3, qa_4, qa_5, qa_6, qa_7, qa_8, qa_9, qa_10, qa_11, qa_12, qa_13, qa_14, qa_15, qa_16, qa_17, qa_18, qa_19⟩ := FX.out _ (E12'.trans hSw); obtain ⟨p1, p2, p3⟩ := G11.out _ (E12.trans hSw)); go_simp; (try with_reducible rfl))
 (try simp only [Act.put, List.setIfInBounds_toArray, List.set_cons_zero, List.set_cons_succ])
 refine' Plan.take (v := ?v51_50) (Or.inl (Or.inl ⟨by first | rfl | (rw [hops.out]; rfl), ?hy51_50⟩)) ?rest51_50
 case hy51_50 => (intro w hSw; (skip); go_simp; (try with_reducible rfl))
 (try simp only [Act.put, List.setIfInBounds_toArray, List.set_cons_zero, List.set_cons_succ])
 refine' Plan.take (v := ?v52_51) (Or.inl (Or.inl ⟨by first | rfl | (rw [hops.out]; rfl), ?hy52_51⟩)) ?rest52_51
 case hy52_51 => (intro w hSw; (skip); go_simp; (try with_reducible rfl))
 (try simp only [Act.put, List.setIfInBounds_toArray, List.set_cons_zero, List.set_cons_succ])
 refine' Plan.take (v := ?v53_52) (Or.inl (Or.inl ⟨by first | rfl | (rw [hops.out]; rfl), ?hy53_52⟩)) ?rest53_52
 case hy53_52 => (intro w hSw; (skip); go_simp; (try with_reducible rfl))
 (try simp only [Act.put, List.setIfInBounds_toArray, List.set_cons_zero, List.set_cons_succ])
 refine' Plan.take (v := ?v54_53) (Or.inl (Or.inl ⟨by first | rfl | (rw [hops.out]; rfl), ?hy54_53⟩)) ?rest54_53
 case hy54_53 => (intro w hSw; (skip); go_simp; (try with_reducible rfl))
 (try simp only [Act.put, List.setIfInBounds_toArray, List.set_cons_zero, List.set_cons_succ])
 refine' Plan.take (v := ?v55_54) (Or.inl (Or.inl ⟨by first | rfl | (rw [hops.out]; rfl), ?hy55_54⟩)) ?rest55_54
 case hy55_54 => (intro w hSw; (skip); go_simp; (try with_reducible rfl))
 (try simp only [Act.put, List.setIfInBounds_toArray, List.set_cons_zero, List.set_cons_succ])
 refine' Plan.take (v := ?v56_55) (Or.inl (Or.inl ⟨by first | rfl | (rw [hops.out]; rfl), ?hy56_55⟩)) ?rest56_55
 case hy56_55 => (intro w hSw; (skip); go_simp; (try with_reducible rfl))
 (try simp only [Act.put, List.setIfInBounds_toArray, List.set_cons_zero, List.set_cons_succ])
 refine' Plan.take (v := ?v57_56) (Or.inl (Or.inl ⟨by first | rfl | (rw [hops.out]; rfl), ?hy57_56⟩)) ?rest57_56
 case hy57_56 => (intro w hSw; (skip); go_simp; (try with_reducible rfl))
 (try simp only [Act.put, List.setIfInBounds_toArray, List.set_cons_zero, List.set_cons_succ])
 refine' Plan.take (v := ?v58_57) (Or.inl (Or.inl ⟨by first | rfl | (rw [hops.out]; rfl), ?hy58_57⟩)) ?rest58_57
 case hy58_57 => (intro w hSw; (skip); go_simp; (try with_reducible rfl))
 (try simp only [Act.put, List.setIfInBounds_toArray, List.set_cons_zero, List.set_cons_succ])
 refine' Plan.take (v := ?v59_58) (Or.inl (Or.inl ⟨by first | rfl | (rw [hops.out]; rfl), ?hy59_58⟩)) ?rest59_58
 case hy59_58 => (intro w hSw; (skip); go_simp; (try with_reducible rfl))
 (try simp only [Act.put, List.setIfInBounds_toArray, List.set_cons_zero, List.set_cons_succ])
 refine' Plan.take (v := ?v60_59) (Or.inl (Or.inl ⟨by first | rfl | (rw [hops.out]; rfl), ?hy60_59⟩)) ?rest60_59
 case hy60_59 => (intro w hSw; (skip); go_simp; (try with_reducible rfl))
 (try simp only [Act.put, List.setIfInBounds_toArray, List.set_cons_zero, List.set_cons_succ])
 refine' Plan.take (v := ?v61_60) (Or.inl (Or.inl ⟨by first | rfl | (rw [hops.out]; rfl), ?hy61_60⟩)) ?rest61_60
 case hy61_60 => (intro w hSw; (skip); go_simp; (try with_reducible rfl))
 (try simp only [Act.put, List.setIfInBounds_toArray, List.set_cons_zero, List.set_cons_succ])
 refine' Plan.take (v := ?v62_61) (Or.inl (Or.inl ⟨by first | rfl | (rw [hops.out]; rfl), ?hy62_61⟩)) ?rest62_61
 case hy62_61 => (intro w hSw; (skip); go_simp; (try with_reducible rfl))
 (try simp only [Act.put, List.setIfInBounds_toArray, List.set_cons_zero, List.set_cons_succ])
 refine' Plan.take (v := ?v63_62) (Or.inl (Or.inl ⟨by first | rfl | (rw [hops.out]; rfl), ?hy63_62⟩)) ?rest63_62
 case hy63_62 => (intro w hSw; (skip); go_simp; (try with_reducible rfl))
 (try simp only [Act.put, List.setIfInBounds_toArray, List.set_cons_zero, List.set_cons_succ])
 refine' Plan.take (v := ?v64_63) (Or.inl (Or.inl ⟨by first | rfl | (rw [hops.out]; rfl), ?hy64_63⟩)) ?rest64_63
 case hy64_63 => (intro w hSw; (skip); go_simp; (try with_reducible rfl))
 (try simp only [Act.put, List.setIfInBounds_toArray, List.set_cons_zero, List.set_cons_succ])
 refine' Plan.take (v := ?v65_64) (Or.inl (Or.inl ⟨by first | rfl | (rw [hops.out]; rfl), ?hy65_64⟩)) ?rest65_64
 case hy65_64 => (intro w hSw; (skip); go_simp; (try with_reducible rfl))
 (try simp only [Act.put, List.setIfInBounds_toArray, List.set_cons_zero, List.set_cons_succ])
 refine' Plan.take (v := ?v66_65) (Or.inl (Or.inl ⟨by first | rfl | (rw [hops.out]; rfl), ?hy66_65⟩)) ?rest66_65
 case hy66_65 => (intro w hSw; (skip); go_simp; (try with_reducible rfl))
 (try simp only [Act.put, List.setIfInBounds_toArray, List.set_cons_zero, List.set_cons_succ])
 refine' Plan.take (v := ?v67_66) (Or.inl (Or.inl ⟨by first | rfl | (rw [hops.out]; rfl), ?hy67_66⟩)) ?rest67_66
 case hy67_66 => (intro w hSw; (skip); go_simp; (try with_reducible rfl))
 (try simp only [Act.put, List.setIfInBounds_toArray, List.set_cons_zero, List.set_cons_succ])
 refine' Plan.take (v := ?v68_67) (Or.inl (Or.inl ⟨by first | rfl | (rw [hops.out]; rfl), ?hy68_67⟩)) ?rest68_67
 case hy68_67 => (intro w hSw; (skip); go_simp; (try with_reducible rfl))
 (try simp only [Act.put, List.setIfInBounds_toArray, List.set_cons_zero, List.set_cons_succ])
 refine' Plan.take (v := ?v69_68) (Or.inl (Or.inl ⟨by first | rfl | (rw [hops.out]; rfl), ?hy69_68⟩)) ?rest69_68
 case hy69_68 => (intro w hSw; (skip); go_simp; (try with_reducible rfl))
 (try simp only [Act.put, List.setIfInBounds_toArray, List.set_cons_zero, List.set_cons_succ])
 refine' Plan.take (v := ?v70_69) (Or.inl (Or.inl ⟨by first | rfl | (rw [hops.out]; rfl), ?hy70_69⟩)) ?rest70_69
 case hy70_69 => (intro w hSw; (obtain ⟨qa_0, qa_1, qa_2, qa_3, qa_4, qa_5, qa_6, qa_7, qa_8, qa_9, qa_10, qa_11, qa_12, qa_13, qa_14, qa_15, qa_16, qa_17, qa_18, qa_19⟩ := FX.out _ (E12'.trans hSw); obtain ⟨p1, p2, p3⟩ := G11.out _ (E12.trans hSw)); go_simp; (try with_reducible rfl))
 (try simp only [Act.put, List.setIfInBounds_toArray, List.set_cons_zero, List.set_cons_succ])
 refine' Plan.take (v := ?v71_70) (Or.inl (Or.inl ⟨by first | rfl | (rw [hops.out]; rfl), ?hy71_70⟩)) ?rest71_70
 case hy71_70 => (intro w hSw; (skip); go_simp; (try with_reducible rfl))
 (try simp only [Act.put, List.setIfInBounds_toArray, List.set_cons_zero, List.set_cons_succ])
 refine' Plan.take (v := ?v72_71) (Or.inl (Or.inl ⟨by first | rfl | (rw [hops.out]; rfl), ?hy72_71⟩)) ?rest72_71
 case hy72_71 => (intro w hSw; (skip); go_simp; (try with_reducible rfl))
 (try simp only [Act.put, List.setIfInBounds_toArray, List.set_cons_zero, List.set_cons_succ])
 refine' Plan.take (v := ?v73_72) (Or.inl (Or.inl ⟨by first | rfl | (rw [hops.out]; rfl), ?hy73_72⟩)) ?rest73_72
 case hy73_72 => (intro w hSw; (skip); go_simp; (try with_reducible rfl))
 (try simp only [Act.put, List.setIfInBounds_toArray, List.set_cons_zero, List.set_cons_succ])
 refine' Plan.take (v := ?v74_73) (Or.inl (Or.inl ⟨by first | rfl | (rw [hops.out]; rfl), ?hy74_73⟩)) ?rest74_73
 case hy74_73 => (intro w hSw; (skip); go_simp; (try with_reducible rfl))
 (try simp only [Act.put, List.setIfInBounds_toArray, List.set_cons_zero, List.set_cons_succ])
 refine' Plan.take (v := ?v75_74) (Or.inl (Or.inl ⟨by first | rfl | (rw [hops.out]; rfl), ?hy75_74⟩)) ?rest75_74
 case hy75_74 => (intro w hSw; (skip); go_simp; (try with_reducible rfl))
 (try simp only [Act.put, List.setIfInBounds_toArray, List.set_cons_zero, List.set_cons_succ])
 refine' Plan.take (v := ?v76_75) (Or.inl (Or.inl ⟨by first | rfl | (rw [hops.out]; rfl), ?hy76_75⟩)) ?rest76_75
 case hy76_75 => (intro w hSw; (skip); go_simp; (try with_reducible rfl))
 (try simp only [Act.put, List.setIfInBounds_toArray, List.set_cons_zero, List.set_cons_succ])
 refine' Plan.take (v := ?v77_76) (Or.inl (Or.inl ⟨by first | rfl | (rw [hops.out]; rfl), ?hy77_76⟩)) ?rest77_76
 case hy77_76 => (intro w hSw; (skip); go_simp; (try with_reducible rfl))
 (try simp only [Act.put, List.setIfInBounds_toArray, List.set_cons_zero, List.set_cons_succ])
 refine' Plan.take (v := ?v78_77) (Or.inl (Or.inl ⟨by first | rfl | (rw [hops.out]; rfl), ?hy78_77⟩)) ?rest78_77
 case hy78_77 => (intro w hSw; (skip); go_simp; (try with_reducible rfl))
 (try simp only [Act.put, List.setIfInBounds_toArray, List.set_cons_zero, List.set_cons_succ])
 refine' Plan.take (v := ?v79_78) (Or.inl (Or.inl ⟨by first | rfl | (rw [hops.out]; rfl), ?hy79_78⟩)) ?rest79_78
 case hy79_78 => (intro w hSw; (skip); go_simp; (try with_reducible rfl))
 (try simp only [Act.put, List.setIfInBounds_toArray, List.set_cons_zero, List.set_cons_succ])
 refine' Plan.take (v := ?v80_79) (Or.inl (Or.inl ⟨by first | rfl | (rw [hops.out]; rfl), ?hy80_79⟩)) ?rest80_79
 case hy80_79 => (intro w hSw; (obtain ⟨qa_0, qa_1, qa_2, qa_3, qa_4, qa_5, qa_6, qa_7, qa_8, qa_9, qa_10, qa_11, qa_12, qa_13, qa_14, qa_15, qa_16, qa_17, qa_18, qa_19⟩ := FX.out _ (E12'.trans hSw); obtain ⟨p1, p2, p3⟩ := G11.out _ (E12.trans hSw)); go_simp; (try with_reducible rfl))
 (try simp only [Act.put, List.setIfInBounds_toArray, List.set_cons_zero, List.set_cons_succ])
 refine' Plan.take (v := ?v81_80) (Or.inl (Or.inl ⟨by first | rfl | (rw [hops.out]; rfl), ?hy81_80⟩)) ?rest81_80
 case hy81_80 => (intro w hSw; (skip); go_simp; (try with_reducible rfl))
 (try simp only [Act.put, List.setIfInBounds_toArray, List.set_cons_zero, List.set_cons_succ])
 refine' Plan.take (v := ?v82_81) (Or.inl (Or.inl ⟨by first | rfl | (rw [hops.out]; rfl), ?hy82_81⟩)) ?rest82_81
 case hy82_81 => (intro w hSw; (skip); go_simp; (try with_reducible rfl))
 (try simp only [Act.put, List.setIfInBounds_toArray, List.set_cons_zero, List.set_cons_succ])
 refine' Plan.take (v := ?v83_82) (Or.inl (Or.inl ⟨by first | rfl | (rw [hops.out]; rfl), ?hy83_82⟩)) ?rest83_82
 case hy83_82 => (intro w hSw; (skip); go_simp; (try with_reducible rfl))
 (try simp only [Act.put, List.setIfInBounds_toArray, List.set_cons_zero, List.set_cons_succ])
 refine' Plan.take (v := ?v84_83) (Or.inl (Or.inl ⟨by first | rfl | (rw [hops.out]; rfl), ?hy84_83⟩)) ?rest84_83
 case hy84_83 => (intro w hSw; (skip); go_simp; (try with_reducible rfl))
 (try simp only [Act.put, List.setIfInBounds_toArray, List.set_cons_zero, List.set_cons_succ])
 refine' Plan.take (v := ?v85_84) (Or.inl (Or.inl ⟨by first | rfl | (rw [hops.out]; rfl), ?hy85_84⟩)) ?rest85_84
 case hy85_84 => (intro w hSw; (obtain ⟨qa_0, qa_1, qa_2, qa_3, qa_4, qa_5, qa_6, qa_7, qa_8, qa_9, qa_10, qa_11, qa_12, qa_13, qa_14, qa_15, qa_16, qa_17, qa_18, qa_19⟩ := FX.out _ (E12'.trans hSw); obtain ⟨p1, p2, p3⟩ := G11.out _ (E12.trans hSw)); go_simp; (try with_reducible rfl))
 (try simp only [Act.put, List.setIfInBounds_toArray, List.set_cons_zero, List.set_cons_succ])
 refine Plan.run (fun v W => ∃ g, v = .slice (some ⟨g, 0, none⟩) 2 2 ∧ SliceAt W (some ⟨g, 0, none⟩) 2 [17, 22] ∧ Ext w12 W) (by first | rfl | (rw [hops.out]; rfl)) ?run86 ?vs86 ?next86
 case run86 =>
  intro w' _ s
  refine .inr ⟨.slice (some ⟨w'.heap.size, 0, none⟩) 2 2, w'.alloc (.cells #[.int .i64 17, .int .i64 22] 3), ?_, w'.heap.size, rfl, SliceAt.two w' 17 22 (by omega) (by omega) _, Ext.alloc s _⟩
  go_simp
 case vs86 =>
  rintro v W ⟨g, rfl, _, h⟩ W' k
  exact h.trans k
 rintro v w13 ⟨gk, rfl, SK, E13⟩
 have SK13 := Lib.hid SK
 clear SK
 (try simp only [Act.put, List.setIfInBounds_toArray, List.set_cons_zero, List.set_cons_succ])
 refine' Plan.take (v := .bool true) (Or.inr ⟨by first | rfl | (rw [hops.out]; rfl), 24, _, ?hx87, ?hy87⟩) ?rest87
 case hx87 => (intro w hSw; go_simp; (try with_reducible rfl))
 case hy87 => exact fun w hE => (SKH.out w _ _ _ _ (R8S.out _ ((E12'.trans E13).trans hE)) (SK13.out.ext hE)).mono (fun _ _ h => ⟨h.1, h.2, Ext.trans hE h.2⟩)
 (try simp only [Act.put, List.setIfInBounds_toArray, List.set_cons_zero, List.set_cons_succ])
 have E13' := E12.trans E13
 have E13'' := E12'.trans E13
 refine' Plan.take (v := ?v88_85) (Or.inl (Or.inl ⟨by first | rfl | (rw [hops.out]; rfl), ?hy88_85⟩)) ?rest88_85
 case hy88_85 => (intro w hSw; (skip); go_simp; (try with_reducible rfl))
 (try simp only [Act.put, List.setIfInBounds_toArray, List.set_cons_zero, List.set_cons_succ])
 refine' Plan.take (v := ?v89_86) (Or.inl (Or.inl ⟨by first | rfl | (rw [hops.out]; rfl), ?hy89_86⟩)) ?rest89_86
 case hy89_86 => (intro w hSw; (skip); go_simp; (try with_reducible rfl))
 (try simp only [Act.put, List.setIfInBounds_toArray, List.set_cons_zero, List.set_cons_succ])
 refine' Plan.take (v := ?v90_87) (Or.inl (Or.inl ⟨by first | rfl | (rw [hops.out]; rfl), ?hy90_87⟩)) ?rest90_87
 case hy90_87 => (intro w hSw; (obtain ⟨qa_0, qa_1, qa_2, qa_3, qa_4, qa_5, qa_6, qa_7, qa_8, qa_9, qa_10, qa_11, qa_12, qa_13, qa_14, qa_15, qa_16, qa_17, qa_18, qa_19⟩ := FX.out _ (E13''.trans hSw); obtain ⟨p1, p2, p3⟩ := G11.out _ (E13'.trans hSw)); go_simp; (try with_reducible rfl))
 (try simp only [Act.put, List.setIfInBounds_toArray, List.set_cons_zero, List.set_cons_succ])
 refine' Plan.take (v := ?v91_88) (Or.inl (Or.inl ⟨by first | rfl | (rw [hops.out]; rfl), ?hy91_88⟩)) ?rest91_88
 case hy91_88 => (intro w hSw; (skip); go_simp; (try with_reducible rfl))
 (try simp only [Act.put, List.setIfInBounds_toArray, List.set_cons_zero, List.set_cons_succ])
 refine' Plan.take (v := ?v92_89) (Or.inl (Or.inl ⟨by first | rfl | (rw [hops.out]; rfl), ?hy92_89⟩)) ?rest92_89
 case hy92_89 => (intro w hSw; (skip); go_simp; (try with_reducible rfl))
 (try simp only [Act.put, List.setIfInBounds_toArray, List.set_cons_zero, List.set_cons_succ])
 refine' Plan.take (v := ?v93_90) (Or.inl (Or.inl ⟨by first | rfl | (rw [hops.out]; rfl), ?hy93_90⟩)) ?rest93_90
 case hy93_90 => (intro w hSw; (skip); go_simp; (try with_reducible rfl))
 (try simp only [Act.put, List.setIfInBounds_toArray, List.set_cons_zero, List.set_cons_succ])
 refine' Plan.take (v := ?v94_91) (Or.inl (Or.inl ⟨by first | rfl | (rw [hops.out]; rfl), ?hy94_91⟩)) ?rest94_91
 case hy94_91 => (intro w hSw; (skip); go_simp; (try with_reducible rfl))
 (try simp only [Act.put, List.setIfInBounds_toArray, List.set_cons_zero, List.set_cons_succ])
 refine' Plan.take (v := ?v95_92) (Or.inl (Or.inl ⟨by first | rfl | (rw [hops.out]; rfl), ?hy95_92⟩)) ?rest95_92
 case hy95_92 => (intro w hSw; (skip); go_simp; (try with_reducible rfl))
 (try simp only [Act.put, List.setIfInBounds_toArray, List.set_cons_zero, List.set_cons_succ])
 refine' Plan.take (v := ?v96_93) (Or.inl (Or.inl ⟨by first | rfl | (rw [hops.out]; rfl), ?hy96_93⟩)) ?rest96_93
 case hy96_93 => (intro w hSw; (skip); go_simp; (try with_reducible rfl))
 (try simp only [Act.put, List.setIfInBounds_toArray, List.set_cons_zero, List.set_cons_succ])
 refine' Plan.take (v := ?v97_94) (Or.inl (Or.inl ⟨by first | rfl | (rw [hops.out]; rfl), ?hy97_94⟩)) ?rest97_94
 case hy97_94 => (intro w hSw; (skip); go_simp; (try with_reducible rfl))
 (try simp only [Act.put, List.setIfInBounds_toArray, List.set_cons_zero, List.set_cons_succ])
 refine' Plan.take (v := ?v98_95) (Or.inl (Or.inl ⟨by first | rfl | (rw [hops.out]; rfl), ?hy98_95⟩)) ?rest98_95
 case hy98_95 => (intro w hSw; (skip); go_simp; (try with_reducible rfl))
 (try simp only [Act.put, List.setIfInBounds_toArray, List.set_cons_zero, List.set_cons_succ])
 refine' Plan.take (v := ?v99_96) (Or.inl (Or.inl ⟨by first | rfl | (rw [hops.out]; rfl), ?hy99_96⟩)) ?rest99_96
 case hy99_96 => (intro w hSw; (obtain ⟨qa_0, qa_1, qa_2, qa_3, qa_4, qa_5, qa_6, qa_7, qa_8, qa_9, qa_10, qa_11, qa_12, qa_13, qa_14, qa_15, qa_16, qa_17, qa_18, qa_19⟩ := FX.out _ (E13''.trans hSw); obtain ⟨p1, p2, p3⟩ := G11.out _ (E13'.trans hSw)); go_simp; (try with_reducible rfl))
 (try simp only [Act.put, List.setIfInBounds_toArray, List.set_cons_zero, List.set_cons_succ])
 refine' Plan.take (v := ?v100_97) (Or.inl (Or.inl ⟨by first | rfl | (rw [hops.out]; rfl), ?hy100_97⟩)) ?rest100_97
 case hy100_97 => (intro w hSw; (skip); go_simp; (try with_reducible rfl))
 (try simp only [Act.put, List.setIfInBounds_toArray, List.set_cons_zero, List.set_cons_succ])
 refine' Plan.take (v := ?v101_98) (Or.inl (Or.inl ⟨by first | rfl | (rw [hops.out]; rfl), ?hy101_98⟩)) ?rest101_98
 case hy101_98 => (intro w hSw; (skip); go_simp; (try with_reducible rfl))
 (try simp only [Act.put, List.setIfInBounds_toArray, List.set_cons_zero, List.set_cons_succ])
 refine' Plan.take (v := ?v102_99) (Or.inl (Or.inl ⟨by first | rfl | (rw [hops.out]; rfl), ?hy102_99⟩)) ?rest102_99
 case hy102_99 => (intro w hSw; (skip); go_simp; (try with_reducible rfl))
 (try simp only [Act.put, List.setIfInBounds_toArray, List.set_cons_zero, List.set_cons_succ])
 refine' Plan.take (v := ?v103_100) (Or.inl (Or.inl ⟨by first | rfl | (rw [hops.out]; rfl), ?hy103_100⟩)) ?rest103_100
 case hy103_100 => (intro w hSw; (skip); go_simp; (try with_reducible rfl))
 (try simp only [Act.put, List.setIfInBounds_toArray, List.set_cons_zero, List.set_cons_succ])
 refine Plan.done ?_
 intro w14 _ E14
 go_wp2_with fail
 go_returns
 exact ⟨rfl, (X9H.out.trans E13'').trans E14⟩
end Go.Proofs.YtdokmmhjmclmnaaGreat
