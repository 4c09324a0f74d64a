/-
  Part 2 of a proof: HFn2 HFn3 HAt2 RegTail HFn4.
-/
import Derived.Deep.Draws
import Derived.Deep.LoopGhost
import Derived.Shelf.RegionOpenPlain
import Derived.StillTail
import Derived.StillTailTactics
import Derived.Test.YtdokmmhjmclmnaaGreatMP01
set_option linter.unusedSimpArgs false
set_option linter.unusedVariables false
set_option linter.unusedSectionVars false
set_option linter.unnecessarySimpa false
namespace Go.Proofs.YtdokmmhjmclmnaaGreat
open Go.RowKit
theorem fields_some {S : Hp.Hs} {a : Nat} {l : List Int} (h : S.fields a = some l) : ∃ (t : Int) (k : Nat), S.tag a = some t ∧ Hp.wide S.sizes t = some (4 + k) ∧ l.length = k ∧ a + 4 + k ≤ S.words.length ∧ ∀ j x, Hp.rd l j = some x → Hp.rd S.words (a + 4 + j) = some x := by
 obtain ⟨m, hm, h⟩ := Option.bind_eq_some_iff.1 h
 obtain ⟨t, ht, hm⟩ := Option.bind_eq_some_iff.1 hm
 have hk : ∃ k, m = 4 + k := by
  rcases wide_some hm with ⟨_, rfl⟩ | ⟨_, i, s, _, _, rfl⟩
  · exact ⟨1, rfl⟩
  · exact ⟨s, rfl⟩
 obtain ⟨k, rfl⟩ := hk
 unfold Hp.sub at h
 split at h
 case isFalse => cases h
 rename_i hl
 cases h
 refine ⟨t, k, ht, hm, by simp; omega, by omega, fun j x hx => ?_⟩
 unfold Hp.rd at hx ⊢
 rw [List.getElem?_take] at hx
 split at hx
 · rw [List.getElem?_drop] at hx; exact hx
 · cases hx
theorem fields_pos {w : World} {d : Hd} {S : Hp.Hs} {a : Nat} {l : List Int} (h : HAt w d S) (hl : S.fields a = some l) : 0 < l.length := by
 obtain ⟨t, k, ht, hw, rfl, hle, -⟩ := fields_some hl
 rcases wide_some hw with ⟨_, h1⟩ | ⟨_, i, s, _, hs, h1⟩
 · omega
 · have := h.pos s (List.mem_of_getElem? hs); omega
theorem wide_le {w : World} {d : Hd} {S : Hp.Hs} {t : Int} {k : Nat} (h : HAt w d S) (hw : Hp.wide S.sizes t = some k) : 5 ≤ k ∧ k ≤ 16 := by
 rcases wide_some hw with ⟨_, h1⟩ | ⟨_, i, s, _, hs, h1⟩
 · omega
 · have := h.pos s (List.mem_of_getElem? hs); omega
theorem fields_at {w : World} {d : Hd} {S : Hp.Hs} {a : Nat} {l : List Int} (h : HAt w d S) (hl : S.fields a = some l) : SliceAt w (some ⟨d.gw, a + 4, none⟩) l.length l := by
 obtain ⟨t, k, ht, hw, rfl, hle, hx⟩ := fields_some hl
 have := h.le
 have := h.cap
 exact ⟨Nat.le_refl _, by omega, fun x hm => by
  obtain ⟨j, hj, rfl⟩ := List.getElem_of_mem hm; exact h.words.bound (hx j _ (List.getElem?_eq_getElem hj)), fun _ => ⟨d.gw, a + 4, rfl, h.words.lt, fun j x hj => h.words.get (hx j x hj)⟩⟩
theorem fields_any {w : World} {d : Hd} {S : Hp.Hs} {a : Nat} {l : List Int} (h : HAt w d S) (hl : S.fields a = some l) :
    Calls Tryz.prog 79 #[.pointer (some ⟨d.hb, 0, none⟩), .int .i64 a] w fun e w' => e = .returned (.slice (some ⟨d.gw, a + 4, none⟩) l.length l.length) ∧ Ext w w' := by
  have h0 := fields_pos h hl; obtain ⟨t, k, ht, hw, rfl, hle, -⟩ := fields_some hl; have c0 := h.c0; have c1 := h.c1; have c2 := h.c2; have hlt := h.lt; have hcap := h.cap; have hle' := h.le; have H := Lib.hid h; clear h hl; go_enter Tryz.func79, Tryz.ntmps79; have e1 : a + (4 + l.length) - (a + 4) = l.length := by omega
  go_wp2_with fail
  have PR1 := Lib.hid (fun (ww : World) (hSw : Ext w ww) => And.intro ((hSw.cell hlt 0).trans c0) (And.intro ((hSw.cell hlt 1).trans c1) ((hSw.cell hlt 2).trans c2))); refine wp_region_seq (S := fun W => Ext w W) (R := Ext) (by kernel_rfl) Ext.refl ?_ ?_
  · exact exx
  refine' tkL 0 rfl ?h0_1 ?_
  case h0_1 => (intro w q; obtain ⟨c0', c1', c2'⟩ := PR1.out w q; go_simp; try with_reducible rfl)
  refine layy ?_; refine' tkL 1 rfl ?h1_2 ?_
  case h1_2 => (intro w q; obtain ⟨c0', c1', c2'⟩ := PR1.out w q; go_simp; try with_reducible rfl)
  refine layy ?_; refine' tkL 2 rfl ?h2_3 ?_
  case h2_3 => (intro w q; obtain ⟨c0', c1', c2'⟩ := PR1.out w q; go_simp; try with_reducible rfl)
  refine layy ?_; refine' tkL 3 rfl ?h3_4 ?_
  case h3_4 => (intro w q; obtain ⟨c0', c1', c2'⟩ := PR1.out w q; go_simp; try with_reducible rfl)
  refine layy ?_; refine' tkL 4 rfl ?h4_5 ?_
  case h4_5 => (intro w q; obtain ⟨c0', c1', c2'⟩ := PR1.out w q; go_simp; try with_reducible rfl)
  refine layy ?_; refine' tkL 5 rfl ?h5_6 ?_
  case h5_6 => (intro w q; obtain ⟨c0', c1', c2'⟩ := PR1.out w q; go_simp; try with_reducible rfl)
  refine layy ?_; refine' tkL 6 rfl ?h6_7 ?_
  case h6_7 => (intro w q; obtain ⟨c0', c1', c2'⟩ := PR1.out w q; go_simp; try with_reducible rfl)
  refine layy ?_; refine' tkL 7 rfl ?h7_8 ?_
  case h7_8 => (intro w q; obtain ⟨c0', c1', c2'⟩ := PR1.out w q; go_simp; try with_reducible rfl)
  refine layy ?_; refine' tkL 8 rfl ?h8_9 ?_
  case h8_9 => (intro w q; obtain ⟨c0', c1', c2'⟩ := PR1.out w q; go_simp; try with_reducible rfl)
  refine layy ?_; refine' tkR 9 (v := .int .i64 t) rfl (Or.inr ⟨by rfl, 76, _, ?hx9_10, ?hy9_10⟩) ?rest9_10
  case hx9_10 => (intro w hSw; go_simp; try with_reducible rfl)
  case hy9_10 => exact fun w hE => (tag_any ((hE.cell hlt 2).trans c2) rfl hle' hcap (H.out.ext hE).words ht).mono (fun _ _ h => ⟨h.1, h.2, Ext.trans hE h.2⟩)
  refine layy ?_; refine' tkR 10 (v := .int .i64 (4 + l.length : Nat)) rfl (Or.inr ⟨by rfl, 123, _, ?hx10_11, ?hy10_11⟩) ?rest10_11
  case hx10_11 => (intro w hSw; go_simp; try with_reducible rfl)
  case hy10_11 => exact fun w hE => (wide_any (H.out.ext hE).sizes hw (by omega)).mono (fun _ _ h => ⟨h.1, h.2, Ext.trans hE h.2⟩)
  refine layy ?_; refine' tkL 11 rfl ?h11_12 ?_
  case h11_12 => (intro w q; obtain ⟨c0', c1', c2'⟩ := PR1.out w q; go_simp; try with_reducible rfl)
  refine layy ?_; refine' tkL 12 rfl ?h12_13 ?_
  case h12_13 => (intro w q; obtain ⟨c0', c1', c2'⟩ := PR1.out w q; go_simp; try with_reducible rfl)
  refine layy ?_; refine' tkL 13 rfl ?h13_14 ?_
  case h13_14 => (intro w q; obtain ⟨c0', c1', c2'⟩ := PR1.out w q; go_simp; try with_reducible rfl)
  refine layy ?_; refine wpAnyR_done (by kernel_rfl) ?_ _; intro x1 _ Ex1; have c2' := (Ex1.cell hlt 2).trans c2; go_wp2
  all_goals first
   | (exfalso; simp_all; done)
   | ((try simp only [e1]); go_returns; exact ⟨rfl, exx⟩)
   | (rw [e1]; go_returns; exact ⟨rfl, exx⟩)
theorem kids_end {w : World} {d : Hd} {S : Hp.Hs} {a : Nat} {t : Int} (h : HAt w d S) (ht : S.tag a = some t) (he : Hp.isEnd t = true) :
    Calls Tryz.prog 80 #[.pointer (some ⟨d.hb, 0, none⟩), .int .i64 a] w fun e w' => e = .returned (.slice none 0 0) ∧ Ext w w' := by
  have H := Lib.hid h; clear h; go_enter Tryz.func80, Tryz.ntmps80
  go_wp2_with (first
   | (go_at_call 76; refine (tag_any H.out.c2 rfl H.out.le H.out.cap H.out.words ht).mono ?_; rintro e w1 ⟨rfl, hb1⟩; obtain ⟨hc1, hf1, hs1⟩ := hb1.cells)
   | (go_at_call 78; refine (isEnd_is he _).mono ?_; rintro e w2 ⟨rfl, hb2⟩; obtain ⟨hc2, hf2, hs2⟩ := hb2.cells))
  go_returns; exact ⟨rfl, exx⟩
theorem kids_node {w : World} {d : Hd} {S : Hp.Hs} {a : Nat} {t : Int} {l : List Int} (h : HAt w d S) (ht : S.tag a = some t) (he : Hp.isEnd t = false) (hl : S.fields a = some l) :
    Calls Tryz.prog 80 #[.pointer (some ⟨d.hb, 0, none⟩), .int .i64 a] w fun e w' => e = .returned (.slice (some ⟨d.gw, a + 4, none⟩) l.length l.length) ∧ Ext w w' := by
  have H := Lib.hid h; clear h; go_enter Tryz.func80, Tryz.ntmps80
  go_wp2_with (first
   | (go_at_call 76; refine (tag_any H.out.c2 rfl H.out.le H.out.cap H.out.words ht).mono ?_; rintro e w1 ⟨rfl, hb1⟩; obtain ⟨hc1, hf1, hs1⟩ := hb1.cells)
   | (go_at_call 78; refine (isEnd_is he _).mono ?_; rintro e w2 ⟨rfl, hb2⟩; obtain ⟨hc2, hf2, hs2⟩ := hb2.cells)
   | (go_at_call 79; refine (fields_any (H.out.ext (hb1.trans hb2)) hl).mono ?_; rintro e w3 ⟨rfl, hb3⟩; obtain ⟨hc3, hf3, hs3⟩ := hb3.cells))
  go_returns; exact ⟨rfl, exx⟩
theorem ck_some {x y : Int} (h : Hp.ck x = some y) : y = x ∧ -4611686018427387904 < x ∧ x < 4611686018427387904 := by
 unfold Hp.ck at h
 split at h
 · cases h; rename_i hb; exact ⟨rfl, hb⟩
 · cases h
theorem rc_some {W : List Int} {i : Nat} {x : Int} (h : Hp.rc W i = some x) : Hp.rd W i = some x ∧ -4611686018427387904 < x ∧ x < 4611686018427387904 := by
 obtain ⟨y, hy, h⟩ := Option.bind_eq_some_iff.1 h
 obtain ⟨rfl, h1⟩ := ck_some h
 exact ⟨hy, h1⟩
theorem tmod16 (n : Int) : -16 < n.tmod 16 ∧ n.tmod 16 < 16 ∧ n.tmod 16 % 16 = max (n % 16) 0 := by
 by_cases h : 0 ≤ n
 · rw [Int.tmod_eq_emod_of_nonneg h]; omega
 · have e : n.tmod 16 = -((-n) % 16) := by
     have h2 := Int.neg_tmod (-n) 16; rw [Int.neg_neg, Int.tmod_eq_emod_of_nonneg (a := -n) (by omega)] at h2; exact h2
   rw [e]; omega
theorem chain_any {w : World} {p : Option Addr} {c k : Nat} {t : Int} {l : List Int} (h : SliceAt w p c l) (hk : Hp.chain t l = some k) :
    Calls Tryz.prog 132 #[.int .i64 t, .slice p l.length c] w fun e w' => e = .returned (.int .i64 k) ∧ Ext w w' := by
  simp only [Hp.chain, Option.bind_eq_bind, Option.bind_eq_some_iff, Option.pure_def, Option.some.injEq] at hk; obtain ⟨t', ht, n0, hn, r, hr, hk⟩ := hk; obtain ⟨rfl, ht1, ht2⟩ := ck_some ht; obtain ⟨rfl, hn1, hn2⟩ := ck_some hn; subst hk; have hle := h.le; have hcap := h.cap; have H := Lib.hid h; have HR := Lib.hid hr; clear h hr ht hn; generalize hL : l.length = n at hle ⊢; have HL := Lib.hid hL; clear hL; go_enter Tryz.func132, Tryz.ntmps132; go_wp2
  go_loop [5, 12] (fun a i => ∃ (j : Nat) (m : Int), j ≤ n ∧ i = .int .i64 j ∧ a = .int .i64 m ∧ -4611686018427387904 < m ∧ m < 4611686018427387904 ∧ Hid (Hp.sums (l.drop j) j m = some r)) (fun _ i => n - (intOf i).toNat)
  case atStart => exact ⟨0, _, Nat.zero_le _, rfl, rfl, hn1, hn2, HR⟩
  case round =>
   obtain ⟨j, m, hj, rfl, rfl, hm1, hm2, HS⟩ := hrel
   by_cases hlt : j < n
   · have hjl : j < l.length := by rw [HL.out]; exact hlt
     have hs := HS.out; rw [List.drop_eq_getElem_cons hjl] at hs; obtain ⟨f, hf, hs⟩ := Option.bind_eq_some_iff.1 hs; obtain ⟨m', hm', hs⟩ := Option.bind_eq_some_iff.1 hs; obtain ⟨hfe, hf1, hf2⟩ := ck_some hf; obtain ⟨rfl, hm3, hm4⟩ := ck_some hm'; rw [← hfe] at hf1 hf2; obtain ⟨b, o, rfl, hb, hc⟩ := H.out.cells (by omega); have g := hc j f (by unfold Hp.rd; rw [List.getElem?_eq_getElem hjl, hfe]); have HT := Lib.hid hs; clear hs hf hfe hm' hc HS; generalize he : ((j : Int) + 1) * f = q at hm3 hm4 HT; have e2 : wrap64 (((j : Int) + 1) * f) = q := by rw [he]; exact IntWalk.wrap64_in _ ⟨by omega, by omega⟩
     clear he; go_wp2
     go_round
     case rel => exact ⟨j + 1, m + q, by omega, by go_num, rfl, hm3, hm4, HT⟩
     case measure => simp [intOf]; omega
   · have : j = n := by omega
     subst this; have hs := HS.out; rw [List.drop_of_length_le (by rw [HL.out]; exact Nat.le_refl _)] at hs; obtain rfl : m = r := by simpa [Hp.sums] using hs
     clear hs HS HR; obtain ⟨q1, q2, q3⟩ := tmod16 m; have Q := Lib.hid q3; clear q3; go_wp2; go_returns; refine ⟨?_, exx⟩; show Ending.returned (Value.int IntKind.i64 (m.tmod 16 % 16)) = _; rw [Q.out]
theorem index_hit {l : List Int} {x : Int} {k : Nat} (hk : Hp.rd l k = some x) (h : ∀ j, j < k → Hp.rd l j ≠ some x) : Hp.index l x = k := by
 have e : l.findIdx? (· == x) = some k := by
  rw [List.findIdx?_eq_some_iff_getElem]; unfold Hp.rd at hk h; obtain ⟨hl, he⟩ := List.getElem?_eq_some_iff.1 hk; refine ⟨hl, by simp [he], fun j hj => ?_⟩; have := h j hj; rw [List.getElem?_eq_getElem (by omega)] at this
  simpa using this
 simp [Hp.index, e]
theorem index_miss {l : List Int} {x : Int} (h : ∀ j, j < l.length → Hp.rd l j ≠ some x) : Hp.index l x = -1 := by
 have e : l.findIdx? (· == x) = none := by
  rw [List.findIdx?_eq_none_iff]; intro y hy; obtain ⟨j, hj, rfl⟩ := List.getElem_of_mem hy; have := h j hj; unfold Hp.rd at this; rw [List.getElem?_eq_getElem hj] at this
  simpa using this
 simp [Hp.index, e]
theorem rd_get {l : List Int} {j : Nat} (h : j < l.length) : ∃ x, Hp.rd l j = some x := ⟨l[j], List.getElem?_eq_getElem h⟩
theorem sIndex_any {w : World} {p : Option Addr} {c : Nat} {x : Int} {l : List Int} (h : SliceAt w p c l) :
    Calls Tryz.prog 169 #[.slice p l.length c, .int .i64 x] w fun e w' => e = .returned (.int .i64 (Hp.index l x)) ∧ Ext w w' := by
  have hle := h.le; have hcap := h.cap; have H := Lib.hid h; clear h; generalize hL : l.length = n at hle ⊢; have HL := Lib.hid hL; clear hL; go_enter Tryz.func169, Tryz.ntmps169; go_wp2
  go_loop [8] (fun i => ∃ j : Nat, j ≤ n ∧ i = .int .i64 j ∧ Aside (∀ m, m < j → Hp.rd l m ≠ some x)) (fun i => n - (intOf i).toNat)
  case atStart => exact ⟨0, Nat.zero_le _, rfl, fun m hm => absurd hm (Nat.not_lt_zero _)⟩
  case round =>
   obtain ⟨j, hj, rfl, HA⟩ := hrel
   by_cases hlt : j < n
   · obtain ⟨f, hf⟩ := rd_get (l := l) (j := j) (by rw [HL.out]; exact hlt); obtain ⟨b, o, rfl, hb, hc⟩ := H.out.cells (by rw [HL.out]; omega); have g := hc j f hf; have HF := Lib.hid hf; clear hf hc
     by_cases he : x = f
     · subst he; go_wp2; go_returns; exact ⟨by rw [index_hit HF.out HA.out]; rfl, exx⟩
     · have e1 : (x == f) = false := by simpa using he
       go_wp2
       go_round
       case rel =>
        refine ⟨j + 1, by omega, by go_num, (show Aside _ from fun m hm => ?_)⟩
        by_cases e : m = j
        · subst e; rw [HF.out]; intro h
          cases h
          exact he rfl
        · exact HA.out m (by omega)
       case measure => simp [intOf]; omega
   · have : j = n := by omega
     subst this; go_wp2; go_returns; exact ⟨by rw [index_miss (by rw [HL.out]; exact HA.out)]; rfl, exx⟩
theorem eq_of_rd {l m : List Int} (hl : l.length = m.length) (h : ∀ j, j < l.length → Hp.rd l j = Hp.rd m j) : l = m := by
 apply List.ext_getElem? 
 intro i
 by_cases hi : i < l.length
 · exact h i hi
 · rw [List.getElem?_eq_none (by omega), List.getElem?_eq_none (by omega)]
theorem sEqual_any {w : World} {p q : Option Addr} {c d : Nat} {l m : List Int} (h : SliceAt w p c l) (k : SliceAt w q d m) :
    Calls Tryz.prog 101 #[.slice p l.length c, .slice q m.length d] w fun e w' => e = .returned (.bool (decide (l = m))) ∧ Ext w w' := by
  by_cases hne : l.length = m.length
  case neg =>
   have e : decide (l = m) = false := by
    apply decide_eq_false; intro e; exact hne (by rw [e])
   rw [e]; have hle := h.le; have hcap := h.cap; have hle' := k.le; have hcap' := k.cap; clear h k e; generalize l.length = a at *; generalize m.length = b at *; have e1 : ((a : Int) == (b : Int)) = false := by simpa using (by omega : ¬ (a : Int) = b)
   go_enter Tryz.func101, Tryz.ntmps101; go_wp2; go_returns; exact ⟨rfl, exx⟩
  case pos =>
   have hle := h.le; have hcap := h.cap; have hcap' := k.cap; have H := Lib.hid h; have K := Lib.hid k; clear h k; rw [← hne]; have HM := Lib.hid hne; clear hne; generalize hL : l.length = n at hle ⊢; have HL := Lib.hid hL; clear hL; have mixed : Tryz.prog.follows .mixedOrders = true := by kernel_rfl
   go_enter Tryz.func101, Tryz.ntmps101; go_wp2
   go_loopg [13] n (fun g i wr => ∃ j : Nat, j ≤ n ∧ n - j ≤ g ∧ i = .int .i64 j ∧ Aside (Ext w wr) ∧ Aside (∀ i, i < j → Hp.rd l i = Hp.rd m i))
   case atStart => exact ⟨0, Nat.zero_le _, by omega, rfl, Ext.refl w, fun m hm => absurd hm (Nat.not_lt_zero _)⟩
   case round =>
    obtain ⟨j, hj, hg, rfl, HE, HA⟩ := hrel
    by_cases hlt : j < n
    · obtain ⟨f, hf⟩ := rd_get (l := l) (j := j) (by rw [HL.out]; exact hlt); obtain ⟨f', hf'⟩ := rd_get (l := m) (j := j) (by rw [← HM.out, HL.out]; exact hlt); obtain ⟨b, o, rfl, hb, hc⟩ := (H.out.ext HE.out).cells (by rw [HL.out]; omega); obtain ⟨b', o', rfl, hb', hc'⟩ := (K.out.ext HE.out).cells (by rw [← HM.out, HL.out]; omega); have g1 := hc j f hf; have g2 := hc' j f' hf'; have HF := Lib.hid hf; have HF' := Lib.hid hf'; clear hf hc hf' hc'
      by_cases he : f = f'
      · subst he
        go_wp2_with fail
        go_region_o
        go_wp2
        go_roundg (n - (j + 1))
        case measure => omega
        case rel =>
         refine ⟨j + 1, by omega, by omega, by go_num, (show Aside _ from HE.out.drew), (show Aside _ from fun i hi => ?_)⟩
         by_cases e : i = j
         · subst e; rw [HF.out, HF'.out]
         · exact HA.out i (by omega)
      · have e1 : (f == f') = false := by simpa using he
        go_wp2_with fail
        go_region_o
        go_wp2; go_returns; refine ⟨?_, HE.out.drew⟩; have e : decide (l = m) = false := by
         apply decide_eq_false; rintro rfl; have := HF.out; rw [HF'.out] at this
         cases this
         exact he rfl
        rw [e]; rfl
    · have : j = n := by omega
      subst this; go_wp2; go_returns; refine ⟨?_, HE.out⟩; have e : decide (l = m) = true := decide_eq_true (eq_of_rd HM.out (by rw [HL.out]; exact HA.out)); rw [e]; rfl
theorem rank_any {p q : Option Addr} {n c d : Nat} {t : Int} {order : List Int} {w : World} (hS : SliceAt w q d order) (ht1 : -9223372036854775808 < t) (ht2 : t ≤ 9223372036854775807) :
    Calls Tryz.prog 126 #[.agg #[.slice p n c, .slice q order.length d], .int .i64 t] w fun e w' => e = .returned (.int .i64 (Hp.rank order t)) ∧ Ext w w' := by
  have H := Lib.hid hS; clear hS
  cases he : Hp.isEnd t with
  | true =>
   have e1 : Hp.rank order t = order.length := by simp [Hp.rank, he]
   rw [e1]; clear e1; have HE := Lib.hid he; clear he; go_enter Tryz.func126, Tryz.ntmps126
   go_wp2_with (go_at_call 78; refine (isEnd_is HE.out _).mono ?_; rintro e w1 ⟨rfl, hb1⟩; obtain ⟨hc1, hf1, hs1⟩ := hb1.cells; have hz1_0 : w.heap.size < w1.heap.size := (by have h := hb1.le; (try simp at h); omega); have hc1_0 := hb1.cell (b := w.heap.size) (by first | omega | (simp; done) | (simp; omega)); have hf1_0 := hb1.frozen (b := w.heap.size) (by first | omega | (simp; done) | (simp; omega)))
   refine bodyPost_ret (v := .int .i64 order.length) (by simp [results, Tryz.results126, go_sem, *]) rfl ⟨rfl, exx⟩
  | false =>
   have e1 : Hp.rank order t = Hp.index order (t - 1) := by simp [Hp.rank, he]
   rw [e1]; clear e1; have HE := Lib.hid he; clear he; go_enter Tryz.func126, Tryz.ntmps126
   go_wp2_with (first
    | (go_at_call 78; refine (isEnd_is HE.out _).mono ?_; rintro e w1 ⟨rfl, hb1⟩; obtain ⟨hc1, hf1, hs1⟩ := hb1.cells; have hz1_0 : w.heap.size < w1.heap.size := (by have h := hb1.le; (try simp at h); omega); have hc1_0 := hb1.cell (b := w.heap.size) (by first | omega | (simp; done) | (simp; omega)); have hf1_0 := hb1.frozen (b := w.heap.size) (by first | omega | (simp; done) | (simp; omega)))
    | (go_at_call 169; refine (sIndex_any (H.out.ext (exx : Ext w _))).mono ?_; rintro e w2 ⟨rfl, hb2⟩; obtain ⟨hc2, hf2, hs2⟩ := hb2.cells; have hz2_0 : w.heap.size < w2.heap.size := (by have h := hb2.le; (try simp at h); omega); have hc2_0 := hb2.cell (b := w.heap.size) (by first | omega | (simp; done) | (simp; omega)); have hf2_0 := hb2.frozen (b := w.heap.size) (by first | omega | (simp; done) | (simp; omega))))
   refine bodyPost_ret (v := .int .i64 (Hp.index order (t - 1))) (by simp [results, Tryz.results126, go_sem, *]) rfl ⟨rfl, exx⟩
theorem sEqual_is {w : World} {p q : Option Addr} {c d : Nat} {l m : List Int} {b : Bool} (hb : decide (l = m) = b) (h : SliceAt w p c l) (k : SliceAt w q d m) :
    Calls Tryz.prog 101 #[.slice p l.length c, .slice q m.length d] w fun e w' => e = .returned (.bool b) ∧ Ext w w' := by
  subst hb; exact sEqual_any h k
theorem lookFrom_succ {S : Hp.Hs} {tag : Int} {l : List Int} {n a r : Nat} (h : S.lookFrom tag l n a = some r) :
    (a = 0 ∧ r = 0) ∨ (a ≠ 0 ∧ ∃ n' t f, n = n' + 1 ∧ S.tag a = some t ∧ S.fields a = some f ∧ ((t = tag ∧ f = l ∧ r = a) ∨ (¬ (t = tag ∧ f = l) ∧ ∃ a', Hp.ra S.words (a + 3) = some a' ∧ S.lookFrom tag l n' a' = some r))) := by
  cases n with
  | zero => simp [Hp.Hs.lookFrom] at h
  | succ n =>
   unfold Hp.Hs.lookFrom at h
   by_cases ha : a = 0
   · rw [if_pos ha] at h; simp only [Option.some.injEq] at h; exact .inl ⟨ha, h.symm⟩
   · rw [if_neg ha] at h; simp only [Option.bind_eq_bind, Option.bind_eq_some_iff] at h; obtain ⟨t, ht, f, hf, h⟩ := h; refine .inr ⟨ha, n, t, f, rfl, ht, hf, ?_⟩
     split at h
     · rename_i hc; exact .inl ⟨hc.1, hc.2, by simpa using h.symm⟩
     · rename_i hc; simp only [Option.bind_eq_some_iff] at h; obtain ⟨a', ha', h⟩ := h; exact .inr ⟨hc, a', ha', h⟩
theorem look_any {w : World} {d : Hd} {S : Hp.Hs} {p : Option Addr} {c r : Nat} {tag : Int} {l : List Int} (h : HAt w d S) (hf : SliceAt w p c l) (hr : S.look tag l = some r) :
    Calls Tryz.prog 110 #[.pointer (some ⟨d.hb, 0, none⟩), .int .i64 tag, .slice p l.length c] w fun e w' => e = .returned (.int .i64 r) ∧ Ext w w' := by
  unfold Hp.Hs.look at hr; simp only [Option.bind_eq_bind, Option.bind_eq_some_iff] at hr; obtain ⟨k, hk, a, ha, hr⟩ := hr; have hkl : k < S.words.length := rd_lt (ra_some ha); have g := h.words.get (ra_some ha); have c2 := h.c2; have z1 := h.lt; have z2 := h.words.lt; have hle := h.le; have hcap := h.cap; have H := Lib.hid h; have HF := Lib.hid hf; have HR := Lib.hid hr; have HK := Lib.hid hk; clear h hf hr hk ha; go_enter Tryz.func110, Tryz.ntmps110
  go_wp2_with fail
  have PR2 := Lib.hid (fun (ww : World) (hSw : Ext w ww) => And.intro ((hSw.cell z1 2).trans c2) ((hSw.cell z2 k).trans g)); refine wp_region_seq (S := fun W => Ext w W) (R := Ext) (by kernel_rfl) Ext.refl ?_ ?_
  · exact exx
  refine' tkL 0 rfl ?h0_1 ?_
  case h0_1 => (intro w q; obtain ⟨c2', g'⟩ := PR2.out w q; go_simp; try with_reducible rfl)
  refine layy ?_; refine' tkL 1 rfl ?h1_2 ?_
  case h1_2 => (intro w q; obtain ⟨c2', g'⟩ := PR2.out w q; go_simp; try with_reducible rfl)
  refine layy ?_; refine' tkL 2 rfl ?h2_3 ?_
  case h2_3 => (intro w q; obtain ⟨c2', g'⟩ := PR2.out w q; go_simp; try with_reducible rfl)
  refine layy ?_; refine' tkL 3 rfl ?h3_4 ?_
  case h3_4 => (intro w q; obtain ⟨c2', g'⟩ := PR2.out w q; go_simp; try with_reducible rfl)
  refine layy ?_; refine' tkL 4 rfl ?h4_5 ?_
  case h4_5 => (intro w q; obtain ⟨c2', g'⟩ := PR2.out w q; go_simp; try with_reducible rfl)
  refine layy ?_; refine' tkL 5 rfl ?h5_6 ?_
  case h5_6 => (intro w q; obtain ⟨c2', g'⟩ := PR2.out w q; go_simp; try with_reducible rfl)
  refine layy ?_; refine' tkR 6 (v := .int .i64 k) rfl (Or.inr ⟨by rfl, 132, _, ?hx6_7, ?hy6_7⟩) ?rest6_7
  case hx6_7 => (intro w hSw; go_simp; try with_reducible rfl)
  case hy6_7 => exact fun w hE => (chain_any (HF.out.ext hE) HK.out).mono (fun _ _ h => ⟨h.1, h.2, Ext.trans hE h.2⟩)
  refine layy ?_; refine' tkL 7 rfl ?h7_8 ?_
  case h7_8 => (intro w q; obtain ⟨c2', g'⟩ := PR2.out w q; go_simp; try with_reducible rfl)
  refine layy ?_; refine' tkL 8 rfl ?h8_9 ?_
  case h8_9 => (intro w q; obtain ⟨c2', g'⟩ := PR2.out w q; go_simp; try with_reducible rfl)
  refine layy ?_; refine' tkL 9 rfl ?h9_10 ?_
  case h9_10 => (intro w q; obtain ⟨c2', g'⟩ := PR2.out w q; go_simp; try with_reducible rfl)
  refine layy ?_; refine wpAnyR_done (by kernel_rfl) ?_ _; intro x1 _ Ex1
  go_wp2_with fail
  go_loopg [7] S.fuel (fun g s wr => ∃ m a : Nat, m ≤ g ∧ s = .int .i64 a ∧ Aside (Ext w wr) ∧ Hid (S.lookFrom tag l m a = some r))
  case atStart => exact ⟨S.fuel, a, Nat.le_refl _, rfl, Ex1, HR⟩
  case round =>
   obtain ⟨m, a, hm, rfl, HE, HL⟩ := hrel; clear c2 g; have H1 := Lib.hid (H.out.ext HE.out); have F1 := Lib.hid (HF.out.ext HE.out); have c2 := H1.out.c2; have z1 := H1.out.lt; have z2 := H1.out.words.lt
   rcases lookFrom_succ HL.out with ⟨rfl, rfl⟩ | ⟨ha, n', t, f, hn', ht, hf, hq⟩
   · go_wp2_with fail
     go_returns; exact ⟨rfl, HE.out⟩
   · have HT := Lib.hid ht; have HFf := Lib.hid hf; have Hn := Lib.hid hn'; clear ht hf hn'; have ha' : ((a : Int) != 0) = true := by simpa using ha
     by_cases htt : t = tag
     · subst htt
       by_cases hff : f = l
       · have hra : r = a := by
           rcases hq with ⟨_, _, h⟩ | ⟨h, _⟩
           · exact h
           · exact absurd ⟨rfl, hff⟩ h
         subst hra; clear hq; have HD := Lib.hid (decide_eq_true hff); clear hff
         go_wp2_with (first
          | (go_at_call 76; refine (tag_any c2 rfl hle hcap H1.out.words HT.out).mono ?_; rintro e w1 ⟨rfl, hb1⟩; obtain ⟨hc1, hf1, hs1⟩ := hb1.cells)
          | (go_at_call 79; refine (fields_any (H1.out.ext (exx)) HFf.out).mono ?_; rintro e w2 ⟨rfl, hb2⟩; obtain ⟨hc2, hf2, hs2⟩ := hb2.cells)
          | (go_at_call 101; refine (sEqual_is HD.out (fields_at (H1.out.ext (exx)) HFf.out) (F1.out.ext (exx))).mono ?_; rintro e w3 ⟨rfl, hb3⟩; obtain ⟨hc3, hf3, hs3⟩ := hb3.cells))
         go_returns; exact ⟨rfl, HE.out.trans (exx)⟩
       · obtain ⟨a', hra, hq⟩ : ∃ a', Hp.ra S.words (a + 3) = some a' ∧ S.lookFrom t l n' a' = some r := by
           rcases hq with ⟨_, h, _⟩ | ⟨_, h⟩
           · exact absurd h hff
           · exact h
         have hal := rd_lt (ra_some hra); have g := H1.out.words.get (ra_some hra); have HQ := Lib.hid hq; have HD := Lib.hid (decide_eq_false hff); clear hff hq hra
         go_wp2_with (first
          | (go_at_call 76; refine (tag_any c2 rfl hle hcap H1.out.words HT.out).mono ?_; rintro e w1 ⟨rfl, hb1⟩; obtain ⟨hc1, hf1, hs1⟩ := hb1.cells)
          | (go_at_call 79; refine (fields_any (H1.out.ext (exx)) HFf.out).mono ?_; rintro e w2 ⟨rfl, hb2⟩; obtain ⟨hc2, hf2, hs2⟩ := hb2.cells)
          | (go_at_call 101; refine (sEqual_is HD.out (fields_at (H1.out.ext (exx)) HFf.out) (F1.out.ext (exx))).mono ?_; rintro e w3 ⟨rfl, hb3⟩; obtain ⟨hc3, hf3, hs3⟩ := hb3.cells; have E3 := (hb1.trans hb2).trans hb3; have c2'' := (E3.cell z1 2).trans c2; have g'' := (E3.cell z2 (a + 3)).trans g))
         go_roundg (n')
         case measure => have := Hn.out; omega
         case rel => exact ⟨n', a', Nat.le_refl _, rfl, HE.out.trans (exx), HQ⟩
     · obtain ⟨a', hra, hq⟩ : ∃ a', Hp.ra S.words (a + 3) = some a' ∧ S.lookFrom tag l n' a' = some r := by
         rcases hq with ⟨h, _, _⟩ | ⟨_, h⟩
         · exact absurd h htt
         · exact h
       have hal := rd_lt (ra_some hra); have g := H1.out.words.get (ra_some hra); have HQ := Lib.hid hq; have htt' : (t != tag) = true := by simpa using htt
       clear htt hq hra
       go_wp2_with (first
        | (go_at_call 76; refine (tag_any c2 rfl hle hcap H1.out.words HT.out).mono ?_; rintro e w1 ⟨rfl, hb1⟩; obtain ⟨hc1, hf1, hs1⟩ := hb1.cells))
       go_roundg (n')
       case measure => have := Hn.out; omega
       case rel => exact ⟨n', a', Nat.le_refl _, rfl, HE.out.trans (exx), HQ⟩
namespace HAt
variable {w w' : World} {d : Hd} {S : Hp.Hs}
theorem turn (h : HAt w d S) (k : But [d.gw, d.gm] w w') {W : List Int} {T : List Nat} (hw : WordsAt w' d.gw W) (hl : W.length = S.words.length) (hm : MapAt Tryz.prog w' d.gm T) (hb : ∀ a ∈ T, a < W.length) : HAt w' d { S with words := W, taken := T } := by
 have n1 : d.hb ∉ [d.gw, d.gm] := by simp [h.apart1, h.apart2]
 exact
 { c0 := (k.cell h.lt n1 0).trans h.c0
   c1 := (k.cell h.lt n1 1).trans h.c1
   c2 := by rw [k.cell h.lt n1 2, h.c2, hl]
   c3 := (k.cell h.lt n1 3).trans h.c3
   f2 := (k.frozen h.lt n1 2).trans h.f2
   sizes := h.sizes.but k (fun b o e hm => h.far1 b o e (by simp [Hd.own] at hm ⊢; rcases hm with hm | hm <;> simp [hm]))
   order := h.order.but k (fun b o e hm => h.far2 b o e (by simp [Hd.own] at hm ⊢; rcases hm with hm | hm <;> simp [hm]))
   words := hw
   le := by rw [hl]; exact h.le
   cap := h.cap
   map := hm
   below := hb
   apart1 := h.apart1
   apart2 := h.apart2
   apart3 := h.apart3
   far1 := h.far1
   far2 := h.far2
   pos := h.pos
   small := by rw [hl]; exact h.small
   few := h.few
   old1 := fun b o e => Nat.lt_of_lt_of_le (h.old1 b o e) k.size
   old2 := fun b o e => Nat.lt_of_lt_of_le (h.old2 b o e) k.size }
theorem but (h : HAt w d S) {l : List Nat} (k : But l w w') (h0 : d.hb ∉ l) (h1 : d.gw ∉ l) (h2 : d.gm ∉ l) (h3 : ∀ b o, d.sp = some ⟨b, o, none⟩ → b ∉ l) (h4 : ∀ b o, d.op = some ⟨b, o, none⟩ → b ∉ l) : HAt w' d S :=
 { h with
   c0 := (k.cell h.lt h0 0).trans h.c0
   c1 := (k.cell h.lt h0 1).trans h.c1
   c2 := (k.cell h.lt h0 2).trans h.c2
   c3 := (k.cell h.lt h0 3).trans h.c3
   f2 := (k.frozen h.lt h0 2).trans h.f2
   sizes := h.sizes.but k h3
   order := h.order.but k h4
   words := h.words.but k h1
   map := h.map.but k h2
   old1 := fun b o e => Nat.lt_of_lt_of_le (h.old1 b o e) k.size
   old2 := fun b o e => Nat.lt_of_lt_of_le (h.old2 b o e) k.size }
theorem wr_len {W W' : List Int} {j : Nat} {v : Int} (h : Hp.wr W j v = some W') : W'.length = W.length ∧ j < W.length := by
 unfold Hp.wr at h
 split at h
 · rename_i hj
   cases h
   exact ⟨by simp, hj⟩
 · cases h
theorem zero_len {W W' : List Int} {i n : Nat} (h : Hp.zero W i n = some W') : W'.length = W.length ∧ i + n ≤ W.length := by
 unfold Hp.zero at h
 split at h
 · rename_i hj
   cases h
   exact ⟨by simp; omega, hj⟩
 · cases h
theorem lay_len {W W' l : List Int} {i : Nat} (h : Hp.lay W i l = some W') : W'.length = W.length ∧ i + l.length ≤ W.length := by
 unfold Hp.lay at h
 split at h
 · rename_i hj
   cases h
   exact ⟨by simp; omega, hj⟩
 · cases h
theorem clear (h : HAt w d S) {i n : Nat} {W : List Int} (hw : Hp.zero S.words i n = some W) : HAt (w.setCells d.gw i (List.replicate n (.int .i64 0))) d { S with words := W } := by
 have k : But [d.gw, d.gm] w (w.setCells d.gw i (List.replicate n (.int .i64 0))) := But.setCells (by simp) _ _ (But.refl _ _)
 have k1 : But [d.gw] w (w.setCells d.gw i (List.replicate n (.int .i64 0))) := But.setCells (by simp) _ _ (But.refl _ _)
 exact h.turn k (h.words.clear hw) (zero_len hw).1 (h.map.but k1 (by simp [h.apart3.symm])) (fun a ha => by rw [(zero_len hw).1]; exact h.below a ha)
theorem mapped (h : HAt w d S) {T : List Nat} (k : w.mapTurned w' d.gm) (hm : MapAt Tryz.prog w' d.gm T) (hb : ∀ a ∈ T, a < S.words.length) : HAt w' d { S with taken := T } := by
 have k1 : But [d.gm] w w' := (But.refl _ _).turned k (by simp)
 exact h.turn (k1.mono (by simp)) (h.words.but k1 (by simp [h.apart3])) rfl hm hb
end HAt
structure Now (w0 w : World) (d : Hd) (S : Hp.Hs) : Prop extends HAt w d S where
 but : But d.own w0 w
theorem Hd.gw_own (d : Hd) : d.gw ∈ d.own := by simp [Hd.own]
theorem Hd.gm_own (d : Hd) : d.gm ∈ d.own := by simp [Hd.own]
theorem Hd.hb_own (d : Hd) : d.hb ∈ d.own := by simp [Hd.own]
namespace Now
variable {w0 w w' : World} {d : Hd} {S : Hp.Hs}
theorem refl (h : HAt w d S) : Now w w d S := ⟨h, But.refl _ _⟩
theorem ext (h : Now w0 w d S) (k : Ext w w') : Now w0 w' d S := ⟨h.toHAt.ext k, h.but.ext k⟩
theorem set (h : Now w0 w d S) {j : Nat} {v : Int} {W : List Int} (hw : Hp.wr S.words j v = some W) (h1 : -9223372036854775808 ≤ v) (h2 : v ≤ 9223372036854775807) : Now w0 (w.setCell ⟨d.gw, j, none⟩ (.int .i64 v)) d { S with words := W } :=
 ⟨h.toHAt.set hw h1 h2, h.but.setCell (.inl d.gw_own) _⟩
theorem clear (h : Now w0 w d S) {i n : Nat} {W : List Int} (hw : Hp.zero S.words i n = some W) : Now w0 (w.setCells d.gw i (List.replicate n (.int .i64 0))) d { S with words := W } :=
 ⟨h.toHAt.clear hw, But.setCells (.inl d.gw_own) _ _ h.but⟩
theorem mapped (h : Now w0 w d S) {T : List Nat} (k : w.mapTurned w' d.gm) (hm : MapAt Tryz.prog w' d.gm T) (hb : ∀ a ∈ T, a < S.words.length) : Now w0 w' d { S with taken := T } :=
 ⟨h.toHAt.mapped k hm hb, h.but.turned k (.inl d.gm_own)⟩
theorem turned (h : Now w0 w d S) {l : List Nat} {d' : Hd} (k : But l w w') (hl : ∀ x ∈ l, x ∈ d.own) (h' : HAt w' d' S) (hd : d'.own = d.own) : Now w0 w' d' S := ⟨h', by rw [hd]; exact h.but.trans (k.mono hl)⟩
theorem cut {P : Program} {c : Code} {Q : Exit → Act → World → Prop} {a : Act} (h : Now w0 w d S) (k : ∀ w', Now w0 w' d S → c.wp P Q a w') : c.wp P Q a w := k w h
end Now
def Turned (d : Hd) (w : World) (v : Value) (S : Hp.Hs) (e : Ending) (w' : World) : Prop := e = .returned v ∧ HAt w' d S ∧ But d.own w w'
theorem Now.done {w0 w : World} {d : Hd} {S : Hp.Hs} {v : Value} (h : Now w0 w d S) : Turned d w0 v S (.returned v) w := ⟨rfl, h.toHAt, h.but⟩
open Go
section
variable {P : Program} {ops : Array Oper} {Q : Exit → Act → World → Prop} {md : Region.Mode} {S : World → Prop} {R : World → World → Prop}
def sinkFrom (md : Region.Mode) (ops : Array Oper) (n : Nat) (listed : Array Bool) : Bool :=
 (List.range n).all fun i => listed.getD i false || (List.range (n + 1)).any fun j => decide (i < j) && Region.waitsFor md ops j i
def headInvB (md : Region.Mode) (ops : Array Oper) (n : Nat) (listed : Array Bool) : Bool :=
 decide (listed.size = ops.size) &&
 ((List.range ops.size).all fun j => !(listed.getD j false) || (match ops[j]? with | some o => o.after.all (fun e => !(Region.binds md e) || listed.getD e.on false) | none => true)) &&
 ((List.range ops.size).all fun t => decide (t < n) || !(listed.getD t true))
theorem headInvB_spec {n : Nat} {listed : Array Bool} (h : headInvB md ops n listed = true) : HeadInv md ops n listed := by
 simp only [headInvB, Bool.and_eq_true, decide_eq_true_eq] at h
 obtain ⟨⟨h1, h2⟩, h3⟩ := h
 refine ⟨h1, fun j oj hj hl e he hb => ?_, fun t ht htl => ?_⟩
 · have hjl : j < ops.size := (Array.getElem?_eq_some_iff.1 hj).1; have := List.all_eq_true.1 h2 j (List.mem_range.2 hjl); rw [hl, hj] at this; simp only [Bool.not_true, Bool.false_or] at this; have := Array.all_eq_true_iff_forall_mem.1 this e he; rw [hb] at this
   simpa using this
 · have := List.all_eq_true.1 h3 t (List.mem_range.2 htl); simp only [Bool.or_eq_true, decide_eq_true_eq] at this
   rcases this with h | h
   · omega
   · simpa using h
def Sunk (md : Region.Mode) (ops : Array Oper) (n : Nat) (listed : Array Bool) : Prop :=
 ∀ i, i < n → listed.getD i true = false → ∃ j, j ≤ n ∧ i < j ∧ Region.waitsFor md ops j i = true
theorem sinkFrom_spec {n : Nat} {listed : Array Bool} (h : sinkFrom md ops n listed = true) : Sunk md ops n listed := by
 intro i hi hun
 have := List.all_eq_true.1 h i (List.mem_range.2 hi)
 rw [getD_both hun] at this
 simp only [Bool.false_or] at this
 obtain ⟨j, hj, h2⟩ := List.any_eq_true.1 this
 simp only [Bool.and_eq_true, decide_eq_true_eq] at h2
 exact ⟨j, by have := List.mem_range.1 hj; omega, h2.1, h2.2⟩
theorem Sunk.set {n i : Nat} {listed : Array Bool} (h : Sunk md ops n listed) : Sunk md ops n (listed.setIfInBounds i true) := by
 intro k hk hun
 by_cases e : i = k
 · subst e
   rcases Nat.lt_or_ge i listed.size with h' | h'
   · simp [h'] at hun
   · refine h i hk ?_; simp [Array.getElem?_eq_none h'] at hun
 · rw [getD_set_ne true e] at hun; exact h k hk hun
theorem tail_bars {n : Nat} {listed : Array Bool} (hs : Sunk md ops n listed) (hc : Region.chainB md ops n = true) (inv : HeadInv md ops n listed) :
    ∀ (d i : Nat), n - i = d → i < n → listed.getD i true = false → ∀ t, n ≤ t → t ∉ Region.ready md ops listed := by
  intro d
  induction d using Nat.strongRecOn with
  | _ d ih =>
   intro i hd hi hun t ht hr; obtain ⟨_, ot, hot, hall⟩ := mem_ready.1 hr; have htlt : t < ops.size := (Array.getElem?_eq_some_iff.1 hot).1
   by_cases htn : t = n
   · subst htn; obtain ⟨j, hjle, hij, hw⟩ := hs i hi hun; obtain ⟨oj, hoj, e, he, hb, hon⟩ := Region.waitsFor_spec hw
     by_cases hjt : j = t
     · subst hjt; have : oj = ot := Option.some.inj (hoj.symm.trans hot); subst this; have h2 := hall e he hb; rw [hon, getD_both hun] at h2
       cases h2
     · cases hl : listed.getD j false with
       | true =>
        have h2 := inv.closed j oj hoj hl e he hb; rw [hon, getD_both hun] at h2
        cases h2
       | false =>
        have hjs : j < listed.size := by rw [inv.size]; omega
        exact ih (t - j) (by omega) j rfl (by omega) (getD_in hjs hl) t (Nat.le_refl _) hr
   · have h1 := List.all_eq_true.1 hc t (List.mem_range.2 htlt); simp only [Bool.or_eq_true, decide_eq_true_eq] at h1
     rcases h1 with h1 | h1
     · omega
     · obtain ⟨o', ho', e, he, hb, hon⟩ := Region.waitsFor_spec h1; have : o' = ot := Option.some.inj (ho'.symm.trans hot); subst this; have h2 := hall e he hb; rw [hon, getD_both (inv.tail (t - 1) (by omega) (by omega))] at h2
       cases h2
def wpAnyX (P : Program) (md : Region.Mode) (ops : Array Oper) (Q : Exit → Act → World → Prop) (S : World → Prop) (R : World → World → Prop) (n G : Nat) : Nat → Array Bool → Act → World → Prop
 | 0, listed, a, w => (∀ j ∈ Region.ready md ops listed, n ≤ j) ∧ ∀ w', R w w' → S w' → wpAny P md ops Q G listed a w'
 | f + 1, listed, a, w => ∀ w', R w w' → S w' → Region.ready md ops listed ≠ [] ∧
     ∀ i ∈ Region.ready md ops listed, i < n ∧ wpOp P ops Q i (fun a' w'' => S w'' ∧ wpAnyX P md ops Q S R n G f (listed.setIfInBounds i true) a' w'') a w'
variable {n G : Nat}
theorem wpAnyX.mono (hT : ∀ a b c, R a b → R b c → R a c) : ∀ {f : Nat} {listed : Array Bool} {a : Act} {w w1 : World}, R w w1 → wpAnyX P md ops Q S R n G f listed a w → wpAnyX P md ops Q S R n G f listed a w1
 | 0, _, _, _, _, hr, h => ⟨h.1, fun w' r s => h.2 w' (hT _ _ _ hr r) s⟩
 | _ + 1, _, _, _, _, hr, h => fun w' r s => h w' (hT _ _ _ hr r) s
theorem wpAny_of_X (hR : ∀ w, R w w) : ∀ (f : Nat) (listed : Array Bool) (a : Act) (w : World), S w → wpAnyX P md ops Q S R n G f listed a w → wpAny P md ops Q (f + G) listed a w
 | 0, _, _, w, hS, h => by rw [Nat.zero_add]; exact h.2 w (hR w) hS
 | f + 1, _, _, w, hS, h => by
  rw [show f + 1 + G = (f + G) + 1 by omega]; exact ⟨fun h0 => absurd h0 (h w (hR w) hS).1, fun i hi => wpOp_mono (fun a' w' h' => wpAny_of_X hR f _ a' w' h'.1 h'.2) ((h w (hR w) hS).2 i hi).2⟩
theorem wpAnyX_first {i : Nat} {oi : Oper} {v : Value} (hR : ∀ w, R w w) (hT : ∀ a b c, R a b → R b c → R a c) (hi : ops[i]? = some oi) (hsel : ∀ (j : Nat) (o : Oper) cs b, ops[j]? = some o → o.op ≠ .select cs b)
    (hQ : ∀ c a w, Q (.panic c) (a.put oi.dst v) w → Q (.panic c) a w) (hc : Region.chainB md ops n = true) (hin : i < n) :
    ∀ (f : Nat) (listed : Array Bool) (a : Act) (w : World), HeadInv md ops n listed → Sunk md ops n listed →
     (∀ j oj, ops[j]? = some oj → j ≠ i → listed.getD j true = false → (∀ e ∈ oj.after, Region.binds md e = true → e.on ≠ i) → oi.apart ops oj = true) →
     i ∈ Region.ready md ops listed → YieldsOn P ops S R oi v a →
     wpAnyX P md ops Q S R n G f (listed.setIfInBounds i true) (a.put oi.dst v) w → wpAnyX P md ops Q S R n G (f + 1) listed a w := by
  intro f
  induction f with
  | zero =>
   intro listed a w inv hs _ hr hy H w' r s; have hun := (mem_ready.1 hr).1; refine ⟨fun h => (by rw [h] at hr; cases hr), fun j hj => ?_⟩
   have hjn : j < n := by
    rcases Nat.lt_or_ge j n with h | h
    · exact h
    · exact absurd hj (tail_bars hs hc inv _ i rfl hin hun j h)
   refine ⟨hjn, ?_⟩
   by_cases hji : j = i
   · subst hji; exact hy.wpOp hi hR s fun w'' r' s' => ⟨s', wpAnyX.mono hT (hT _ _ _ r r') H⟩
   · have := H.1 j (ready_mono hj hji); omega
  | succ f ih =>
   intro listed a w inv hs hfree hr hy H w' r s; have hun : listed.getD i true = false := (mem_ready.1 hr).1; refine ⟨fun h => (by rw [h] at hr; cases hr), fun j hj => ?_⟩
   have hjn : j < n := by
    rcases Nat.lt_or_ge j n with h | h
    · exact h
    · exact absurd hj (tail_bars hs hc inv _ i rfl hin hun j h)
   refine ⟨hjn, ?_⟩
   by_cases hji : j = i
   · subst hji; exact hy.wpOp hi hR s fun w'' r' s' => ⟨s', wpAnyX.mono hT (hT _ _ _ r r') H⟩
   · have h1 := ((H w' r s).2 j (ready_mono hj hji)).2; obtain ⟨hjun, oj, hoj, hall⟩ := mem_ready.1 hj; have hnot : ∀ e ∈ oj.after, Region.binds md e = true → e.on ≠ i := by
      intro e he hb heq; have h2 := hall e he hb; rw [heq, getD_both hun] at h2
      cases h2
     have h2 := wpOp_putOn hoj (hfree j oj hoj hji hjun hnot) (fun cs b => hsel i oi cs b hi) (fun cs b => hsel j oj cs b hoj) hQ hy h1; refine wpOp_mono ?_ h2; rintro a' w'' ⟨hy', hs', hk⟩; refine ⟨hs', ih (listed.setIfInBounds j true) a' w'' (inv.set hj hjn) hs.set ?_ (ready_mono hr (Ne.symm hji)) hy' ?_⟩
     · intro k ok hk hki hu hno; refine hfree k ok hk hki ?_ hno
       by_cases hjk : j = k
       · subst hjk; exact hjun
       · rw [getD_set_ne true hjk] at hu; exact hu
     · rw [Array.setIfInBounds_comm _ _ hji]; exact hk
def takeB (md : Region.Mode) (ops : Array Oper) (n : Nat) (listed : Array Bool) (i : Nat) : Bool :=
 Region.noSelect ops && Region.chainB md ops n && headInvB md ops n listed && sinkFrom md ops n listed && decide (i < n) && (Region.ready md ops listed).contains i && Region.free md ops listed i
theorem wpAnyX_take {i : Nat} {oi : Oper} {v : Value} {f : Nat} {listed : Array Bool} {a : Act} {w : World} (hR : ∀ w, R w w) (hT : ∀ a b c, R a b → R b c → R a c) (hi : ops[i]? = some oi)
    (hb : takeB md ops n listed i = true) (hQ : ∀ c a w, Q (.panic c) (a.put oi.dst v) w → Q (.panic c) a w) (hy : YieldsOn P ops S R oi v a)
    (h : wpAnyX P md ops Q S R n G f (listed.setIfInBounds i true) (a.put oi.dst v) w) : wpAnyX P md ops Q S R n G (f + 1) listed a w := by
  simp only [takeB, Bool.and_eq_true, decide_eq_true_eq] at hb; obtain ⟨⟨⟨⟨⟨⟨b1, b2⟩, b3⟩, b4⟩, b5⟩, b6⟩, b7⟩ := hb; exact wpAnyX_first hR hT hi (Region.noSelect_spec b1) hQ b2 b5 f listed a w (headInvB_spec b3) (sinkFrom_spec b4) (Region.free_spec hi b7) (by simpa using b6) hy h
theorem wpAnyX_done {l : List Oper} {listed : Array Bool} {a : Act} {w : World} (hb : Region.seqB md l.toArray (l.drop n).length n listed = true)
    (h : ∀ w', R w w' → S w' → wpList P l.toArray Q (l.drop n) a w') : wpAnyX P md l.toArray Q S R n (l.drop n).length 0 listed a w :=
  ⟨seqB_ready hb, fun w' r s => wpAny_of_seq (l.drop n) n listed a w' (fun j => by simp [List.getElem?_drop]) hb (h w' r s)⟩
theorem wpAny_to_X {l : List Oper} {listed : Array Bool} {a : Act} {w : World} (n f : Nat) (hR : ∀ w, R w w) (hS : S w)
    (h : wpAnyX P md l.toArray Q S R n (l.drop n).length f listed a w) {N : Nat} (hN : f + (l.drop n).length = N) : wpAny P md l.toArray Q N listed a w := by
  subst hN; exact wpAny_of_X hR f listed a w hS h
end
section
variable {P : Program} {ops : Array Oper} {Q : Exit → Act → World → Prop} {md : Region.Mode} {S : World → Prop} {n G : Nat}
theorem tkX (i : Nat) {oi : Oper} {v : Value} {f : Nat} {listed : Array Bool} {a : Act} {w : World} (hi : ops[i]? = some oi) (hy : YieldsOn P ops S Ext oi v a) (h : wpAnyX P md ops Q S Ext n G f (listed.setIfInBounds i true) (a.put oi.dst v) w)
    (hb : takeB md ops n listed i = true := by kernel_rfl) (hQ : ∀ c a w, Q (.panic c) (a.put oi.dst v) w → Q (.panic c) a w := by exact (fun _ _ _ h => h)) : wpAnyX P md ops Q S Ext n G (f + 1) listed a w :=
  wpAnyX_take Ext.refl (fun _ _ _ => Ext.trans) hi hb hQ hy h
theorem tkY (i : Nat) {oi : Oper} {v : Value} {f : Nat} {listed : Array Bool} {a : Act} {w : World} (hi : ops[i]? = some oi) (hy : ∀ w, S w → (execOp a.eval oi).run P w = .ok (.value v) w) (h : wpAnyX P md ops Q S Ext n G f (listed.setIfInBounds i true) (a.put oi.dst v) w)
    (hw : Region.wanted oi (yielded ops a.tmps) = true := by rfl) (hb : takeB md ops n listed i = true := by kernel_rfl) (hQ : ∀ c a w, Q (.panic c) (a.put oi.dst v) w → Q (.panic c) a w := by exact (fun _ _ _ h => h)) : wpAnyX P md ops Q S Ext n G (f + 1) listed a w :=
  wpAnyX_take Ext.refl (fun _ _ _ => Ext.trans) hi hb hQ (Or.inl (Or.inl ⟨hw, hy⟩)) h
theorem tkE (i : Nat) {oi : Oper} {v : Value} {f : Nat} {listed : Array Bool} {a : Act} {w : World} (hi : ops[i]? = some oi) (hy : ∀ w, S w → (execOp a.eval oi).run P w = .ok (.value v) w) (h : wpAnyX P md ops Q S Eq n G f (listed.setIfInBounds i true) (a.put oi.dst v) w)
    (hw : Region.wanted oi (yielded ops a.tmps) = true := by rfl) (hb : takeB md ops n listed i = true := by kernel_rfl) (hQ : ∀ c a w, Q (.panic c) (a.put oi.dst v) w → Q (.panic c) a w := by exact (fun _ _ _ h => h)) : wpAnyX P md ops Q S Eq n G (f + 1) listed a w :=
  wpAnyX_take (fun _ => rfl) (fun _ _ _ h k => h.trans k) hi hb hQ (Or.inl (Or.inl ⟨hw, hy⟩)) h
theorem tkA (i : Nat) {oi : Oper} {v : Value} {fuel : Nat} {listed : Array Bool} {a : Act} {w : World} (hi : ops[i]? = some oi) (hy : ∀ w, (execOp a.eval oi).run P w = .ok (.value v) w) (h : wpAny P md ops Q fuel (listed.setIfInBounds i true) (a.put oi.dst v) w)
    (hw : Region.wanted oi (yielded ops a.tmps) = true := by rfl) (hs : Region.noSelect ops = true := by kernel_rfl) (hf : Region.free md ops listed i = true := by kernel_rfl) (hr : (Region.ready md ops listed).contains i = true := by kernel_rfl) (hQ : ∀ c a w, Q (.panic c) (a.put oi.dst v) w → Q (.panic c) a w := by exact (fun _ _ _ h => h)) : wpAny P md ops Q (fuel + 1) listed a w :=
  wpAny_take hi hs hf hr hQ (Or.inl ⟨hw, hy⟩) h
end
open Go.RowKit
theorem run_clear_words {w : World} {d : Hd} {S : Hp.Hs} (h : HAt w d S) {i n : Nat} {W : List Int} (hz : Hp.zero S.words i n = some W) (hn : 0 < n) (c : Nat) (ty : TypeId) :
    (Builtin.clear_ #[22] ty #[.slice (some ⟨d.gw, i, none⟩) n c]).run Tryz.prog w = .ok (.tuple #[]) (w.setCells d.gw i (List.replicate n (.int .i64 0))) :=
  Lib.run_clear_slice w _ 3 ty (.int .i64 0) Tryz.underlying22 (fun w => Tryz.zeroValue3 w) rfl rfl d.gw i n c hn
   (fun j hj => by
    obtain ⟨x, hx⟩ := rd_get (l := S.words) (j := i + j) (by have := (HAt.zero_len hz).2; omega); rw [h.words.get hx]; rfl)
   (fun j _ => h.words.froz _)
theorem takeFrom_succ {W W' : List Int} {wide n link r : Nat} (h : Hp.Hs.takeFrom W wide n link = some (r, W')) :
    ∃ n' a, n = n' + 1 ∧ Hp.ra W link = some a ∧ ((a = 0 ∧ r = 0 ∧ W' = W) ∨ (a ≠ 0 ∧ ∃ v next, Hp.rc W (a + 1) = some v ∧ Hp.rd W (a + 2) = some next ∧
     ((v - wide = 0 ∧ r = a ∧ ∃ W1, Hp.wr W link next = some W1 ∧ Hp.zero W1 a wide = some W') ∨
      (v - wide ≠ 0 ∧ 3 ≤ v - wide ∧ r = a ∧ ∃ W1 W2 W3 W4, Hp.wr W (a + wide) 0 = some W1 ∧ Hp.wr W1 (a + wide + 1) (v - wide) = some W2 ∧ Hp.wr W2 (a + wide + 2) next = some W3 ∧ Hp.wr W3 link (a + wide : Nat) = some W4 ∧ Hp.zero W4 a wide = some W') ∨
      (v - wide ≠ 0 ∧ ¬ 3 ≤ v - wide ∧ Hp.Hs.takeFrom W wide n' (a + 2) = some (r, W'))))) := by
  cases n with
  | zero => simp [Hp.Hs.takeFrom] at h
  | succ n =>
   unfold Hp.Hs.takeFrom at h; simp only [Option.bind_eq_bind, Option.bind_eq_some_iff] at h; obtain ⟨a, ha, h⟩ := h; refine ⟨n, a, rfl, ha, ?_⟩
   split at h
   · rename_i h0; simp only [Option.some.injEq, Prod.mk.injEq] at h; exact .inl ⟨h0, h.1.symm, h.2.symm⟩
   · rename_i h0; simp only [Option.bind_eq_some_iff] at h; obtain ⟨v, hv, next, hx, h⟩ := h; refine .inr ⟨h0, v, next, hv, hx, ?_⟩
     split at h
     · rename_i h1; simp only [Option.bind_eq_some_iff, Option.some.injEq, Prod.mk.injEq] at h; obtain ⟨W1, hW1, W2, hW2, h2, rfl⟩ := h; exact .inl ⟨h1, h2.symm, W1, hW1, hW2⟩
     · rename_i h1
       split at h
       · rename_i h3; simp only [Option.bind_eq_some_iff, Option.some.injEq, Prod.mk.injEq] at h; obtain ⟨W1, hW1, W2, hW2, W3, hW3, W4, hW4, W5, hW5, h2, rfl⟩ := h; exact .inr (.inl ⟨h1, h3, h2.symm, W1, W2, W3, W4, hW1, hW2, hW3, hW4, hW5⟩)
       · rename_i h3; exact .inr (.inr ⟨h1, h3, h⟩)
set_option maxRecDepth 100000 in
set_option maxHeartbeats 4000000 in
theorem take_any {w : World} {d : Hd} {S : Hp.Hs} {wide r : Nat} {W : List Int} (h : HAt w d S) (hn : 0 < wide) (hw : wide ≤ 1000) (hr : S.take wide = some (r, W)) :
    Calls Tryz.prog 157 #[.pointer (some ⟨d.hb, 0, none⟩), .int .i64 wide] w (Turned d w (.int .i64 r) { S with words := W }) := by
  unfold Hp.Hs.take at hr; have hle := h.le; have hcap := h.cap; have c2 := h.c2; have f2 := h.f2; have z1 := h.lt; have z2 := h.words.lt; have ap := h.apart1; have ap' := h.apart1.symm; have H := Lib.hid (Now.refl h); have HR := Lib.hid hr; have hl16 : 16 < S.words.length := by
   obtain ⟨n', a, _, ha, _⟩ := takeFrom_succ hr; exact rd_lt (ra_some ha)
  obtain ⟨x16, hx16⟩ : ∃ x, Hp.ra S.words 16 = some x := by
   obtain ⟨n', a, _, ha, _⟩ := takeFrom_succ hr; exact ⟨a, ha⟩
  have g16 := h.words.get (ra_some hx16); have X16 := Lib.hid hx16; clear h hr hx16; go_enter Tryz.func157, Tryz.ntmps157
  go_wp2_with fail
  go_step3
  go_wp2_with fail
  go_step3
  go_wp2_with fail
  go_loopg [5, 6] S.fuel (fun g l s wr => ∃ m link a : Nat, wr = w ∧ m ≤ g ∧ l = .int .i64 link ∧ s = .int .i64 a ∧ link < S.words.length ∧ Hid (Hp.ra S.words link = some a) ∧ Hid (Hp.Hs.takeFrom S.words wide m link = some (r, W)))
  case atStart => exact ⟨S.fuel, 16, x16, rfl, Nat.le_refl _, rfl, rfl, hl16, X16, HR⟩
  case round =>
   obtain ⟨m, link, a, rfl, hm, rfl, rfl, hlink, HA, HL⟩ := hrel; clear g16; obtain ⟨n', a1, hn', ha1, hq⟩ := takeFrom_succ HL.out; have e := HA.out; rw [ha1] at e
   cases e
   have Hn := Lib.hid hn'; clear hn' ha1
   rcases hq with ⟨rfl, rfl, rfl⟩ | ⟨ha, v, next, hv, hx, hq⟩
   · go_wp2_with fail
     go_returns; exact H.out.done
   · obtain ⟨hv, hv1, hv2⟩ := rc_some hv; have g1 := H.out.words.get hv; have g2 := H.out.words.get hx; have l1 := rd_lt hv; have l2 := rd_lt hx; have HX := Lib.hid hx; have ha' : ((a : Int) != 0) = true := by simpa using ha
     clear hv hx
     rcases hq with ⟨h0, rfl, W1, hW1, hW2⟩ | ⟨h0, h3, rfl, W1, W2, W3, W4, hW1, hW2, hW3, hW4, hW5⟩ | ⟨h0, h3, hq⟩
     · have hb := H.out.words.bound HX.out; have HB := Lib.hid hb; have t0 : ((v - (wide : Int)) == 0) = true := by simpa using h0
       have hz := (HAt.zero_len hW2).2; have e1 : S.words.length = W1.length := (HAt.wr_len hW1).1.symm; rw [← e1] at hz; have EW1 := Lib.hid hW1; have EW2 := Lib.hid hW2; clear h0 hW1 e1 hb hW2
       go_wp2_with fail
       clear c2 f2 g1 g2 z1 z2; refine wp_region_still_tail 13 (by kernel_rfl) (by kernel_rfl) ?_; change wpStill _ _ (World.drew wr) (fun a' => wpList _ _ _ _ a' (World.drew wr)) _ _; have ED : Ext wr (World.drew wr) := Ext.drew (Ext.refl _); have HD := Lib.hid (H.out.ext ED); generalize World.drew wr = wd at HD ED ⊢; have c2 := HD.out.c2; have c3 := HD.out.c3; have f2 := HD.out.f2; have z1 := HD.out.lt; have z2 := HD.out.words.lt; have g1 := HD.out.words.get HX.out; have fr := HD.out.words.froz link; have g0 := HD.out.words.get (ra_some HA.out); obtain ⟨i1, i2, i3, i4⟩ : IntKind.i64.wrap (((r : Nat) : Int) + 2) = ((r : Nat) : Int) + 2 ∧ (0 : Int) ≤ ((r : Nat) : Int) + 2 ∧ ((r : Nat) : Int) + 2 < ((S.words.length : Nat) : Int) ∧ (((r : Nat) : Int) + 2).toNat = r + 2 := ⟨IntWalk.i64_in _ (by omega), by omega, by omega, by omega⟩
       simp only [List.take_succ_cons, List.take_zero, List.drop_succ_cons, List.drop_zero]
       repeat still_step
       refine wpStill_nil ?_; clear i1 i2 i3 i4 g1; have H1 := Lib.hid (HD.out.set EW1.out HB.out.1 HB.out.2); have hcl := fun c ty => run_clear_words H1.out.toHAt EW2.out hn c ty
       go_wp2_with fail
       (try rw [Exit.noGoto_ret])
       go_returns; exact (H1.out.clear EW2.out).done
     · have hb := H.out.words.bound HX.out; have HB := Lib.hid hb; have t0 : ((v - (wide : Int)) == 0) = false := by simpa using h0
       have hz := (HAt.zero_len hW5).2; have b1 := HAt.wr_len hW1; have b2 := HAt.wr_len hW2; have b3 := HAt.wr_len hW3; have b4 := HAt.wr_len hW4; have q1 := b1.2; have q2 : r + wide + 1 < S.words.length := by have := b2.2; rw [b1.1] at this; exact this
       have q3 : r + wide + 2 < S.words.length := by have := b3.2; rw [b2.1, b1.1] at this; exact this
       rw [b4.1, b3.1, b2.1, b1.1] at hz; obtain ⟨y1, hy1⟩ := rd_get q1; obtain ⟨y2, hy2⟩ := rd_get q2; obtain ⟨y3, hy3⟩ := rd_get q3; have Y1 := Lib.hid hy1; have Y2 := Lib.hid hy2; have Y3 := Lib.hid hy3; clear hy1 hy2 hy3; have EW1 := Lib.hid hW1; have EW2 := Lib.hid hW2; have EW3 := Lib.hid hW3; have EW4 := Lib.hid hW4; have EW5 := Lib.hid hW5; clear h0 hW1 hb hW2 hW3 hW4 hW5 b1 b2 b3 b4
       go_wp2_with fail
       clear c2 f2 g1 g2 z1 z2; obtain ⟨i1, i2, i3, i4⟩ : IntKind.i64.wrap (((r : Nat) : Int) + 2) = ((r : Nat) : Int) + 2 ∧ (0 : Int) ≤ ((r : Nat) : Int) + 2 ∧ ((r : Nat) : Int) + 2 < ((S.words.length : Nat) : Int) ∧ (((r : Nat) : Int) + 2).toNat = r + 2 := ⟨IntWalk.i64_in _ (by omega), by omega, by omega, by omega⟩
       obtain ⟨k1, k2, k3, k4⟩ : IntKind.i64.wrap (((r : Nat) : Int) + ((wide : Nat) : Int)) = ((r : Nat) : Int) + ((wide : Nat) : Int) ∧ (0 : Int) ≤ ((r : Nat) : Int) + ((wide : Nat) : Int) ∧ ((r : Nat) : Int) + ((wide : Nat) : Int) < ((S.words.length : Nat) : Int) ∧ (((r : Nat) : Int) + ((wide : Nat) : Int)).toNat = r + wide := ⟨IntWalk.i64_in _ (by omega), by omega, by omega, by omega⟩
       obtain ⟨l1, l2, l3, l4⟩ : IntKind.i64.wrap (((r : Nat) : Int) + ((wide : Nat) : Int) + 1) = ((r : Nat) : Int) + ((wide : Nat) : Int) + 1 ∧ (0 : Int) ≤ ((r : Nat) : Int) + ((wide : Nat) : Int) + 1 ∧ ((r : Nat) : Int) + ((wide : Nat) : Int) + 1 < ((S.words.length : Nat) : Int) ∧ (((r : Nat) : Int) + ((wide : Nat) : Int) + 1).toNat = r + wide + 1 := ⟨IntWalk.i64_in _ (by omega), by omega, by omega, by omega⟩
       obtain ⟨m1, m2, m3, m4⟩ : IntKind.i64.wrap (((r : Nat) : Int) + ((wide : Nat) : Int) + 2) = ((r : Nat) : Int) + ((wide : Nat) : Int) + 2 ∧ (0 : Int) ≤ ((r : Nat) : Int) + ((wide : Nat) : Int) + 2 ∧ ((r : Nat) : Int) + ((wide : Nat) : Int) + 2 < ((S.words.length : Nat) : Int) ∧ (((r : Nat) : Int) + ((wide : Nat) : Int) + 2).toNat = r + wide + 2 := ⟨IntWalk.i64_in _ (by omega), by omega, by omega, by omega⟩
       have c2 := H.out.c2; have z1 := H.out.lt; have z2 := H.out.words.lt; have g1 := H.out.words.get HX.out; refine wp_region_any (by kernel_rfl) ?_; refine' tkA 9 rfl ?hy9_1 ?_
       case hy9_1 => (intro w; go_simp; try with_reducible rfl)
       refine layy ?_; refine' tkA 10 rfl ?hy10_2 ?_
       case hy10_2 => (intro w; go_simp; try with_reducible rfl)
       refine layy ?_; refine' tkA 15 rfl ?hy15_3 ?_
       case hy15_3 => (intro w; go_simp; try with_reducible rfl)
       refine layy ?_; refine' tkA 16 rfl ?hy16_4 ?_
       case hy16_4 => (intro w; go_simp; try with_reducible rfl)
       refine layy ?_; refine' tkA 17 rfl ?hy17_5 ?_
       case hy17_5 => (intro w; go_simp; try with_reducible rfl)
       refine layy ?_; have PR3 := Lib.hid (fun (ww : World) (hSw : Ext wr ww) => And.intro ((hSw.cell z1 2).trans c2) ((hSw.cell z2 (r + 2)).trans g1)); refine wpAny_to_X (S := fun W => Ext wr W) (R := Ext) 26 21 Ext.refl ?_ ?_ (by rfl)
       · exact Ext.drew exx
       refine' tkY 0 rfl ?h0_6 ?_
       case h0_6 => (intro w q; obtain ⟨c2', g1'⟩ := PR3.out w q; go_simp; try with_reducible rfl)
       refine layy ?_; refine' tkY 1 rfl ?h1_7 ?_
       case h1_7 => (intro w q; obtain ⟨c2', g1'⟩ := PR3.out w q; go_simp; try with_reducible rfl)
       refine layy ?_; refine' tkY 2 rfl ?h2_8 ?_
       case h2_8 => (intro w q; obtain ⟨c2', g1'⟩ := PR3.out w q; go_simp; try with_reducible rfl)
       refine layy ?_; refine' tkY 3 rfl ?h3_9 ?_
       case h3_9 => (intro w q; obtain ⟨c2', g1'⟩ := PR3.out w q; go_simp; try with_reducible rfl)
       refine layy ?_; refine' tkY 4 rfl ?h4_10 ?_
       case h4_10 => (intro w q; obtain ⟨c2', g1'⟩ := PR3.out w q; go_simp; try with_reducible rfl)
       refine layy ?_; refine' tkY 5 rfl ?h5_11 ?_
       case h5_11 => (intro w q; obtain ⟨c2', g1'⟩ := PR3.out w q; go_simp; try with_reducible rfl)
       refine layy ?_; refine' tkY 6 rfl ?h6_12 ?_
       case h6_12 => (intro w q; obtain ⟨c2', g1'⟩ := PR3.out w q; go_simp; try with_reducible rfl)
       refine layy ?_; refine' tkY 7 rfl ?h7_13 ?_
       case h7_13 => (intro w q; obtain ⟨c2', g1'⟩ := PR3.out w q; go_simp; try with_reducible rfl)
       refine layy ?_; refine' tkY 8 rfl ?h8_14 ?_
       case h8_14 => (intro w q; obtain ⟨c2', g1'⟩ := PR3.out w q; go_simp; try with_reducible rfl)
       refine layy ?_; refine' tkY 11 rfl ?h11_15 ?_
       case h11_15 => (intro w q; obtain ⟨c2', g1'⟩ := PR3.out w q; go_simp; try with_reducible rfl)
       refine layy ?_; refine' tkY 12 rfl ?h12_16 ?_
       case h12_16 => (intro w q; obtain ⟨c2', g1'⟩ := PR3.out w q; go_simp; try with_reducible rfl)
       refine layy ?_; refine' tkY 13 rfl ?h13_17 ?_
       case h13_17 => (intro w q; obtain ⟨c2', g1'⟩ := PR3.out w q; go_simp; try with_reducible rfl)
       refine layy ?_; refine' tkY 14 rfl ?h14_18 ?_
       case h14_18 => (intro w q; obtain ⟨c2', g1'⟩ := PR3.out w q; go_simp; try with_reducible rfl)
       refine layy ?_; refine' tkY 18 rfl ?h18_19 ?_
       case h18_19 => (intro w q; obtain ⟨c2', g1'⟩ := PR3.out w q; go_simp; try with_reducible rfl)
       refine layy ?_; refine' tkY 19 rfl ?h19_20 ?_
       case h19_20 => (intro w q; obtain ⟨c2', g1'⟩ := PR3.out w q; go_simp; try with_reducible rfl)
       refine layy ?_; refine' tkY 20 rfl ?h20_21 ?_
       case h20_21 => (intro w q; obtain ⟨c2', g1'⟩ := PR3.out w q; go_simp; try with_reducible rfl)
       refine layy ?_; refine' tkY 21 rfl ?h21_22 ?_
       case h21_22 => (intro w q; obtain ⟨c2', g1'⟩ := PR3.out w q; go_simp; try with_reducible rfl)
       refine layy ?_; refine' tkY 22 rfl ?h22_23 ?_
       case h22_23 => (intro w q; obtain ⟨c2', g1'⟩ := PR3.out w q; go_simp; try with_reducible rfl)
       refine layy ?_; refine' tkY 23 rfl ?h23_24 ?_
       case h23_24 => (intro w q; obtain ⟨c2', g1'⟩ := PR3.out w q; go_simp; try with_reducible rfl)
       refine layy ?_; refine' tkY 24 rfl ?h24_25 ?_
       case h24_25 => (intro w q; obtain ⟨c2', g1'⟩ := PR3.out w q; go_simp; try with_reducible rfl)
       refine layy ?_; refine' tkY 25 rfl ?h25_26 ?_
       case h25_26 => (intro w q; obtain ⟨c2', g1'⟩ := PR3.out w q; go_simp; try with_reducible rfl)
       refine layy ?_; refine wpAnyX_done (by kernel_rfl) ?_; intro wd _ Ewd; simp only [List.drop_succ_cons, List.drop_zero]; clear c2 z1 z2 g1; have HD := Lib.hid (H.out.ext Ewd); have c2 := HD.out.c2; have f2 := HD.out.f2; have z1 := HD.out.lt; have z2 := HD.out.words.lt; have fr := HD.out.words.froz link; have g0 := HD.out.words.get (ra_some HA.out); have g3 := HD.out.words.get Y1.out; have g4 := HD.out.words.get Y2.out; have g5 := HD.out.words.get Y3.out; have fr1 := HD.out.words.froz (r + wide); have fr2 := HD.out.words.froz (r + wide + 1); have fr3 := HD.out.words.froz (r + wide + 2); clear i1 i2 i3 i4 k1 k2 k3 k4 l1 l2 l3 l4 m1 m2 m3 m4; have H1 := Lib.hid (HD.out.set EW1.out (by omega) (by omega)); have H2 := Lib.hid (H1.out.set EW2.out (by omega) (by omega)); have H3 := Lib.hid (H2.out.set EW3.out HB.out.1 HB.out.2); go_upto_region 12 with (fail)
       refine Now.cut H3.out ?_; intro w3 N3; have H3 := Lib.hid N3; clear N3 fr fr1 fr2 fr3 g0 g3 g4 g5 c2 f2 z1 z2 H1 H2; have c2 := H3.out.c2; have f2 := H3.out.f2; have z1 := H3.out.lt; have z2 := H3.out.words.lt; have fr := H3.out.words.froz link; have e3 := (HAt.wr_len EW4.out).2; obtain ⟨y, hy⟩ := rd_get e3; have g := H3.out.words.get hy; have Y := Lib.hid hy; have H4 := Lib.hid (H3.out.set EW4.out (by omega) (by omega)); have hcl := fun c ty => run_clear_words H4.out.toHAt EW5.out hn c ty
       simp only [Int.natCast_add] at hcl H4; have E3 := Lib.hid e3; clear hy e3
       go_wp2_with fail
       go_returns; exact (H4.out.clear EW5.out).done
     · have t0 : ((v - (wide : Int)) == 0) = false := by simpa using h0
       have hz : a + 2 < S.words.length := l2; obtain ⟨_, a2, _, hra2, _⟩ := takeFrom_succ hq; obtain rfl : next = (a2 : Int) := by
        have h1 := HX.out; have h2 := ra_some hra2; rw [h2] at h1; exact (Option.some.inj h1).symm
       have g3 := H.out.words.get (ra_some hra2); have A2 := Lib.hid hra2; have HQ := Lib.hid hq; clear h0 hq hra2
       go_wp2_with fail
       go_roundg n'
       case measure => have := Hn.out; omega
       case rel => exact ⟨n', a + 2, a2, rfl, Nat.le_refl _, by go_num, rfl, hz, A2, HQ⟩
end Go.Proofs.YtdokmmhjmclmnaaGreat
