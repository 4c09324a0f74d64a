/-
  ValueReads: the walk.
-/
import Derived.Test.YtaddlhebhiehgaaDoorKnown2
import Derived.Test.YtaddlhebhiehgaaDoorLawCell
import Derived.Test.YtaddlhebhiehgaaDoorLawOrders
import Derived.Test.YtaddlhebhiehgaaDoorRegSeq
import Derived.Test.YtaddlhebhiehgaaDoorRef8
import Derived.Test.YtaddlhebhiehgaaDoorPick2
import Derived.Test.YtaddlhebhiehgaaDoorLawTexts
namespace Go.Proofs.YtaddlhebhiehgaaDoor.lawReads
open Go.RowKit Go.Shelf Go.Proofs.YtaddlhebhiehgaaDoor.lawOrders Go.Proofs.YtaddlhebhiehgaaDoor.lawCell

theorem own_cap {w : World} {base : Nat} {e : TypeId} {n g cap : Nat} {xs : List Value} (h : w.ownsRow base e 2 (.slice (some ⟨g, 0, none⟩) (0 + n) cap) (0 + n) xs) (_hn : 0 < n) : n ≤ cap ∧ cap ≤ 9223372036854775807 := by
  rcases h.2 with ⟨h1, -⟩ | ⟨g', cap', cur, h1, h2, h3, h4, h5, -⟩
  · cases h1
  · injection h1 with _ h6 h7
    subst h7
    unfold maxLen at h5
    omega
theorem infoS : (Tryd.prog.info? 9).map (fun i => (i.zero, i.size, i.bytes)) = some (some (.string ⟨#[]⟩), 1, 16) := by kernel_rfl
/-- The strings ts, as cells. -/
def strs (ts : List ByteArray) : List Value := ts.map .string
theorem strs_snoc (ts : List ByteArray) (k : Nat) (h : k < ts.length) (t : ByteArray) (ht : ts[k]! = t) : strs (ts.take (k + 1)) = strs (ts.take k) ++ [.string t] := by
  rw [getElem!_pos ts k h] at ht
  subst ht
  unfold strs
  rw [List.take_succ_eq_append_getElem h, List.map_append]
  rfl
theorem strs_len (ts : List ByteArray) (k : Nat) (h : k ≤ ts.length) : (strs (ts.take k)).length = k * 1 := by simp [strs, h]
theorem own_strs (W : World) (base b : Nat) (hb : base ≤ W.heap.size) (e : W.heap.size = b) (ts : List ByteArray) : (W.alloc (.cells #[] 9)).ownsRow base 9 1 (.slice (some ⟨b, 0, none⟩) 0 0) 0 (strs (ts.take 0)) := by
  subst e
  exact World.ownsRow_made W #[] 0 hb (by unfold maxLen; omega) rfl
theorem own_empty2 (W : World) (t : TypeId) (base b : Nat) (hb : base ≤ W.heap.size) (e : W.heap.size = b) : (W.alloc (.cells #[] t)).ownsRow base t 2 (.slice (some ⟨b, 0, none⟩) 0 0) 0 (cellsOf []) := by
  subst e
  exact own_empty W t base hb
theorem src1 {W : World} {b : Nat} {x : Value} (c0 : W.cell? ⟨b, 0, none⟩ = some x) : ∀ j v, [x][j]? = some v → W.cell? (Addr.add ⟨b, 0, none⟩ j) = some v := by
  intro j v hj
  rcases j with _ | j
  · simp only [List.getElem?_cons_zero, Option.some.injEq] at hj
    subst hj
    exact c0
  · simp at hj
theorem src1_new (W : World) (t : ByteArray) (T : TypeId) (b : Nat) (e : W.heap.size = b) : ∀ j v, [Value.string t][j]? = some v → (W.alloc (.cells #[.string t] T)).cell? (Addr.add ⟨b, 0, none⟩ j) = some v :=
  src1 (by subst e; simp [go_sem])
theorem one1 (t : ByteArray) : ∀ v ∈ [Value.string t], v.oneCell' = true := by
  intro v hv
  rw [List.mem_singleton] at hv
  subst hv
  rfl
theorem lies_one {W : World} {g : Nat} {f n : Int} (h : Lies W g 0 [(f, n)]) : W.cell? ⟨g, 0, none⟩ = some (.int .u8 f) ∧ W.cell? ⟨g, 1, none⟩ = some (.int .i64 n) := by
  have h0 := h.2 0 (by simp)
  exact ⟨by simpa using h0.2.1, by simpa using h0.2.2⟩
/-- A table of three times three bools, of which m are laid. -/
def Tab (B : Nat → Bool) (W : World) (g m : Nat) : Prop := g < W.heap.size ∧ ∀ j, j < 9 → W.cell? ⟨g, j, none⟩ = some (.bool (if j < m then B j else false)) ∧ W.frozen? ⟨g, j, none⟩ = false
theorem Tab.ext {B : Nat → Bool} {W W' : World} {g m : Nat} (h : Tab B W g m) (he : Ext W W') : Tab B W' g m :=
  ⟨Nat.lt_of_lt_of_le h.1 he.le, fun j hj => ⟨(he.cell h.1 j).trans (h.2 j hj).1, (he.frozen h.1 j).trans (h.2 j hj).2⟩⟩
theorem Tab.step {B : Nat → Bool} {W : World} {g m : Nat} (h : Tab B W g m) (hm : m < 9) (b : Bool) (hb : B m = b) : Tab B (W.setCell ⟨g, m, none⟩ (.bool b)) g (m + 1) := by
  refine ⟨by simpa using h.1, fun j hj => ⟨?_, by simpa [go_sem] using (h.2 j hj).2⟩⟩
  by_cases e : j = m
  · subst e
    rw [World.cell?_setCell_same' _ _ _ (by rw [(h.2 j hj).1]; rfl), if_pos (by omega), hb]
  · rw [World.cell?_setCell_other _ _ _ _ (by intro e2; injection e2 with _ e3; omega), (h.2 j hj).1]
    by_cases h1 : j < m
    · rw [if_pos h1, if_pos (by omega)]
    · rw [if_neg h1, if_neg (by omega)]

theorem tab0 (B : Nat → Bool) (W : World) (T : TypeId) (b : Nat) (e : W.heap.size = b) : Tab B (W.alloc (.cells #[.bool false, .bool false, .bool false, .bool false, .bool false, .bool false, .bool false, .bool false, .bool false] T)) b 0 := by
  subst e
  refine ⟨by simp, fun j hj => ?_⟩
  have h : j = 0 ∨ j = 1 ∨ j = 2 ∨ j = 3 ∨ j = 4 ∨ j = 5 ∨ j = 6 ∨ j = 7 ∨ j = 8 := by omega
  rcases h with rfl | rfl | rfl | rfl | rfl | rfl | rfl | rfl | rfl <;> exact ⟨by simp [go_sem], by simp [go_sem]⟩
theorem tab_cell {B : Nat → Bool} {W : World} {g : Nat} (h : Tab B W g (3 * 3)) (i k : Nat) (hi : i < 3) (hk : k < 3) : W.cell? ⟨g, i * 3 + k, none⟩ = some (.bool (B (i * 3 + k))) := by
  rw [(h.2 (i * 3 + k) (by omega)).1, if_pos (by omega)]
theorem text_cells {W : World} {base gt ct : Nat} {ts : List ByteArray} (hl : ts.length = 3) (ho : W.ownsRow base 9 1 (.slice (some ⟨gt, 0, none⟩) 3 ct) 3 (strs (ts.take 3))) : ∀ i, i < 3 → W.cell? ⟨gt, i, none⟩ = some (.string ts[i]!) := by
  intro i hi
  rw [List.take_of_length_le (by omega)] at ho
  have h := ho.cells (g := gt) rfl i (.string ts[i]!) (by rw [getElem!_pos ts i (by omega)]; simp [strs, hl, hi])
  rwa [add_off, Nat.zero_add] at h

set_option maxRecDepth 100000 in
set_option maxHeartbeats 40000000 in
theorem walk (x y z f0 n0 f1 n1 f2 n2 : Int) (B : Nat → Bool) (g0 : 0 ≤ f0) (g1 : 0 ≤ f1) (g2 : 0 ≤ f2) (w : World) (hg : Glob w)
    (HX : Hid (∀ w', Calls Tryd.prog 34 #[.int .i32 x] w' fun e w'' => e = .returned (.agg #[.int .u8 f0, .int .i64 n0]) ∧ Ext w' w''))
    (HY : Hid (∀ w', Calls Tryd.prog 34 #[.int .i32 y] w' fun e w'' => e = .returned (.agg #[.int .u8 f1, .int .i64 n1]) ∧ Ext w' w''))
    (HZ : Hid (∀ w', Calls Tryd.prog 34 #[.int .i32 z] w' fun e w'' => e = .returned (.agg #[.int .u8 f2, .int .i64 n2]) ∧ Ext w' w''))
    (zs : List (Int × Int)) (hzs : Hid (zs = [(f0, n0), (f1, n1), (f2, n2)])) (ts : List ByteArray) (hts : Hid (ts.length = 3))
    (HT : Hid (∀ i, i < 3 → ∀ w', Glob w' → Calls Tryd.prog 26 #[.agg #[.int .u8 (zs[i]!).1, .int .i64 (zs[i]!).2]] w' fun e w'' => e = .returned (.tuple #[.string ts[i]!, .int .i64 0]) ∧ Ext w' w''))
    (HR : Hid (∀ i, i < 3 → ∀ w', Glob w' → Calls Tryd.prog 28 #[.string ts[i]!] w' fun e w'' => e = .returned (.tuple #[.agg #[.int .u8 (zs[i]!).1, .int .i64 (zs[i]!).2], .int .i64 0]) ∧ Ext w' w''))
    (HP : Hid (∀ (i g c5 : Nat) (W : World), i < 3 → 3 ≤ c5 → c5 ≤ 9223372036854775807 → Lies W g 0 zs → Calls Tryd.prog 22 #[.slice (some ⟨g, 0, none⟩) 3 c5, .int .i64 1, .agg #[.int .u8 0, .int .i64 (i : Int)]] W fun e w' => ∃ g6 : Nat, e = .returned (.tuple #[.slice (some ⟨g6, 0, none⟩) 1 1, .int .i64 0]) ∧ W.heap.size ≤ g6 ∧ Lies w' g6 0 [zs[i]!] ∧ Ext W w'))
    (HL : Hid (∀ i k, i < 3 → k < 3 → ∀ w', Calls Tryd.prog 30 #[.agg #[.int .u8 (zs[i]!).1, .int .i64 (zs[i]!).2], .agg #[.int .u8 (zs[k]!).1, .int .i64 (zs[k]!).2]] w' fun e w'' => e = .returned (.tuple #[.bool (B (i * 3 + k)), .int .i64 0]) ∧ Ext w' w''))
    (PE : Hid (∀ i k, i < 3 → k < 3 → zs[i]! = zs[k]! → ts[i]! = ts[k]! ∧ B (i * 3 + k) = false))
    (PN : Hid (∀ i k, i < 3 → k < 3 → ¬ zs[i]! = zs[k]! → ¬ ts[i]! = ts[k]! ∧ B (i * 3 + k) = !B (k * 3 + i)))
    (PT : Hid (∀ i k j, i < 3 → k < 3 → j < 3 → B (i * 3 + k) = true → B (k * 3 + j) = true → B (i * 3 + j) = true)) :
    Calls Tryd.prog 12 #[.int .i32 x, .int .i32 y, .int .i32 z] w fun e w' => e = .returned (.bool true) ∧ Ext w w' := by
  go_enter Tryd.func12, Tryd.ntmps12
  go_upto_region 1 with fail
  go_cut [7] (fun s7 W => ∃ bl : Nat, s7 = .slice (some ⟨bl, 0, none⟩) 3 3 ∧ Lies W bl 0 zs ∧ Ext w W)
  case first =>
    clear HT HR HP HL PE PN PT
    go_wp2_with (first | (go_at_call 34; ((with_reducible refine (HX.out _).mono ?_)); rintro e w1 ⟨rfl, h1⟩) | (go_at_call 34; ((with_reducible refine (HY.out _).mono ?_)); rintro e w2 ⟨rfl, h2⟩) | (go_at_call 34; ((with_reducible refine (HZ.out _).mono ?_)); rintro e w3 ⟨rfl, h3⟩))
    go_meet
    refine ⟨_, rfl, ?_, (by repeat' (first | (with_reducible exact Ext.refl _) | (with_reducible assumption) | (with_reducible refine Ext.alloc ?_ _) | (with_reducible refine Ext.drew ?_) | (with_reducible refine Ext.drewN ?_ _) | (with_reducible refine Ext.setCell ?_ ?_ _) | (with_reducible refine Ext.trans ?_ (by assumption)) | go_size))⟩
    rw [hzs.out]
    exact lies3 _ _ f0 n0 f1 n1 f2 n2 g0 g1 g2 _ rfl
  case rest =>
    obtain ⟨bl, rfl, hl, E0⟩ := hcut
    clear HX HY HZ
    have hg := Lib.hid (hg.ext E0)
    replace E0 := Lib.hid E0
    have LI := Lib.hid (fun (W : World) (h : Ext wc W) => hl.below h)
    have zl := hl.1
    have hz3 : Hid (zs.length = 3) := Lib.hid (by rw [hzs.out]; rfl)
    have H0 := Lib.hid (fun j (hj : j < zs.length) => (hl.2 j hj).1)
    clear hl hzs
    obtain ⟨i0, hi, hz0, hz1, hz2⟩ := info_parts infoV
    obtain ⟨i1, si, si0, si1, si2⟩ := info_parts infoS
    go_wp2_with fail
    go_loopw [8, 9] (fun v s9 wr => ∃ kk : Nat, kk ≤ 3 ∧ s9 = .int .i64 kk ∧ Hid (Ext wc wr) ∧ Hid (wr.ownsRow wc.heap.size 9 1 v kk (strs (ts.take kk)))) (fun _ s9 _ => 3 - (intOf s9).toNat)
    case atStart => exact ⟨0, by omega, rfl, Lib.hid (by repeat' (first | (with_reducible exact Ext.refl _) | (with_reducible assumption) | (with_reducible refine Ext.alloc ?_ _) | (with_reducible refine Ext.drew ?_) | (with_reducible refine Ext.drewN ?_ _) | (with_reducible refine Ext.setCell ?_ ?_ _) | (with_reducible refine Ext.trans ?_ (by assumption)) | go_size)), Lib.hid (own_strs wc wc.heap.size _ (Nat.le_refl _) rfl ts)⟩
    case round =>
      obtain ⟨kk, hkk, rfl, E, HO⟩ := hrel
      by_cases hlt : kk < 3
      · obtain ⟨q0, q1, q2⟩ := (LI.out wr E.out).2 kk (by rw [hz3.out]; exact hlt)
        have HTi := fun w' h => HT.out kk hlt w' h
        have HRi := fun w' h => HR.out kk hlt w' h
        have HPi := fun g c5 W h1 h2 h3 => HP.out kk g c5 W hlt h1 h2 h3
        have LIi := fun (W : World) (h : Ext wc W) => (LI.out W h).2 kk (by rw [hz3.out]; exact hlt)
        have tk : ∃ t, ts[kk]! = t := ⟨_, rfl⟩
        obtain ⟨t, htk⟩ := tk
        rw [htk] at HTi HRi
        have HTK := Lib.hid htk
        clear htk
        simp only [Nat.zero_add] at q1 q2 LIi
        generalize zs[kk]! = zk at q0 q1 q2 HTi HRi HPi LIi
        obtain ⟨f, n⟩ := zk
        simp only at q0 q1 q2 HTi HRi LIi
        replace HTi := Lib.hid HTi
        replace HRi := Lib.hid HRi
        replace HPi := Lib.hid HPi
        replace LIi := Lib.hid LIi
        clear HT HR HP HL PE PN PT
        have hk3 : (kk : Int) < 3 := by omega
        go_wp2_with (first | (go_at_call 26; refine (HTi.out _ (hg.out.ext (Ext.trans E.out (by repeat' (first | (with_reducible exact Ext.refl _) | (with_reducible assumption) | (with_reducible refine Ext.alloc ?_ _) | (with_reducible refine Ext.drew ?_) | (with_reducible refine Ext.drewN ?_ _) | (with_reducible refine Ext.setCell ?_ ?_ _) | (with_reducible refine Ext.trans ?_ (by assumption)) | go_size))))).mono ?_; rintro e x1 ⟨rfl, y1⟩; (clear q0 q1 q2); obtain ⟨q0, q1, q2⟩ := LIi.out x1 (Ext.trans E.out (by repeat' (first | (with_reducible exact Ext.refl _) | (with_reducible assumption) | (with_reducible refine Ext.alloc ?_ _) | (with_reducible refine Ext.drew ?_) | (with_reducible refine Ext.drewN ?_ _) | (with_reducible refine Ext.setCell ?_ ?_ _) | (with_reducible refine Ext.trans ?_ (by assumption)) | go_size)))) | (go_at_call 28; refine (HRi.out _ (hg.out.ext (Ext.trans E.out (by repeat' (first | (with_reducible exact Ext.refl _) | (with_reducible assumption) | (with_reducible refine Ext.alloc ?_ _) | (with_reducible refine Ext.drew ?_) | (with_reducible refine Ext.drewN ?_ _) | (with_reducible refine Ext.setCell ?_ ?_ _) | (with_reducible refine Ext.trans ?_ (by assumption)) | go_size))))).mono ?_; rintro e x2 ⟨rfl, y2⟩; (clear q0 q1 q2); obtain ⟨q0, q1, q2⟩ := LIi.out x2 (Ext.trans E.out (by repeat' (first | (with_reducible exact Ext.refl _) | (with_reducible assumption) | (with_reducible refine Ext.alloc ?_ _) | (with_reducible refine Ext.drew ?_) | (with_reducible refine Ext.drewN ?_ _) | (with_reducible refine Ext.setCell ?_ ?_ _) | (with_reducible refine Ext.trans ?_ (by assumption)) | go_size))); have KB := Lib.hid (fun (W : World) (h : Ext (x2.alloc (.cells #[.int .u8 f, .int .i64 n] 23)) W) => cells_one h); have EB : Ext wc (x2.alloc (.cells #[.int .u8 f, .int .i64 n] 23)) := Ext.trans E.out (by repeat' (first | (with_reducible exact Ext.refl _) | (with_reducible assumption) | (with_reducible refine Ext.alloc ?_ _) | (with_reducible refine Ext.drew ?_) | (with_reducible refine Ext.drewN ?_ _) | (with_reducible refine Ext.setCell ?_ ?_ _) | (with_reducible refine Ext.trans ?_ (by assumption)) | go_size))) | (at_builtin; refine wpList_append_lies _ rfl _ _ 33 rfl wc.heap.size 23 i0 (.agg #[.int .u8 0, .int .i64 0]) 2 16 Tryd.underlying33 hi hz0 hz1 hz2 rfl (by decide) _ 0 _ rfl (own_empty2 _ 23 wc.heap.size _ EB.le (by simp)) ⟨bl, 0, none⟩ 3 3 (cellsOf zs) rfl (by rw [cellsOf_length, hz3.out]) (news_of_lies (LI.out _ (EB.alloc _))) (cellsOf_one zs) (by omega) (by unfold maxLen; omega) (by omega) (EB.alloc _).le _ rfl ?_; intro g c5 x5 hown hgrow _ _; have hcap := own_cap hown (by omega); have y5 := Ext.grown (show Ext (x2.alloc (.cells #[.int .u8 f, .int .i64 n] 23)) _ from (Ext.refl _).alloc _) hgrow (fun r hr => own_block hr (by simp)); have HG := Lib.hid (lies_of_own (by simpa [cellsOf] using hown) H0.out); (clear hown hgrow)) | (go_at_call 16; refine (num_any _ _).mono ?_; rintro e x6 ⟨rfl, y6⟩) | (go_at_call 22; refine (HPi.out _ _ _ hcap.1 hcap.2 (HG.out.below y6)).mono ?_; rintro e x7 ⟨g7, rfl, hg7, hl7, y7⟩; have HL7 := Lib.hid hl7; clear hl7))
        clear q0 q1 q2
        obtain ⟨o0, o1⟩ := KB.out x7 (Ext.trans y5 (Ext.trans y6 y7))
        obtain ⟨p0, p1⟩ := lies_one HL7.out
        have X7 : Ext wr x7 := Ext.trans (show Ext wr (x2.alloc (.cells #[.int .u8 f, .int .i64 n] 23)) from ((Ext.trans (Ext.trans (Ext.refl _) y1) y2)).alloc _) (Ext.trans y5 (Ext.trans y6 y7))
        obtain ⟨q0, q1, q2⟩ := LIi.out x7 (Ext.trans E.out X7)
        have zz := cell_lt q1
        clear y1 y2 y5 y6 y7 KB EB HL7
        go_quiet (fail)
        clear o0 o1 p0 p1 q0 q1 q2
        go_wp2_with (at_builtin; refine wpList_append_lies _ rfl _ _ 69 rfl wc.heap.size 9 i1 (.string ⟨#[]⟩) 1 16 Tryd.underlying69 si si0 si1 si2 rfl (by decide) u8 kk (strs (ts.take kk)) rfl (HO.out.ext_alloc (Ext.trans X7 (by repeat' (first | (with_reducible exact Ext.refl _) | (with_reducible assumption) | (with_reducible refine Ext.alloc ?_ _) | (with_reducible refine Ext.drew ?_) | (with_reducible refine Ext.drewN ?_ _) | (with_reducible refine Ext.setCell ?_ ?_ _) | (with_reducible refine Ext.trans ?_ (by assumption)) | go_size)))) ⟨_, 0, none⟩ 1 1 [.string t] rfl rfl (src1_new _ _ _ _ rfl) (one1 _) (by omega) (by unfold maxLen; omega) (by omega) (Ext.le (Ext.trans E.out (Ext.trans X7 (by repeat' (first | (with_reducible exact Ext.refl _) | (with_reducible assumption) | (with_reducible refine Ext.alloc ?_ _) | (with_reducible refine Ext.drew ?_) | (with_reducible refine Ext.drewN ?_ _) | (with_reducible refine Ext.setCell ?_ ?_ _) | (with_reducible refine Ext.trans ?_ (by assumption)) | go_size))))) _ rfl ?_; intro g8 c8 x8 hown hgrow _ _; have y8 := Lib.hid (Ext.grown (Ext.trans E.out (Ext.trans X7 (by repeat' (first | (with_reducible exact Ext.refl _) | (with_reducible assumption) | (with_reducible refine Ext.alloc ?_ _) | (with_reducible refine Ext.drew ?_) | (with_reducible refine Ext.drewN ?_ _) | (with_reducible refine Ext.setCell ?_ ?_ _) | (with_reducible refine Ext.trans ?_ (by assumption)) | go_size)))) hgrow (fun r hr => (HO.out.lt r hr).1)); have HN := Lib.hid hown; clear hown hgrow)
        go_roundw
        case measure => simp [intOf]; omega
        case rel =>
          refine ⟨kk + 1, by omega, by go_num, y8, Lib.hid ?_⟩
          rw [strs_snoc ts kk (by rw [hts.out]; exact hlt) t HTK.out]
          exact HN.out
      · obtain rfl : kk = 3 := by omega
        obtain ⟨wo, rfl⟩ : ∃ wo : World, wo = wr := ⟨_, rfl⟩
        have ho := HO.out
        obtain ⟨gt, ct, rfl, hgt, hgl⟩ := ho.form (by omega)
        have TC := Lib.hid (fun (W : World) (h : Ext wo W) i (hi : i < 3) => (h.cell hgl i).trans (text_cells hts.out ho i hi))
        have LO := Lib.hid (fun (W : World) (h : Ext wo W) i (hi : i < 3) => (LI.out W (Ext.trans E.out h)).2 i (by rw [hz3.out]; exact hi))
        have hg := Lib.hid (hg.out.ext E.out)
        have E1 := Lib.hid (Ext.trans E0.out E.out)
        have zl2 : bl < wo.heap.size := Nat.lt_of_lt_of_le zl E.out.le
        clear ho HO HT HR HP hgt LI E E0 hi hz0 hz1 hz2 si si0 si1 si2 zl H0
        have T0 := Lib.hid (tab0 B wo 71 wo.heap.size rfl)
        go_wp2_with fail
        go_loopw [17] (fun s17 wr => ∃ i : Nat, i ≤ 3 ∧ s17 = .int .i64 i ∧ Hid (Ext wo wr) ∧ Hid (Tab B wr wo.heap.size (i * 3))) (fun s17 _ => 3 - (intOf s17).toNat)
        case atStart => exact ⟨0, by omega, rfl, Lib.hid (by repeat' (first | (with_reducible exact Ext.refl _) | (with_reducible assumption) | (with_reducible refine Ext.alloc ?_ _) | (with_reducible refine Ext.drew ?_) | (with_reducible refine Ext.drewN ?_ _) | (with_reducible refine Ext.setCell ?_ ?_ _) | (with_reducible refine Ext.trans ?_ (by assumption)) | go_size)), T0⟩
        case round =>
          obtain ⟨i, hi, rfl, E2, TB⟩ := hrel
          clear T0
          obtain ⟨wi, rfl⟩ : ∃ wi : World, wi = wr := ⟨_, rfl⟩
          by_cases h3 : i < 3
          · have hi3 : (i : Int) < 3 := by omega
            go_wp2_with fail
            go_loopw [18, 19, 20] (fun s18 _ _ wr => ∃ k : Nat, k ≤ 3 ∧ s18 = .int .i64 k ∧ Hid (Ext wo wr) ∧ Hid (Tab B wr wo.heap.size (i * 3 + k))) (fun s18 _ _ _ => 3 - (intOf s18).toNat)
            case atStart => exact ⟨0, by omega, rfl, E2, TB⟩
            case round =>
              obtain ⟨k, hk, rfl, E3, TB3⟩ := hrel
              clear TB E2
              by_cases h4 : k < 3
              · have hk3 : (k : Int) < 3 := by omega
                have PEi := fun h => PE.out i k h3 h4 h
                have PNi := fun h => PN.out i k h3 h4 h
                have HLi := fun w' => HL.out i k h3 h4 w'
                have LOi := fun (W : World) (h : Ext wo W) => LO.out W h i h3
                have LOk := fun (W : World) (h : Ext wo W) => LO.out W h k h4
                have TCi := fun (W : World) (h : Ext wo W) => TC.out W h i h3
                have TCk := fun (W : World) (h : Ext wo W) => TC.out W h k h4
                simp only [Nat.zero_add] at LOi LOk
                obtain ⟨tb, tf⟩ := TB3.out.2 (i * 3 + k) (by omega)
                rw [if_neg (by omega)] at tb
                have zt := TB3.out.1
                obtain ⟨b, hb⟩ : ∃ b, B (i * 3 + k) = b := ⟨_, rfl⟩
                rw [hb] at HLi PEi PNi
                have HB := Lib.hid hb
                clear hb
                generalize zs[i]! = zi at PEi PNi HLi LOi
                generalize zs[k]! = zk at PEi PNi HLi LOk
                generalize ts[i]! = ti at PEi PNi TCi
                generalize ts[k]! = tk at PEi PNi TCk
                have TBB := Lib.hid TB3.out
                clear TB3
                by_cases he : zi = zk
                · obtain ⟨rfl, rfl⟩ := PEi he
                  subst he
                  obtain ⟨fi, ni⟩ := zi
                  simp only at HLi LOi LOk
                  replace HLi := Lib.hid HLi
                  replace LOi := Lib.hid LOi
                  replace LOk := Lib.hid LOk
                  replace TCi := Lib.hid TCi
                  replace TCk := Lib.hid TCk
                  clear PEi PNi
                  go_wp2_with fail
                  refine wp_region_seq (S := fun W => Ext wr W) (R := Ext) (by kernel_rfl) Ext.refl ?_ ?_
                  · exact (by repeat' (first | (with_reducible exact Ext.refl _) | (with_reducible assumption) | (with_reducible refine Ext.alloc ?_ _) | (with_reducible refine Ext.drew ?_) | (with_reducible refine Ext.drewN ?_ _) | (with_reducible refine Ext.setCell ?_ ?_ _) | (with_reducible refine Ext.trans ?_ (by assumption)) | go_size))
                  refine' wpAnyR_take (i := 0) (v := ?v0_1) Ext.refl (fun _ _ _ => Ext.trans) rfl (by kernel_rfl) (by kernel_rfl) (by kernel_rfl) (fun _ _ _ h => h) (Or.inl (Or.inl ⟨by rfl, ?hy0_1⟩)) ?rest0_1
                  case hy0_1 => (intro w hSw; (obtain ⟨-, a1, a2⟩ := LOi.out w (Ext.trans E3.out hSw); obtain ⟨-, c1, c2⟩ := LOk.out w (Ext.trans E3.out hSw)); go_simp; (try with_reducible rfl))
                  (try simp only [List.getElem_toArray, List.getElem_cons_zero, Act.put, List.setIfInBounds_toArray, List.set_cons_zero, List.set_cons_succ])
                  refine' wpAnyR_take (i := 1) (v := ?v1_2) Ext.refl (fun _ _ _ => Ext.trans) rfl (by kernel_rfl) (by kernel_rfl) (by kernel_rfl) (fun _ _ _ h => h) (Or.inl (Or.inl ⟨by rfl, ?hy1_2⟩)) ?rest1_2
                  case hy1_2 => (intro w hSw; (obtain ⟨-, a1, a2⟩ := LOi.out w (Ext.trans E3.out hSw); obtain ⟨-, c1, c2⟩ := LOk.out w (Ext.trans E3.out hSw)); go_simp; (try with_reducible rfl))
                  (try simp only [List.getElem_toArray, List.getElem_cons_zero, List.getElem_cons_succ, Act.put, List.setIfInBounds_toArray, List.set_cons_zero, List.set_cons_succ])
                  refine' wpAnyR_take (i := 2) (v := ?v2_3) Ext.refl (fun _ _ _ => Ext.trans) rfl (by kernel_rfl) (by kernel_rfl) (by kernel_rfl) (fun _ _ _ h => h) (Or.inl (Or.inl ⟨by rfl, ?hy2_3⟩)) ?rest2_3
                  case hy2_3 => (intro w hSw; (obtain ⟨-, a1, a2⟩ := LOi.out w (Ext.trans E3.out hSw); obtain ⟨-, c1, c2⟩ := LOk.out w (Ext.trans E3.out hSw)); go_simp; (try with_reducible rfl))
                  (try simp only [List.getElem_toArray, List.getElem_cons_zero, List.getElem_cons_succ, Act.put, List.setIfInBounds_toArray, List.set_cons_zero, List.set_cons_succ])
                  refine' wpAnyR_take (i := 3) (v := ?v3_4) Ext.refl (fun _ _ _ => Ext.trans) rfl (by kernel_rfl) (by kernel_rfl) (by kernel_rfl) (fun _ _ _ h => h) (Or.inl (Or.inl ⟨by rfl, ?hy3_4⟩)) ?rest3_4
                  case hy3_4 => (intro w hSw; (obtain ⟨-, a1, a2⟩ := LOi.out w (Ext.trans E3.out hSw); obtain ⟨-, c1, c2⟩ := LOk.out w (Ext.trans E3.out hSw)); go_simp; (try with_reducible rfl))
                  (try simp only [List.getElem_toArray, List.getElem_cons_zero, List.getElem_cons_succ, Act.put, List.setIfInBounds_toArray, List.set_cons_zero, List.set_cons_succ])
                  refine' wpAnyR_take (i := 4) (v := ?v4_5) Ext.refl (fun _ _ _ => Ext.trans) rfl (by kernel_rfl) (by kernel_rfl) (by kernel_rfl) (fun _ _ _ h => h) (Or.inl (Or.inl ⟨by rfl, ?hy4_5⟩)) ?rest4_5
                  case hy4_5 => (intro w hSw; (obtain ⟨-, a1, a2⟩ := LOi.out w (Ext.trans E3.out hSw); obtain ⟨-, c1, c2⟩ := LOk.out w (Ext.trans E3.out hSw)); go_simp; (try with_reducible rfl))
                  (try simp only [List.getElem_toArray, List.getElem_cons_zero, List.getElem_cons_succ, Act.put, List.setIfInBounds_toArray, List.set_cons_zero, List.set_cons_succ])
                  refine' wpAnyR_take (i := 5) (v := ?v5_6) Ext.refl (fun _ _ _ => Ext.trans) rfl (by kernel_rfl) (by kernel_rfl) (by kernel_rfl) (fun _ _ _ h => h) (Or.inl (Or.inl ⟨by rfl, ?hy5_6⟩)) ?rest5_6
                  case hy5_6 => (intro w hSw; (obtain ⟨-, a1, a2⟩ := LOi.out w (Ext.trans E3.out hSw); obtain ⟨-, c1, c2⟩ := LOk.out w (Ext.trans E3.out hSw)); go_simp; (try with_reducible rfl))
                  (try simp only [List.getElem_toArray, List.getElem_cons_zero, List.getElem_cons_succ, Act.put, List.setIfInBounds_toArray, List.set_cons_zero, List.set_cons_succ])
                  refine' wpAnyR_take (i := 6) (v := ?v6_7) Ext.refl (fun _ _ _ => Ext.trans) rfl (by kernel_rfl) (by kernel_rfl) (by kernel_rfl) (fun _ _ _ h => h) (Or.inl (Or.inl ⟨by rfl, ?hy6_7⟩)) ?rest6_7
                  case hy6_7 => (intro w hSw; (obtain ⟨-, a1, a2⟩ := LOi.out w (Ext.trans E3.out hSw); obtain ⟨-, c1, c2⟩ := LOk.out w (Ext.trans E3.out hSw)); go_simp; (try with_reducible rfl))
                  (try simp only [List.getElem_toArray, List.getElem_cons_zero, List.getElem_cons_succ, Act.put, List.setIfInBounds_toArray, List.set_cons_zero, List.set_cons_succ])
                  refine' wpAnyR_take (i := 7) (v := ?v7_8) Ext.refl (fun _ _ _ => Ext.trans) rfl (by kernel_rfl) (by kernel_rfl) (by kernel_rfl) (fun _ _ _ h => h) (Or.inl (Or.inl ⟨by rfl, ?hy7_8⟩)) ?rest7_8
                  case hy7_8 => (intro w hSw; (obtain ⟨-, a1, a2⟩ := LOi.out w (Ext.trans E3.out hSw); obtain ⟨-, c1, c2⟩ := LOk.out w (Ext.trans E3.out hSw)); go_simp; (try with_reducible rfl))
                  (try simp only [List.getElem_toArray, List.getElem_cons_zero, List.getElem_cons_succ, Act.put, List.setIfInBounds_toArray, List.set_cons_zero, List.set_cons_succ])
                  refine' wpAnyR_take (i := 8) (v := .tuple #[.bool false, .int .i64 0]) Ext.refl (fun _ _ _ => Ext.trans) rfl (by kernel_rfl) (by kernel_rfl) (by kernel_rfl) (fun _ _ _ h => h) (Or.inr ⟨by rfl, 30, _, ?hx8_9, ?hy8_9⟩) ?rest8_9
                  case hx8_9 => (intro w hSw; go_simp; (try with_reducible rfl))
                  case hy8_9 => exact fun w hE => (HLi.out _).mono (fun _ _ h => ⟨h.1, h.2, Ext.trans hE h.2⟩)
                  (try simp only [List.getElem_toArray, List.getElem_cons_zero, List.getElem_cons_succ, Act.put, List.setIfInBounds_toArray, List.set_cons_zero, List.set_cons_succ])
                  refine' wpAnyR_take (i := 9) (v := ?v9_10) Ext.refl (fun _ _ _ => Ext.trans) rfl (by kernel_rfl) (by kernel_rfl) (by kernel_rfl) (fun _ _ _ h => h) (Or.inl (Or.inl ⟨by rfl, ?hy9_10⟩)) ?rest9_10
                  case hy9_10 => (intro w hSw; (obtain ⟨-, a1, a2⟩ := LOi.out w (Ext.trans E3.out hSw); obtain ⟨-, c1, c2⟩ := LOk.out w (Ext.trans E3.out hSw)); go_simp; (try with_reducible rfl))
                  (try simp only [List.getElem_toArray, List.getElem_cons_zero, List.getElem_cons_succ, Act.put, List.setIfInBounds_toArray, List.set_cons_zero, List.set_cons_succ])
                  refine' wpAnyR_take (i := 10) (v := ?v10_11) Ext.refl (fun _ _ _ => Ext.trans) rfl (by kernel_rfl) (by kernel_rfl) (by kernel_rfl) (fun _ _ _ h => h) (Or.inl (Or.inl ⟨by rfl, ?hy10_11⟩)) ?rest10_11
                  case hy10_11 => (intro w hSw; (obtain ⟨-, a1, a2⟩ := LOi.out w (Ext.trans E3.out hSw); obtain ⟨-, c1, c2⟩ := LOk.out w (Ext.trans E3.out hSw)); go_simp; (try with_reducible rfl))
                  (try simp only [List.getElem_toArray, List.getElem_cons_zero, List.getElem_cons_succ, Act.put, List.setIfInBounds_toArray, List.set_cons_zero, List.set_cons_succ])
                  refine' wpAnyR_take (i := 11) (v := ?v11_12) Ext.refl (fun _ _ _ => Ext.trans) rfl (by kernel_rfl) (by kernel_rfl) (by kernel_rfl) (fun _ _ _ h => h) (Or.inl (Or.inl ⟨by rfl, ?hy11_12⟩)) ?rest11_12
                  case hy11_12 => (intro w hSw; (obtain ⟨-, a1, a2⟩ := LOi.out w (Ext.trans E3.out hSw); obtain ⟨-, c1, c2⟩ := LOk.out w (Ext.trans E3.out hSw)); go_simp; (try with_reducible rfl))
                  (try simp only [List.getElem_toArray, List.getElem_cons_zero, List.getElem_cons_succ, Act.put, List.setIfInBounds_toArray, List.set_cons_zero, List.set_cons_succ])
                  refine' wpAnyR_take (i := 12) (v := ?v12_13) Ext.refl (fun _ _ _ => Ext.trans) rfl (by kernel_rfl) (by kernel_rfl) (by kernel_rfl) (fun _ _ _ h => h) (Or.inl (Or.inl ⟨by rfl, ?hy12_13⟩)) ?rest12_13
                  case hy12_13 => (intro w hSw; (obtain ⟨-, a1, a2⟩ := LOi.out w (Ext.trans E3.out hSw); obtain ⟨-, c1, c2⟩ := LOk.out w (Ext.trans E3.out hSw)); go_simp; (try with_reducible rfl))
                  (try simp only [List.getElem_toArray, List.getElem_cons_zero, List.getElem_cons_succ, Act.put, List.setIfInBounds_toArray, List.set_cons_zero, List.set_cons_succ])
                  refine' wpAnyR_take (i := 13) (v := ?v13_14) Ext.refl (fun _ _ _ => Ext.trans) rfl (by kernel_rfl) (by kernel_rfl) (by kernel_rfl) (fun _ _ _ h => h) (Or.inl (Or.inl ⟨by rfl, ?hy13_14⟩)) ?rest13_14
                  case hy13_14 => (intro w hSw; (obtain ⟨-, a1, a2⟩ := LOi.out w (Ext.trans E3.out hSw); obtain ⟨-, c1, c2⟩ := LOk.out w (Ext.trans E3.out hSw)); go_simp; (try with_reducible rfl))
                  (try simp only [List.getElem_toArray, List.getElem_cons_zero, List.getElem_cons_succ, Act.put, List.setIfInBounds_toArray, List.set_cons_zero, List.set_cons_succ])
                  refine wpAnyR_done (by kernel_rfl) ?_ _
                  intro x3 _ Ex3
                  have X3 := Ext.trans E3.out Ex3
                  obtain ⟨-, a1, a2⟩ := LOi.out x3 X3
                  obtain ⟨-, c1, c2⟩ := LOk.out x3 X3
                  have s1 := TCi.out x3 X3
                  have s2 := TCk.out x3 X3
                  have u1 := (Ex3.cell zt (i * 3 + k)).trans tb
                  have u2 := (Ex3.frozen zt (i * 3 + k)).trans tf
                  have zx := cell_lt a1
                  have zy := cell_lt u1
                  clear tb tf zt
                  go_wp2_with fail
                  go_quiet (fail)
                  go_wp2_with fail
                  go_roundw
                  case measure => simp [intOf]; omega
                  case rel =>
                    refine ⟨k + 1, by omega, by go_num, Lib.hid (Ext.setCell (Ext.drewN X3 _) (Nat.le_refl _) _), Lib.hid ?_⟩
                    exact ((TBB.out.ext Ex3).ext (Ext.drewN (Ext.refl _) _)).step (by omega) _ HB.out
                · obtain ⟨hne, -⟩ := PNi he
                  obtain ⟨fi, ni⟩ := zi
                  obtain ⟨fk, nk⟩ := zk
                  simp only at HLi LOi LOk
                  replace HLi := Lib.hid HLi
                  replace LOi := Lib.hid LOi
                  replace LOk := Lib.hid LOk
                  replace TCi := Lib.hid TCi
                  replace TCk := Lib.hid TCk
                  have hts2 : (ti.toList == tk.toList) = false := beq_eq_false_iff_ne.2 (fun e => hne (by rw [ByteArray.toList_eq, ByteArray.toList_eq] at e; exact ByteArray.ext (Array.toList_inj.1 e)))
                  clear PEi PNi hne
                  by_cases hf : fi = fk
                  · have hn : ni ≠ nk := fun e => he (by rw [hf, e])
                    subst hf
                    clear he
                    go_wp2_with fail
                    refine wp_region_seq (S := fun W => Ext wr W) (R := Ext) (by kernel_rfl) Ext.refl ?_ ?_
                    · exact (by repeat' (first | (with_reducible exact Ext.refl _) | (with_reducible assumption) | (with_reducible refine Ext.alloc ?_ _) | (with_reducible refine Ext.drew ?_) | (with_reducible refine Ext.drewN ?_ _) | (with_reducible refine Ext.setCell ?_ ?_ _) | (with_reducible refine Ext.trans ?_ (by assumption)) | go_size))
                    refine' wpAnyR_take (i := 0) (v := ?v0_15) Ext.refl (fun _ _ _ => Ext.trans) rfl (by kernel_rfl) (by kernel_rfl) (by kernel_rfl) (fun _ _ _ h => h) (Or.inl (Or.inl ⟨by rfl, ?hy0_15⟩)) ?rest0_15
                    case hy0_15 => (intro w hSw; (obtain ⟨-, a1, a2⟩ := LOi.out w (Ext.trans E3.out hSw); obtain ⟨-, c1, c2⟩ := LOk.out w (Ext.trans E3.out hSw)); go_simp; (try with_reducible rfl))
                    (try simp only [List.getElem_toArray, List.getElem_cons_zero, Act.put, List.setIfInBounds_toArray, List.set_cons_zero, List.set_cons_succ])
                    refine' wpAnyR_take (i := 1) (v := ?v1_16) Ext.refl (fun _ _ _ => Ext.trans) rfl (by kernel_rfl) (by kernel_rfl) (by kernel_rfl) (fun _ _ _ h => h) (Or.inl (Or.inl ⟨by rfl, ?hy1_16⟩)) ?rest1_16
                    case hy1_16 => (intro w hSw; (obtain ⟨-, a1, a2⟩ := LOi.out w (Ext.trans E3.out hSw); obtain ⟨-, c1, c2⟩ := LOk.out w (Ext.trans E3.out hSw)); go_simp; (try with_reducible rfl))
                    (try simp only [List.getElem_toArray, List.getElem_cons_zero, List.getElem_cons_succ, Act.put, List.setIfInBounds_toArray, List.set_cons_zero, List.set_cons_succ])
                    refine' wpAnyR_take (i := 2) (v := ?v2_17) Ext.refl (fun _ _ _ => Ext.trans) rfl (by kernel_rfl) (by kernel_rfl) (by kernel_rfl) (fun _ _ _ h => h) (Or.inl (Or.inl ⟨by rfl, ?hy2_17⟩)) ?rest2_17
                    case hy2_17 => (intro w hSw; (obtain ⟨-, a1, a2⟩ := LOi.out w (Ext.trans E3.out hSw); obtain ⟨-, c1, c2⟩ := LOk.out w (Ext.trans E3.out hSw)); go_simp; (try with_reducible rfl))
                    (try simp only [List.getElem_toArray, List.getElem_cons_zero, List.getElem_cons_succ, Act.put, List.setIfInBounds_toArray, List.set_cons_zero, List.set_cons_succ])
                    refine' wpAnyR_take (i := 3) (v := ?v3_18) Ext.refl (fun _ _ _ => Ext.trans) rfl (by kernel_rfl) (by kernel_rfl) (by kernel_rfl) (fun _ _ _ h => h) (Or.inl (Or.inl ⟨by rfl, ?hy3_18⟩)) ?rest3_18
                    case hy3_18 => (intro w hSw; (obtain ⟨-, a1, a2⟩ := LOi.out w (Ext.trans E3.out hSw); obtain ⟨-, c1, c2⟩ := LOk.out w (Ext.trans E3.out hSw)); go_simp; (try with_reducible rfl))
                    (try simp only [List.getElem_toArray, List.getElem_cons_zero, List.getElem_cons_succ, Act.put, List.setIfInBounds_toArray, List.set_cons_zero, List.set_cons_succ])
                    refine' wpAnyR_take (i := 4) (v := ?v4_19) Ext.refl (fun _ _ _ => Ext.trans) rfl (by kernel_rfl) (by kernel_rfl) (by kernel_rfl) (fun _ _ _ h => h) (Or.inl (Or.inl ⟨by rfl, ?hy4_19⟩)) ?rest4_19
                    case hy4_19 => (intro w hSw; (obtain ⟨-, a1, a2⟩ := LOi.out w (Ext.trans E3.out hSw); obtain ⟨-, c1, c2⟩ := LOk.out w (Ext.trans E3.out hSw)); go_simp; (try with_reducible rfl))
                    (try simp only [List.getElem_toArray, List.getElem_cons_zero, List.getElem_cons_succ, Act.put, List.setIfInBounds_toArray, List.set_cons_zero, List.set_cons_succ])
                    refine' wpAnyR_take (i := 5) (v := ?v5_20) Ext.refl (fun _ _ _ => Ext.trans) rfl (by kernel_rfl) (by kernel_rfl) (by kernel_rfl) (fun _ _ _ h => h) (Or.inl (Or.inl ⟨by rfl, ?hy5_20⟩)) ?rest5_20
                    case hy5_20 => (intro w hSw; (obtain ⟨-, a1, a2⟩ := LOi.out w (Ext.trans E3.out hSw); obtain ⟨-, c1, c2⟩ := LOk.out w (Ext.trans E3.out hSw)); go_simp; (try with_reducible rfl))
                    (try simp only [List.getElem_toArray, List.getElem_cons_zero, List.getElem_cons_succ, Act.put, List.setIfInBounds_toArray, List.set_cons_zero, List.set_cons_succ])
                    refine' wpAnyR_take (i := 6) (v := ?v6_21) Ext.refl (fun _ _ _ => Ext.trans) rfl (by kernel_rfl) (by kernel_rfl) (by kernel_rfl) (fun _ _ _ h => h) (Or.inl (Or.inl ⟨by rfl, ?hy6_21⟩)) ?rest6_21
                    case hy6_21 => (intro w hSw; (obtain ⟨-, a1, a2⟩ := LOi.out w (Ext.trans E3.out hSw); obtain ⟨-, c1, c2⟩ := LOk.out w (Ext.trans E3.out hSw)); go_simp; (try with_reducible rfl))
                    (try simp only [List.getElem_toArray, List.getElem_cons_zero, List.getElem_cons_succ, Act.put, List.setIfInBounds_toArray, List.set_cons_zero, List.set_cons_succ])
                    refine' wpAnyR_take (i := 7) (v := ?v7_22) Ext.refl (fun _ _ _ => Ext.trans) rfl (by kernel_rfl) (by kernel_rfl) (by kernel_rfl) (fun _ _ _ h => h) (Or.inl (Or.inl ⟨by rfl, ?hy7_22⟩)) ?rest7_22
                    case hy7_22 => (intro w hSw; (obtain ⟨-, a1, a2⟩ := LOi.out w (Ext.trans E3.out hSw); obtain ⟨-, c1, c2⟩ := LOk.out w (Ext.trans E3.out hSw)); go_simp; (try with_reducible rfl))
                    (try simp only [List.getElem_toArray, List.getElem_cons_zero, List.getElem_cons_succ, Act.put, List.setIfInBounds_toArray, List.set_cons_zero, List.set_cons_succ])
                    refine' wpAnyR_take (i := 8) (v := .tuple #[.bool b, .int .i64 0]) Ext.refl (fun _ _ _ => Ext.trans) rfl (by kernel_rfl) (by kernel_rfl) (by kernel_rfl) (fun _ _ _ h => h) (Or.inr ⟨by rfl, 30, _, ?hx8_23, ?hy8_23⟩) ?rest8_23
                    case hx8_23 => (intro w hSw; go_simp; (try with_reducible rfl))
                    case hy8_23 => exact fun w hE => (HLi.out _).mono (fun _ _ h => ⟨h.1, h.2, Ext.trans hE h.2⟩)
                    (try simp only [List.getElem_toArray, List.getElem_cons_zero, List.getElem_cons_succ, Act.put, List.setIfInBounds_toArray, List.set_cons_zero, List.set_cons_succ])
                    refine' wpAnyR_take (i := 9) (v := ?v9_24) Ext.refl (fun _ _ _ => Ext.trans) rfl (by kernel_rfl) (by kernel_rfl) (by kernel_rfl) (fun _ _ _ h => h) (Or.inl (Or.inl ⟨by rfl, ?hy9_24⟩)) ?rest9_24
                    case hy9_24 => (intro w hSw; (obtain ⟨-, a1, a2⟩ := LOi.out w (Ext.trans E3.out hSw); obtain ⟨-, c1, c2⟩ := LOk.out w (Ext.trans E3.out hSw)); go_simp; (try with_reducible rfl))
                    (try simp only [List.getElem_toArray, List.getElem_cons_zero, List.getElem_cons_succ, Act.put, List.setIfInBounds_toArray, List.set_cons_zero, List.set_cons_succ])
                    refine' wpAnyR_take (i := 10) (v := ?v10_25) Ext.refl (fun _ _ _ => Ext.trans) rfl (by kernel_rfl) (by kernel_rfl) (by kernel_rfl) (fun _ _ _ h => h) (Or.inl (Or.inl ⟨by rfl, ?hy10_25⟩)) ?rest10_25
                    case hy10_25 => (intro w hSw; (obtain ⟨-, a1, a2⟩ := LOi.out w (Ext.trans E3.out hSw); obtain ⟨-, c1, c2⟩ := LOk.out w (Ext.trans E3.out hSw)); go_simp; (try with_reducible rfl))
                    (try simp only [List.getElem_toArray, List.getElem_cons_zero, List.getElem_cons_succ, Act.put, List.setIfInBounds_toArray, List.set_cons_zero, List.set_cons_succ])
                    refine' wpAnyR_take (i := 11) (v := ?v11_26) Ext.refl (fun _ _ _ => Ext.trans) rfl (by kernel_rfl) (by kernel_rfl) (by kernel_rfl) (fun _ _ _ h => h) (Or.inl (Or.inl ⟨by rfl, ?hy11_26⟩)) ?rest11_26
                    case hy11_26 => (intro w hSw; (obtain ⟨-, a1, a2⟩ := LOi.out w (Ext.trans E3.out hSw); obtain ⟨-, c1, c2⟩ := LOk.out w (Ext.trans E3.out hSw)); go_simp; (try with_reducible rfl))
                    (try simp only [List.getElem_toArray, List.getElem_cons_zero, List.getElem_cons_succ, Act.put, List.setIfInBounds_toArray, List.set_cons_zero, List.set_cons_succ])
                    refine' wpAnyR_take (i := 12) (v := ?v12_27) Ext.refl (fun _ _ _ => Ext.trans) rfl (by kernel_rfl) (by kernel_rfl) (by kernel_rfl) (fun _ _ _ h => h) (Or.inl (Or.inl ⟨by rfl, ?hy12_27⟩)) ?rest12_27
                    case hy12_27 => (intro w hSw; (obtain ⟨-, a1, a2⟩ := LOi.out w (Ext.trans E3.out hSw); obtain ⟨-, c1, c2⟩ := LOk.out w (Ext.trans E3.out hSw)); go_simp; (try with_reducible rfl))
                    (try simp only [List.getElem_toArray, List.getElem_cons_zero, List.getElem_cons_succ, Act.put, List.setIfInBounds_toArray, List.set_cons_zero, List.set_cons_succ])
                    refine' wpAnyR_take (i := 13) (v := ?v13_28) Ext.refl (fun _ _ _ => Ext.trans) rfl (by kernel_rfl) (by kernel_rfl) (by kernel_rfl) (fun _ _ _ h => h) (Or.inl (Or.inl ⟨by rfl, ?hy13_28⟩)) ?rest13_28
                    case hy13_28 => (intro w hSw; (obtain ⟨-, a1, a2⟩ := LOi.out w (Ext.trans E3.out hSw); obtain ⟨-, c1, c2⟩ := LOk.out w (Ext.trans E3.out hSw)); go_simp; (try with_reducible rfl))
                    (try simp only [List.getElem_toArray, List.getElem_cons_zero, List.getElem_cons_succ, Act.put, List.setIfInBounds_toArray, List.set_cons_zero, List.set_cons_succ])
                    refine wpAnyR_done (by kernel_rfl) ?_ _
                    intro x3 _ Ex3
                    have X3 := Ext.trans E3.out Ex3
                    obtain ⟨-, a1, a2⟩ := LOi.out x3 X3
                    obtain ⟨-, c1, c2⟩ := LOk.out x3 X3
                    have s1 := TCi.out x3 X3
                    have s2 := TCk.out x3 X3
                    have u1 := (Ex3.cell zt (i * 3 + k)).trans tb
                    have u2 := (Ex3.frozen zt (i * 3 + k)).trans tf
                    have zx := cell_lt a1
                    have zy := cell_lt u1
                    clear tb tf zt
                    go_wp2_with fail
                    go_quiet (fail)
                    go_wp2_with fail
                    go_roundw
                    case measure => simp [intOf]; omega
                    case rel =>
                      refine ⟨k + 1, by omega, by go_num, Lib.hid (Ext.setCell (Ext.drewN X3 _) (Nat.le_refl _) _), Lib.hid ?_⟩
                      exact ((TBB.out.ext Ex3).ext (Ext.drewN (Ext.refl _) _)).step (by omega) _ HB.out
                  · clear he
                    go_wp2_with fail
                    refine wp_region_seq (S := fun W => Ext wr W) (R := Ext) (by kernel_rfl) Ext.refl ?_ ?_
                    · exact (by repeat' (first | (with_reducible exact Ext.refl _) | (with_reducible assumption) | (with_reducible refine Ext.alloc ?_ _) | (with_reducible refine Ext.drew ?_) | (with_reducible refine Ext.drewN ?_ _) | (with_reducible refine Ext.setCell ?_ ?_ _) | (with_reducible refine Ext.trans ?_ (by assumption)) | go_size))
                    refine' wpAnyR_take (i := 0) (v := ?v0_29) Ext.refl (fun _ _ _ => Ext.trans) rfl (by kernel_rfl) (by kernel_rfl) (by kernel_rfl) (fun _ _ _ h => h) (Or.inl (Or.inl ⟨by rfl, ?hy0_29⟩)) ?rest0_29
                    case hy0_29 => (intro w hSw; (obtain ⟨-, a1, a2⟩ := LOi.out w (Ext.trans E3.out hSw); obtain ⟨-, c1, c2⟩ := LOk.out w (Ext.trans E3.out hSw)); go_simp; (try with_reducible rfl))
                    (try simp only [List.getElem_toArray, List.getElem_cons_zero, Act.put, List.setIfInBounds_toArray, List.set_cons_zero, List.set_cons_succ])
                    refine' wpAnyR_take (i := 1) (v := ?v1_30) Ext.refl (fun _ _ _ => Ext.trans) rfl (by kernel_rfl) (by kernel_rfl) (by kernel_rfl) (fun _ _ _ h => h) (Or.inl (Or.inl ⟨by rfl, ?hy1_30⟩)) ?rest1_30
                    case hy1_30 => (intro w hSw; (obtain ⟨-, a1, a2⟩ := LOi.out w (Ext.trans E3.out hSw); obtain ⟨-, c1, c2⟩ := LOk.out w (Ext.trans E3.out hSw)); go_simp; (try with_reducible rfl))
                    (try simp only [List.getElem_toArray, List.getElem_cons_zero, List.getElem_cons_succ, Act.put, List.setIfInBounds_toArray, List.set_cons_zero, List.set_cons_succ])
                    refine' wpAnyR_take (i := 2) (v := ?v2_31) Ext.refl (fun _ _ _ => Ext.trans) rfl (by kernel_rfl) (by kernel_rfl) (by kernel_rfl) (fun _ _ _ h => h) (Or.inl (Or.inl ⟨by rfl, ?hy2_31⟩)) ?rest2_31
                    case hy2_31 => (intro w hSw; (obtain ⟨-, a1, a2⟩ := LOi.out w (Ext.trans E3.out hSw); obtain ⟨-, c1, c2⟩ := LOk.out w (Ext.trans E3.out hSw)); go_simp; (try with_reducible rfl))
                    (try simp only [List.getElem_toArray, List.getElem_cons_zero, List.getElem_cons_succ, Act.put, List.setIfInBounds_toArray, List.set_cons_zero, List.set_cons_succ])
                    refine' wpAnyR_take (i := 3) (v := ?v3_32) Ext.refl (fun _ _ _ => Ext.trans) rfl (by kernel_rfl) (by kernel_rfl) (by kernel_rfl) (fun _ _ _ h => h) (Or.inl (Or.inl ⟨by rfl, ?hy3_32⟩)) ?rest3_32
                    case hy3_32 => (intro w hSw; (obtain ⟨-, a1, a2⟩ := LOi.out w (Ext.trans E3.out hSw); obtain ⟨-, c1, c2⟩ := LOk.out w (Ext.trans E3.out hSw)); go_simp; (try with_reducible rfl))
                    (try simp only [List.getElem_toArray, List.getElem_cons_zero, List.getElem_cons_succ, Act.put, List.setIfInBounds_toArray, List.set_cons_zero, List.set_cons_succ])
                    refine' wpAnyR_take (i := 4) (v := ?v4_33) Ext.refl (fun _ _ _ => Ext.trans) rfl (by kernel_rfl) (by kernel_rfl) (by kernel_rfl) (fun _ _ _ h => h) (Or.inl (Or.inl ⟨by rfl, ?hy4_33⟩)) ?rest4_33
                    case hy4_33 => (intro w hSw; (obtain ⟨-, a1, a2⟩ := LOi.out w (Ext.trans E3.out hSw); obtain ⟨-, c1, c2⟩ := LOk.out w (Ext.trans E3.out hSw)); go_simp; (try with_reducible rfl))
                    (try simp only [List.getElem_toArray, List.getElem_cons_zero, List.getElem_cons_succ, Act.put, List.setIfInBounds_toArray, List.set_cons_zero, List.set_cons_succ])
                    refine' wpAnyR_take (i := 5) (v := ?v5_34) Ext.refl (fun _ _ _ => Ext.trans) rfl (by kernel_rfl) (by kernel_rfl) (by kernel_rfl) (fun _ _ _ h => h) (Or.inl (Or.inl ⟨by rfl, ?hy5_34⟩)) ?rest5_34
                    case hy5_34 => (intro w hSw; (obtain ⟨-, a1, a2⟩ := LOi.out w (Ext.trans E3.out hSw); obtain ⟨-, c1, c2⟩ := LOk.out w (Ext.trans E3.out hSw)); go_simp; (try with_reducible rfl))
                    (try simp only [List.getElem_toArray, List.getElem_cons_zero, List.getElem_cons_succ, Act.put, List.setIfInBounds_toArray, List.set_cons_zero, List.set_cons_succ])
                    refine' wpAnyR_take (i := 6) (v := ?v6_35) Ext.refl (fun _ _ _ => Ext.trans) rfl (by kernel_rfl) (by kernel_rfl) (by kernel_rfl) (fun _ _ _ h => h) (Or.inl (Or.inl ⟨by rfl, ?hy6_35⟩)) ?rest6_35
                    case hy6_35 => (intro w hSw; (obtain ⟨-, a1, a2⟩ := LOi.out w (Ext.trans E3.out hSw); obtain ⟨-, c1, c2⟩ := LOk.out w (Ext.trans E3.out hSw)); go_simp; (try with_reducible rfl))
                    (try simp only [List.getElem_toArray, List.getElem_cons_zero, List.getElem_cons_succ, Act.put, List.setIfInBounds_toArray, List.set_cons_zero, List.set_cons_succ])
                    refine' wpAnyR_take (i := 7) (v := ?v7_36) Ext.refl (fun _ _ _ => Ext.trans) rfl (by kernel_rfl) (by kernel_rfl) (by kernel_rfl) (fun _ _ _ h => h) (Or.inl (Or.inl ⟨by rfl, ?hy7_36⟩)) ?rest7_36
                    case hy7_36 => (intro w hSw; (obtain ⟨-, a1, a2⟩ := LOi.out w (Ext.trans E3.out hSw); obtain ⟨-, c1, c2⟩ := LOk.out w (Ext.trans E3.out hSw)); go_simp; (try with_reducible rfl))
                    (try simp only [List.getElem_toArray, List.getElem_cons_zero, List.getElem_cons_succ, Act.put, List.setIfInBounds_toArray, List.set_cons_zero, List.set_cons_succ])
                    refine' wpAnyR_take (i := 8) (v := .tuple #[.bool b, .int .i64 0]) Ext.refl (fun _ _ _ => Ext.trans) rfl (by kernel_rfl) (by kernel_rfl) (by kernel_rfl) (fun _ _ _ h => h) (Or.inr ⟨by rfl, 30, _, ?hx8_37, ?hy8_37⟩) ?rest8_37
                    case hx8_37 => (intro w hSw; go_simp; (try with_reducible rfl))
                    case hy8_37 => exact fun w hE => (HLi.out _).mono (fun _ _ h => ⟨h.1, h.2, Ext.trans hE h.2⟩)
                    (try simp only [List.getElem_toArray, List.getElem_cons_zero, List.getElem_cons_succ, Act.put, List.setIfInBounds_toArray, List.set_cons_zero, List.set_cons_succ])
                    refine' wpAnyR_take (i := 9) (v := ?v9_38) Ext.refl (fun _ _ _ => Ext.trans) rfl (by kernel_rfl) (by kernel_rfl) (by kernel_rfl) (fun _ _ _ h => h) (Or.inl (Or.inl ⟨by rfl, ?hy9_38⟩)) ?rest9_38
                    case hy9_38 => (intro w hSw; (obtain ⟨-, a1, a2⟩ := LOi.out w (Ext.trans E3.out hSw); obtain ⟨-, c1, c2⟩ := LOk.out w (Ext.trans E3.out hSw)); go_simp; (try with_reducible rfl))
                    (try simp only [List.getElem_toArray, List.getElem_cons_zero, List.getElem_cons_succ, Act.put, List.setIfInBounds_toArray, List.set_cons_zero, List.set_cons_succ])
                    refine' wpAnyR_take (i := 10) (v := ?v10_39) Ext.refl (fun _ _ _ => Ext.trans) rfl (by kernel_rfl) (by kernel_rfl) (by kernel_rfl) (fun _ _ _ h => h) (Or.inl (Or.inl ⟨by rfl, ?hy10_39⟩)) ?rest10_39
                    case hy10_39 => (intro w hSw; (obtain ⟨-, a1, a2⟩ := LOi.out w (Ext.trans E3.out hSw); obtain ⟨-, c1, c2⟩ := LOk.out w (Ext.trans E3.out hSw)); go_simp; (try with_reducible rfl))
                    (try simp only [List.getElem_toArray, List.getElem_cons_zero, List.getElem_cons_succ, Act.put, List.setIfInBounds_toArray, List.set_cons_zero, List.set_cons_succ])
                    refine' wpAnyR_take (i := 11) (v := ?v11_40) Ext.refl (fun _ _ _ => Ext.trans) rfl (by kernel_rfl) (by kernel_rfl) (by kernel_rfl) (fun _ _ _ h => h) (Or.inl (Or.inl ⟨by rfl, ?hy11_40⟩)) ?rest11_40
                    case hy11_40 => (intro w hSw; (obtain ⟨-, a1, a2⟩ := LOi.out w (Ext.trans E3.out hSw); obtain ⟨-, c1, c2⟩ := LOk.out w (Ext.trans E3.out hSw)); go_simp; (try with_reducible rfl))
                    (try simp only [List.getElem_toArray, List.getElem_cons_zero, List.getElem_cons_succ, Act.put, List.setIfInBounds_toArray, List.set_cons_zero, List.set_cons_succ])
                    refine' wpAnyR_take (i := 12) (v := ?v12_41) Ext.refl (fun _ _ _ => Ext.trans) rfl (by kernel_rfl) (by kernel_rfl) (by kernel_rfl) (fun _ _ _ h => h) (Or.inl (Or.inl ⟨by rfl, ?hy12_41⟩)) ?rest12_41
                    case hy12_41 => (intro w hSw; (obtain ⟨-, a1, a2⟩ := LOi.out w (Ext.trans E3.out hSw); obtain ⟨-, c1, c2⟩ := LOk.out w (Ext.trans E3.out hSw)); go_simp; (try with_reducible rfl))
                    (try simp only [List.getElem_toArray, List.getElem_cons_zero, List.getElem_cons_succ, Act.put, List.setIfInBounds_toArray, List.set_cons_zero, List.set_cons_succ])
                    refine' wpAnyR_take (i := 13) (v := ?v13_42) Ext.refl (fun _ _ _ => Ext.trans) rfl (by kernel_rfl) (by kernel_rfl) (by kernel_rfl) (fun _ _ _ h => h) (Or.inl (Or.inl ⟨by rfl, ?hy13_42⟩)) ?rest13_42
                    case hy13_42 => (intro w hSw; (obtain ⟨-, a1, a2⟩ := LOi.out w (Ext.trans E3.out hSw); obtain ⟨-, c1, c2⟩ := LOk.out w (Ext.trans E3.out hSw)); go_simp; (try with_reducible rfl))
                    (try simp only [List.getElem_toArray, List.getElem_cons_zero, List.getElem_cons_succ, Act.put, List.setIfInBounds_toArray, List.set_cons_zero, List.set_cons_succ])
                    refine wpAnyR_done (by kernel_rfl) ?_ _
                    intro x3 _ Ex3
                    have X3 := Ext.trans E3.out Ex3
                    obtain ⟨-, a1, a2⟩ := LOi.out x3 X3
                    obtain ⟨-, c1, c2⟩ := LOk.out x3 X3
                    have s1 := TCi.out x3 X3
                    have s2 := TCk.out x3 X3
                    have u1 := (Ex3.cell zt (i * 3 + k)).trans tb
                    have u2 := (Ex3.frozen zt (i * 3 + k)).trans tf
                    have zx := cell_lt a1
                    have zy := cell_lt u1
                    clear tb tf zt
                    go_wp2_with fail
                    go_quiet (fail)
                    go_wp2_with fail
                    go_roundw
                    case measure => simp [intOf]; omega
                    case rel =>
                      refine ⟨k + 1, by omega, by go_num, Lib.hid (Ext.setCell (Ext.drewN X3 _) (Nat.le_refl _) _), Lib.hid ?_⟩
                      exact ((TBB.out.ext Ex3).ext (Ext.drewN (Ext.refl _) _)).step (by omega) _ HB.out
              · obtain rfl : k = 3 := by omega
                go_wp2_with fail
                go_roundw
                case measure => simp [intOf]; omega
                case rel => exact ⟨i + 1, by omega, by go_num, E3, Lib.hid (by have h := TB3.out; rwa [show i * 3 + 3 = (i + 1) * 3 by omega] at h)⟩
          · obtain rfl : i = 3 := by omega
            have TT := Lib.hid (fun (W : World) (h : Ext wi W) i k (hi : i < 3) (hk : k < 3) => tab_cell (TB.out.ext h) i k hi hk)
            have LW := Lib.hid (fun (W : World) (h : Ext wi W) i (hi : i < 3) => LO.out W (Ext.trans E2.out h) i hi)
            have zt := TB.out.1
            have zl3 : bl < wi.heap.size := Nat.lt_of_lt_of_le zl2 E2.out.le
            have E4 := Lib.hid (Ext.trans E1.out E2.out)
            have hg := Lib.hid (hg.out.ext E2.out)
            clear TB LO TC HL E1 E2 zl2
            go_wp2_with fail
            go_loopw [21] (fun s21 wr => ∃ i : Nat, i ≤ 3 ∧ s21 = .int .i64 i ∧ Hid (Ext wi wr)) (fun s21 _ => 3 - (intOf s21).toNat)
            case atStart => exact ⟨0, by omega, rfl, Lib.hid (Ext.refl _)⟩
            case round =>
              obtain ⟨i, hi, rfl, E5⟩ := hrel
              by_cases h3 : i < 3
              · have hi3 : (i : Int) < 3 := by omega
                go_wp2_with fail
                go_loopw [22] (fun s22 wr => ∃ k : Nat, k ≤ 3 ∧ s22 = .int .i64 k ∧ Hid (Ext wi wr)) (fun s22 _ => 3 - (intOf s22).toNat)
                case atStart => exact ⟨0, by omega, rfl, E5⟩
                case round =>
                  obtain ⟨k, hk, rfl, E6⟩ := hrel
                  clear E5
                  by_cases h4 : k < 3
                  · have hk3 : (k : Int) < 3 := by omega
                    go_upto_region 29 with fail
                    go_cut [187] (fun s187 W => s187 = .bool false ∧ Ext wr W)
                    case first =>
                      have t1 := TT.out wr E6.out i k h3 h4
                      have t2 := TT.out wr E6.out k i h4 h3
                      obtain ⟨-, a1, a2⟩ := LW.out wr E6.out i h3
                      obtain ⟨-, c1, c2⟩ := LW.out wr E6.out k h4
                      simp only [Nat.zero_add] at a1 a2 c1 c2
                      have PEi := fun h => PE.out i k h3 h4 h
                      have PEk := fun h => PE.out k i h4 h3 h
                      have PNi := fun h => PN.out i k h3 h4 h
                      generalize zs[i]! = zi at PEi PEk PNi a1 a2
                      generalize zs[k]! = zk at PEi PEk PNi c1 c2
                      by_cases he : zi = zk
                      · obtain ⟨-, b1⟩ := PEi he
                        obtain ⟨-, b2⟩ := PEk he.symm
                        rw [b1] at t1
                        rw [b2] at t2
                        subst he
                        obtain ⟨fi, ni⟩ := zi
                        simp only at a1 a2 c1 c2
                        clear PEi PEk PNi b1 b2
                        go_quiet (fail)
                        go_wp2_with fail
                        go_meet
                        exact ⟨rfl, Ext.drewN (Ext.refl _) _⟩
                      · obtain ⟨-, b1⟩ := PNi he
                        rw [b1] at t1
                        obtain ⟨fi, ni⟩ := zi
                        obtain ⟨fk, nk⟩ := zk
                        simp only at a1 a2 c1 c2
                        clear PEi PEk PNi b1
                        by_cases hf : fi = fk
                        · have hn : ni ≠ nk := fun e => he (by rw [hf, e])
                          subst hf
                          clear he
                          cases hb : B (k * 3 + i) with
                          | true =>
                            rw [hb] at t1 t2
                            clear hb
                            go_quiet (fail)
                            go_wp2_with fail
                            go_meet
                            exact ⟨rfl, Ext.drewN (Ext.refl _) _⟩
                          | false =>
                            rw [hb] at t1 t2
                            clear hb
                            go_quiet (fail)
                            go_wp2_with fail
                            go_meet
                            exact ⟨rfl, Ext.drewN (Ext.refl _) _⟩
                        · clear he
                          cases hb : B (k * 3 + i) with
                          | true =>
                            rw [hb] at t1 t2
                            clear hb
                            go_quiet (fail)
                            go_wp2_with fail
                            go_meet
                            exact ⟨rfl, Ext.drewN (Ext.refl _) _⟩
                          | false =>
                            rw [hb] at t1 t2
                            clear hb
                            go_quiet (fail)
                            go_wp2_with fail
                            go_meet
                            exact ⟨rfl, Ext.drewN (Ext.refl _) _⟩
                    case rest =>
                      obtain ⟨rfl, EC⟩ := hcut
                      have E7 := Lib.hid (Ext.trans E6.out EC)
                      clear EC E6
                      go_wp2_with fail
                      go_loopw [23] (fun s23 wr => ∃ j : Nat, j ≤ 3 ∧ s23 = .int .i64 j ∧ Hid (Ext wi wr)) (fun s23 _ => 3 - (intOf s23).toNat)
                      case atStart => exact ⟨0, by omega, rfl, E7⟩
                      case round =>
                        obtain ⟨j, hj, rfl, E8⟩ := hrel
                        clear E7
                        by_cases h5 : j < 3
                        · have hj3 : (j : Int) < 3 := by omega
                          have t1 := TT.out wr E8.out i k h3 h4
                          have t2 := TT.out wr E8.out k j h4 h5
                          have t3 := TT.out wr E8.out i j h3 h5
                          have PTi := fun h h' => PT.out i k j h3 h4 h5 h h'
                          cases hb : B (i * 3 + k) with
                          | false =>
                            rw [hb] at t1
                            clear hb PTi
                            go_wp2_with fail
                            go_roundw
                            case measure => simp [intOf]; omega
                            case rel => exact ⟨j + 1, by omega, by go_num, E8⟩
                          | true =>
                            rw [hb] at t1
                            cases hb2 : B (k * 3 + j) with
                            | false =>
                              rw [hb2] at t2
                              clear hb hb2 PTi
                              go_wp2_with fail
                              go_roundw
                              case measure => simp [intOf]; omega
                              case rel => exact ⟨j + 1, by omega, by go_num, E8⟩
                            | true =>
                              rw [hb2] at t2
                              rw [PTi hb hb2] at t3
                              clear hb hb2 PTi
                              go_wp2_with fail
                              go_roundw
                              case measure => simp [intOf]; omega
                              case rel => exact ⟨j + 1, by omega, by go_num, E8⟩
                        · obtain rfl : j = 3 := by omega
                          go_wp2_with fail
                          go_roundw
                          case measure => simp [intOf]; omega
                          case rel => exact ⟨k + 1, by omega, by go_num, E8⟩
                  · obtain rfl : k = 3 := by omega
                    go_wp2_with fail
                    go_roundw
                    case measure => simp [intOf]; omega
                    case rel => exact ⟨i + 1, by omega, by go_num, E6⟩
              · obtain rfl : i = 3 := by omega
                go_wp2_with (go_at_call 17; refine (known_any _ (hg.out.ext E5.out)).mono ?_; rintro e x9 ⟨rfl, y9⟩)
                go_returns
                exact ⟨rfl, Ext.trans E4.out (Ext.trans E5.out y9)⟩
end Go.Proofs.YtaddlhebhiehgaaDoor.lawReads
