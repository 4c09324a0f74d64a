/-
  Part 27 of a proof: RH3 RH4 RH5 LH2.
-/
import Derived.Test.YtdokmmhjmclmnaaGreatM18
import Derived.Test.YtdokmmhjmclmnaaGreatM22
import Derived.Test.YtdokmmhjmclmnaaGreatM24
import Derived.Test.YtdokmmhjmclmnaaGreatM26
set_option linter.unusedSimpArgs false
set_option linter.unusedVariables false
set_option linter.unusedSectionVars false
set_option linter.unnecessarySimpa false
namespace Go.Proofs.YtdokmmhjmclmnaaGreat
open Go.RowKit Go.Maps
theorem dIn (n a b : Int) (w : World) : Calls Tryz.prog 66 #[.int .i64 n, .int .i64 a, .int .i64 b] w fun e w' => e = .returned (.bool (Hp.within a b n)) ∧ Ext w w' := by
 by_cases h1 : a ≤ n
 · have t1 : decide (n ≥ a) = true := decide_eq_true h1
   by_cases h2 : n ≤ b
   · have t2 : decide (n ≤ b) = true := decide_eq_true h2
     have e : Hp.within a b n = true := by simp [Hp.within, h1, h2]
     rw [e]
     clear e
     go_enter Tryz.func66, Tryz.ntmps66
     go_wp2_with fail
     go_returns
     exact ⟨rfl, exx⟩
   · have t2 : decide (n ≤ b) = false := decide_eq_false h2
     have e : Hp.within a b n = false := by simp [Hp.within, h2]
     rw [e]
     clear e
     go_enter Tryz.func66, Tryz.ntmps66
     go_wp2_with fail
     go_returns
     exact ⟨rfl, exx⟩
 · have t1 : decide (n ≥ a) = false := decide_eq_false h1
   have e : Hp.within a b n = false := by simp [Hp.within, h1]
   rw [e]
   clear e
   go_enter Tryz.func66, Tryz.ntmps66
   go_wp2_with fail
   go_returns
   exact ⟨rfl, exx⟩
set_option maxHeartbeats 2000000 in
theorem rHas {w : World} {p : Option Addr} {c : Nat} {l : List Int} {x : Int} (h : SliceAt w p c l) :
    Calls Tryz.prog 85 #[.slice p l.length c, .int .i64 x] w fun e w' => e = .returned (.bool (l.contains x)) ∧ Ext w w' := by
  have hle := h.le
  have hcap := h.cap
  have H := Lib.hid h
  clear h
  generalize hL : l.length = n at hle ⊢
  have HL := Lib.hid hL
  clear hL
  obtain ⟨b, hb⟩ : ∃ b, l.contains x = b := ⟨_, rfl⟩
  have HB := Lib.hid hb
  rw [hb]
  clear hb
  go_enter Tryz.func85, Tryz.ntmps85
  go_wp2_with fail
  go_loopg [5] n (fun g i wr => ∃ j : Nat, j ≤ n ∧ n - j ≤ g ∧ i = .int .i64 j ∧ Hid (Ext w wr) ∧ Hid (∀ i, i < j → Hp.rd l i ≠ some x))
  case atStart => exact ⟨0, Nat.zero_le _, by omega, rfl, Lib.hid (Ext.refl w), Lib.hid (fun i hi => absurd hi (Nat.not_lt_zero _))⟩
  case round =>
   obtain ⟨j, hj, hg, rfl, E, A⟩ := hrel
   by_cases hlt : j < n
   · obtain ⟨y, hy⟩ := rd_get (l := l) (j := j) (by rw [HL.out]; exact hlt)
     obtain ⟨bb, o, rfl, hbb, hc⟩ := (H.out.ext E.out).cells (by rw [HL.out]; omega)
     have g1 := hc j y hy
     have HY := Lib.hid hy
     have tk : decide ((j : Int) < (n : Int)) = true := decide_eq_true (by omega)
     clear hc hy
     by_cases hyx : y = x
     · have t0 : (y == x) = true := by simpa using hyx
       have hbt : b = true := by
        rw [← HB.out]
        have := List.mem_of_getElem? HY.out
        rw [hyx] at this
        simpa using this
       subst hbt
       go_wp2_with fail
       go_returns
       exact ⟨rfl, E.out⟩
     · have t0 : (y == x) = false := by simpa using hyx
       have A2 : Hid (∀ i, i < j + 1 → Hp.rd l i ≠ some x) := Lib.hid (fun i hi => by
        by_cases e : i = j
        · subst e
          rw [HY.out]
          simpa using hyx
        · exact A.out i (by omega))
       go_wp2_with fail
       go_roundg (n - (j + 1))
       case measure => omega
       case rel => exact ⟨j + 1, by omega, Nat.le_refl _, by go_num, E, A2⟩
   · have : j = n := by omega
     subst this
     have tk : decide ((j : Int) < (j : Int)) = false := decide_eq_false (by omega)
     have hbf : b = false := by
      rw [← HB.out]
      cases hc : l.contains x with
      | false => rfl
      | true =>
       have hm : x ∈ l := by simpa using hc
       obtain ⟨i, hi, e⟩ := List.getElem_of_mem hm
       exact absurd (by unfold Hp.rd; rw [List.getElem?_eq_getElem hi, e]) (A.out i (by rw [← HL.out]; exact hi))
     subst hbf
     go_wp2_with fail
     go_returns
     exact ⟨rfl, E.out⟩
set_option maxHeartbeats 2000000 in
theorem rPlace {w : World} {r : Rd} {S : Hp.Hs} (h : RAt w r S) {c : Int} {k : Nat} (hk : Hp.rd S.order k = some c) (hf : ∀ j, j < k → Hp.rd S.order j ≠ some c) :
    Calls Tryz.prog 173 #[.pointer (some ⟨r.rb, 0, none⟩), .int .i64 c] w fun e w' => e = .returned (.int .i64 (k : Int)) ∧ Ext w w' := by
  have hkl := rd_lt hk
  have hle := h.order.le
  have hcap := h.order.cap
  have H := Lib.hid h
  have HK := Lib.hid hk
  have HF := Lib.hid hf
  clear h hk hf
  generalize hL : S.order.length = n at hle hkl
  have HL := Lib.hid hL
  clear hL
  go_enter Tryz.func173, Tryz.ntmps173
  go_wp2_with fail
  go_loopg [5] n (fun g i wr => ∃ j : Nat, j ≤ k ∧ n - j ≤ g ∧ i = .int .i64 j ∧ Hid (Ext w wr))
  case atStart => exact ⟨0, Nat.zero_le _, by omega, rfl, Lib.hid (Ext.refl w)⟩
  case round =>
   obtain ⟨j, hj, hg, rfl, E⟩ := hrel
   have N := Lib.hid (H.out.ext E.out)
   have c1 := N.out.c1
   rw [HL.out] at c1
   obtain ⟨y, hy⟩ := rd_get (l := S.order) (j := j) (by rw [HL.out]; omega)
   obtain ⟨bb, o, hp, hbb, hc⟩ := N.out.order.cells (by rw [HL.out]; omega)
   have g1 := hc j y hy
   rw [hp] at c1
   have tk : decide ((j : Int) < (n : Int)) = true := decide_eq_true (by omega)
   have HY := Lib.hid hy
   clear hc hy hp
   by_cases hjk : j = k
   · subst hjk
     have hyc : y = c := by
      have := HY.out
      rw [HK.out] at this
      exact (Option.some.inj this).symm
     have t0 : (y == c) = true := by simpa using hyc
     go_wp2_with fail
     go_returns
     exact ⟨rfl, E.out⟩
   · have hyc : y ≠ c := by
       intro e
       exact HF.out j (by omega) (by rw [HY.out, e])
     have t0 : (y == c) = false := by simpa using hyc
     clear hyc
     go_wp2_with fail
     go_roundg (n - (j + 1))
     case measure => omega
     case rel => exact ⟨j + 1, by omega, Nat.le_refl _, by go_num, E⟩
theorem index_spec {o : List Int} {c : Int} (h : c ∈ o) : ∃ k : Nat, Hp.index o c = k ∧ Hp.rd o k = some c ∧ ∀ j, j < k → Hp.rd o j ≠ some c := by
 unfold Hp.index
 cases hf : o.findIdx? (· == c) with
 | none =>
  rw [List.findIdx?_eq_none_iff] at hf
  have := hf c h
  simp at this
 | some i =>
  rw [List.findIdx?_eq_some_iff_getElem] at hf
  obtain ⟨hl, h1, h2⟩ := hf
  refine ⟨i, rfl, ?_, fun j hj e => ?_⟩
  · unfold Hp.rd
    rw [List.getElem?_eq_getElem hl]
    simpa using h1
  · have := h2 j hj
    unfold Hp.rd at e
    rw [List.getElem?_eq_getElem (by omega)] at e
    have e := Option.some.inj e
    simp [e] at this
theorem order_mem {S : Hp.Hs} (hz : Hp.FrOk S.sizes S.order) {t : Int} (h : Hp.isNode S.sizes t = true) : t - 1 ∈ S.order := by
 simp only [Hp.isNode, Hp.within, Bool.and_eq_true, decide_eq_true_eq] at h
 have := hz.perm (t - 1).toNat (by omega)
 rwa [show (((t - 1).toNat : Nat) : Int) = t - 1 by omega] at this
theorem rank_node {z o : List Int} {t : Int} (he : Hp.isEnd t = false) : Hp.rank o t = Hp.index o (t - 1) := by simp [Hp.rank, he]
set_option maxHeartbeats 2000000 in
theorem rRank {w : World} {r : Rd} {S : Hp.Hs} {B : Nat} {L : List Hp.Tl} {ch : Nat → List Nat} (h : RAt w r S) (hw : Hp.Wf S B L ch) {a : Nat} (ha : a ∈ S.taken) :
    Calls Tryz.prog 172 #[.pointer (some ⟨r.rb, 0, none⟩), .int .i64 a] w fun e w' => e = .returned (.int .i64 (Hp.rank S.order (Hp.ow S.words a))) ∧ Ext w w' := by
  have pa := hw.part ha
  have ht := hw.cells.tags a ha
  have hto := hw.tag_le ha
  have few := hw.fr.few
  have NODE := Lib.hid (fun W (hW : Ext w W) => rIsNode (h.ext hW) (a := a) (by omega))
  cases he : Hp.isEnd (Hp.ow S.words a) with
  | true =>
   have e : Hp.rank S.order (Hp.ow S.words a) = S.order.length := by simp [Hp.rank, he]
   rw [e]
   simp only [Hp.isEnd, Hp.within, Bool.and_eq_true, decide_eq_true_eq] at he
   have NODE2 := Lib.hid (fun W (hW : Ext w W) => (decide_eq_false (by omega : ¬ Hp.ow S.words a < 20)) ▸ NODE.out W hW)
   have H := Lib.hid h
   have hcap := h.order.cap
   have hle := h.order.le
   clear h hw ha ht he e NODE pa
   go_enter Tryz.func172, Tryz.ntmps172
   go_wp2_with (go_at_call 87; refine (NODE2.out _ (exx)).mono ?_; rintro e w1 ⟨rfl, hb1⟩; obtain ⟨hc1, hf1, hs1⟩ := hb1.cells; have c1 := (H.out.ext hb1).c1)
   go_returns
   exact ⟨rfl, exx⟩
  | false =>
   have hn := Hp.isNode_of ht he
   have hm := order_mem hw.fr hn
   obtain ⟨k, e1, e2, e3⟩ := index_spec hm
   rw [rank_node (z := S.sizes) he, e1]
   have PL := Lib.hid (fun W (hW : Ext w W) => rPlace (h.ext hW) e2 e3)
   simp only [Hp.isNode, Hp.within, Bool.and_eq_true, decide_eq_true_eq] at hn
   have NODE2 := Lib.hid (fun W (hW : Ext w W) => (decide_eq_true (by omega : Hp.ow S.words a < 20)) ▸ NODE.out W hW)
   have H := Lib.hid h
   have gx := h.get (j := a) (by omega)
   have hlt := h.lt
   have c2 := h.c2
   have hle := h.words.le
   have hcap := h.words.cap
   obtain ⟨bb, o', hp', hbb, _⟩ := h.words.cells (by omega)
   cases hp'
   have al : a < S.words.length := by omega
   clear h hw ha ht he e1 e2 e3 NODE hm pa
   generalize S.words.length = n at *
   generalize Hp.ow S.words a = x at *
   go_enter Tryz.func172, Tryz.ntmps172
   go_wp2_with (first
    | (go_at_call 87; refine (NODE2.out _ (exx)).mono ?_; rintro e w1 ⟨rfl, hb1⟩; obtain ⟨hc1, hf1, hs1⟩ := hb1.cells; have c2' := (hb1.cell hlt 2).trans c2; have gx' := (hb1.cell hbb (r.go + a)).trans gx)
    | (go_at_call 173; refine (PL.out _ (exx)).mono ?_; rintro e w2 ⟨rfl, hb2⟩; obtain ⟨hc2, hf2, hs2⟩ := hb2.cells))
   go_returns
   exact ⟨rfl, exx⟩
set_option maxHeartbeats 2000000 in
theorem rChain {w : World} {p : Option Addr} {c k : Nat} {t : Int} {l : List Int} (h : SliceAt w p c l) (hk : Hp.chain t l = some k) :
    Calls Tryz.prog 137 #[.int .i64 t, .slice p l.length c] w fun e w' => e = .returned (.int .i64 k) ∧ Ext w w' := by
  simp only [Hp.chain, Option.bind_eq_bind, Option.bind_eq_some_iff, Option.pure_def, Option.some.injEq] at hk
  obtain ⟨t', ht, n0, hn, r, hr, hk⟩ := hk
  obtain ⟨rfl, ht1, ht2⟩ := ck_some ht
  obtain ⟨rfl, hn1, hn2⟩ := ck_some hn
  subst hk
  have hle := h.le
  have hcap := h.cap
  have H := Lib.hid h
  have HR := Lib.hid hr
  clear h hr ht hn
  generalize hL : l.length = n at hle ⊢
  have HL := Lib.hid hL
  clear hL
  go_enter Tryz.func137, Tryz.ntmps137
  go_wp2
  go_loop [5, 6] (fun a i => ∃ (j : Nat) (m : Int), j ≤ n ∧ i = .int .i64 j ∧ a = .int .i64 m ∧ -4611686018427387904 < m ∧ m < 4611686018427387904 ∧ Hid (Hp.sums (l.drop j) j m = some r)) (fun _ i => n - (intOf i).toNat)
  case atStart => exact ⟨0, _, Nat.zero_le _, rfl, rfl, hn1, hn2, HR⟩
  case round =>
   obtain ⟨j, m, hj, rfl, rfl, hm1, hm2, HS⟩ := hrel
   by_cases hlt : j < n
   · have hjl : j < l.length := by rw [HL.out]; exact hlt
     have hs := HS.out
     rw [List.drop_eq_getElem_cons hjl] at hs
     obtain ⟨f, hf, hs⟩ := Option.bind_eq_some_iff.1 hs
     obtain ⟨m', hm', hs⟩ := Option.bind_eq_some_iff.1 hs
     obtain ⟨hfe, hf1, hf2⟩ := ck_some hf
     obtain ⟨rfl, hm3, hm4⟩ := ck_some hm'
     rw [← hfe] at hf1 hf2
     obtain ⟨b, o, rfl, hb, hc⟩ := H.out.cells (by omega)
     have g := hc j f (by unfold Hp.rd; rw [List.getElem?_eq_getElem hjl, hfe])
     have HT := Lib.hid hs
     clear hs hf hfe hm' hc HS
     generalize he : ((j : Int) + 1) * f = q at hm3 hm4 HT
     have e2 : wrap64 (((j : Int) + 1) * f) = q := by rw [he]; exact IntWalk.wrap64_in _ ⟨by omega, by omega⟩
     clear he
     go_wp2
     go_round
     case rel => exact ⟨j + 1, m + q, by omega, by go_num, rfl, hm3, hm4, HT⟩
     case measure => simp [intOf]; omega
   · have : j = n := by omega
     subst this
     have hs := HS.out
     rw [List.drop_of_length_le (by rw [HL.out]; exact Nat.le_refl _)] at hs
     obtain rfl : m = r := by simpa [Hp.sums] using hs
     clear hs HS HR
     obtain ⟨q1, q2, q3⟩ := tmod16 m
     have Q := Lib.hid q3
     clear q3
     have q4 : -9223372036854775808 ≤ m.tmod 16 + 16 := by omega
     have q5 : m.tmod 16 + 16 ≤ 9223372036854775807 := by omega
     have q6 : 0 ≤ m.tmod 16 + 16 := by omega
     go_wp2
     go_returns
     refine ⟨?_, exx⟩
     show Ending.returned (Value.int IntKind.i64 (m.tmod 16 % 16)) = _
     rw [Q.out]
theorem dIsCell_is {w : World} {f n : Int} (h1 : f = 0 → -9999 ≤ n ∧ n ≤ 9999) (h2 : f ≠ 0 → n = 0) (h3 : 0 ≤ f) (h4 : f ≤ 4) :
    Calls Tryz.prog 134 #[.agg #[.int .u8 f, .int .i64 n]] w fun e w' => e = .returned (.bool true) ∧ Ext w w' := by
  by_cases h0 : f = 0
  · subst h0
    obtain ⟨k1, k2⟩ := h1 rfl
    have e : Hp.within (-9999) 9999 n = true := by simp [Hp.within, k1, k2]
    have IN := Lib.hid (fun W => e ▸ dIn n (-9999) 9999 W)
    clear h1 h2 e
    go_enter Tryz.func134, Tryz.ntmps134
    go_wp2_with (go_at_call 66; refine (IN.out _).mono ?_; rintro e w1 ⟨rfl, hb1⟩; obtain ⟨hc1, hf1, hs1⟩ := hb1.cells; have hz1_0 : w.heap.size < w1.heap.size := (by have h := hb1.le; (try simp at h); omega); have hc1_0 := hb1.cell (b := w.heap.size) (by first | omega | (simp; done) | (simp; omega)); have hf1_0 := hb1.frozen (b := w.heap.size) (by first | omega | (simp; done) | (simp; omega)))
    go_returns
    exact ⟨rfl, exx⟩
  · have hn := h2 h0
    subst hn
    have t0 : (f == 0) = false := by simpa using h0
    have t1 : decide (f ≤ 4) = true := decide_eq_true h4
    clear h1 h2
    go_enter Tryz.func134, Tryz.ntmps134
    go_wp2_with fail
    go_returns
    exact ⟨rfl, exx⟩
end Go.Proofs.YtdokmmhjmclmnaaGreat
namespace Go.Proofs.YtdokmmhjmclmnaaGreat
open Go.RowKit Go.Maps
def cellsI (S : Hp.Hs) : List Int := S.taken.map fun a : Nat => (a : Int)
theorem Hp.Wf.pick_ {S : Hp.Hs} {B : Nat} {L : List Hp.Tl} {ch : Nat → List Nat} (h : Hp.Wf S B L ch) : pick false L = cellsI S := by
 rw [pick_cells, ← h.taken]
 rfl
theorem rCells_ {w : World} {r : Rd} {S : Hp.Hs} {B : Nat} {L : List Hp.Tl} {ch : Nat → List Nat} (h : RAt w r S) (hw : Hp.Wf S B L ch) : Calls Tryz.prog 82 #[.pointer (some ⟨r.rb, 0, none⟩)] w (ListPost w (cellsI S)) := by
 rw [← hw.pick_]
 exact rCells h hw.fr.toFr hw.hi hw.parts
theorem cellsI_mem {S : Hp.Hs} {x : Int} : x ∈ cellsI S ↔ ∃ a ∈ S.taken, x = (a : Int) := by
 unfold cellsI
 rw [List.mem_map]
 constructor
 · rintro ⟨a, h1, h2⟩
   exact ⟨a, h1, h2.symm⟩
 · rintro ⟨a, h1, h2⟩
   exact ⟨a, h1, h2.symm⟩
theorem rHas_is {w : World} {p : Option Addr} {c : Nat} {l : List Int} {x : Int} {b : Bool} (hb : l.contains x = b) (h : SliceAt w p c l) : Calls Tryz.prog 85 #[.slice p l.length c, .int .i64 x] w fun e w' => e = .returned (.bool b) ∧ Ext w w' := by
 rw [← hb]
 exact rHas h
theorem rIs {w : World} {r : Rd} {S : Hp.Hs} {B : Nat} {L : List Hp.Tl} {ch : Nat → List Nat} (h : RAt w r S) (hw : Hp.Wf S B L ch) (x : Int) : Calls Tryz.prog 26 #[.pointer (some ⟨r.rb, 0, none⟩), .int .i64 x] w fun e w' => e = .returned (.bool ((cellsI S).contains x)) ∧ Ext w w' := by
 have HC := Lib.hid (rCells_ h hw)
 obtain ⟨b, hb⟩ : ∃ b, (cellsI S).contains x = b := ⟨_, rfl⟩
 rw [hb]
 have HB := Lib.hid hb
 clear h hw hb
 go_enter Tryz.func26, Tryz.ntmps26
 go_wp2_with (first
  | (go_at_call 82; refine HC.out.mono ?_; rintro e w1 ⟨p, c, rfl, hR, hE⟩; have SA := Lib.hid hR.at_)
  | (go_at_call 85; refine (rHas_is HB.out SA.out).mono ?_; rintro e w2 ⟨rfl, hE2⟩))
 go_returns
 exact ⟨rfl, hE.trans hE2⟩
theorem rIs_yes {w : World} {r : Rd} {S : Hp.Hs} {B : Nat} {L : List Hp.Tl} {ch : Nat → List Nat} (h : RAt w r S) (hw : Hp.Wf S B L ch) {a : Nat} (ha : a ∈ S.taken) : Calls Tryz.prog 26 #[.pointer (some ⟨r.rb, 0, none⟩), .int .i64 a] w fun e w' => e = .returned (.bool true) ∧ Ext w w' := by
 have := rIs h hw (a : Int)
 rw [show (cellsI S).contains (a : Int) = true by simpa using cellsI_mem.2 ⟨a, ha, rfl⟩] at this
 exact this
theorem fieldAt {w : World} {r : Rd} {S : Hp.Hs} {B : Nat} {L : List Hp.Tl} {ch : Nat → List Nat} (h : RAt w r S) (hw : Hp.Wf S B L ch) {a : Nat} (ha : a ∈ S.taken) : SliceAt w (some ⟨r.gb, r.go + (a + 4), none⟩) (r.wc - (a + 4)) (Hp.fz (Hp.ow S.words) S.sizes a) := by
 have pa := hw.part ha
 have hle := h.words.le
 have hcap := h.words.cap
 obtain ⟨b, o, e, hb, hc⟩ := h.words.cells (by omega)
 cases e
 refine ⟨by rw [Hp.fz_length]; omega, by omega, fun x hx => ?_, fun _ => ⟨r.gb, r.go + (a + 4), rfl, hb, fun j x hx => ?_⟩⟩
 · have := hw.fld_le ha x hx
   omega
 · have hj := rd_lt hx
   rw [Hp.fz_length] at hj
   unfold Hp.rd Hp.fz at hx
   rw [Hp.cut_get hj] at hx
   cases hx
   have := hc (a + 4 + j) _ (Hp.rd_ow (by omega))
   rw [Nat.add_assoc, Nat.add_assoc]
   rw [Nat.add_assoc] at this
   exact this
set_option maxHeartbeats 2000000 in
theorem rField {w : World} {r : Rd} {S : Hp.Hs} {B : Nat} {L : List Hp.Tl} {ch : Nat → List Nat} (h : RAt w r S) (hw : Hp.Wf S B L ch) {a : Nat} (ha : a ∈ S.taken) :
    Calls Tryz.prog 88 #[.pointer (some ⟨r.rb, 0, none⟩), .int .i64 a] w fun e w' => e = .returned (.slice (some ⟨r.gb, r.go + (a + 4), none⟩) (Hp.fz (Hp.ow S.words) S.sizes a).length (r.wc - (a + 4))) ∧ Ext w w' := by
  have pa := hw.part ha
  have hle := h.words.le
  have hcap := h.words.cap
  have LONG := Lib.hid (fun W (hW : Ext w W) => rLong_cell (h.ext hW) hw.fr.toFr (a := a) (by omega) (hw.cells.tags a ha))
  rw [Hp.fz_length]
  have c2 := h.c2
  have hlt := h.lt
  have hhi := hw.hi
  clear h hw ha
  generalize S.words.length = n at *
  generalize hk : Hp.wz S.sizes (Hp.ow S.words a) = k at *
  clear hk
  have s1 : IntKind.i64.wrap ((a : Int) + 4) = (a : Int) + 4 := IntWalk.i64_in _ (by omega)
  have s2 : IntKind.i64.wrap ((a : Int) + (k : Int)) = (a : Int) + (k : Int) := IntWalk.i64_in _ (by omega)
  have s3 : (0 : Int) ≤ (a : Int) + 4 := by omega
  have s4 : (a : Int) + 4 ≤ (a : Int) + (k : Int) := by omega
  have s5 : (a : Int) + (k : Int) ≤ (r.wc : Int) := by omega
  have s6 : ((a : Int) + 4).toNat = a + 4 := by omega
  have s7 : ((a : Int) + (k : Int)).toNat = a + k := by omega
  have s8 : a + k - (a + 4) = k - 4 := by omega
  have cne : ¬ r.wc = a + 4 := by omega
  go_enter Tryz.func88, Tryz.ntmps88
  go_wp2_with fail
  have PR37 := Lib.hid (fun (ww : World) (hSw : Ext w ww) => (hSw.cell hlt 2).trans c2)
  refine wp_region_seq (S := fun W => Ext w W) (R := Ext) (by kernel_rfl) Ext.refl ?_ ?_
  · exact exx
  refine' tkL (i := 0) (v := ?v0_1) rfl ?h0_1 ?r0_1
  case h0_1 => (intro w q; obtain c2' := PR37.out w q; go_simp; try with_reducible rfl)
  refine layy ?_
  refine' tkL (i := 1) (v := ?v1_2) rfl ?h1_2 ?r1_2
  case h1_2 => (intro w q; obtain c2' := PR37.out w q; go_simp; try with_reducible rfl)
  refine layy ?_
  refine' tkL (i := 2) (v := ?v2_3) rfl ?h2_3 ?r2_3
  case h2_3 => (intro w q; obtain c2' := PR37.out w q; go_simp; try with_reducible rfl)
  refine layy ?_
  refine' tkL (i := 3) (v := ?v3_4) rfl ?h3_4 ?r3_4
  case h3_4 => (intro w q; obtain c2' := PR37.out w q; go_simp; try with_reducible rfl)
  refine layy ?_
  refine' tkL (i := 4) (v := ?v4_5) rfl ?h4_5 ?r4_5
  case h4_5 => (intro w q; obtain c2' := PR37.out w q; go_simp; try with_reducible rfl)
  refine layy ?_
  refine' tkL (i := 5) (v := ?v5_6) rfl ?h5_6 ?r5_6
  case h5_6 => (intro w q; obtain c2' := PR37.out w q; go_simp; try with_reducible rfl)
  refine layy ?_
  refine' tkL (i := 6) (v := ?v6_7) rfl ?h6_7 ?r6_7
  case h6_7 => (intro w q; obtain c2' := PR37.out w q; go_simp; try with_reducible rfl)
  refine layy ?_
  refine' tkL (i := 7) (v := ?v7_8) rfl ?h7_8 ?r7_8
  case h7_8 => (intro w q; obtain c2' := PR37.out w q; go_simp; try with_reducible rfl)
  refine layy ?_
  refine' tkL (i := 8) (v := ?v8_9) rfl ?h8_9 ?r8_9
  case h8_9 => (intro w q; obtain c2' := PR37.out w q; go_simp; try with_reducible rfl)
  refine layy ?_
  refine' tkR (i := 9) (v := .int .i64 k) rfl (Or.inr ⟨by rfl, 67, _, ?hx9_10, ?hy9_10⟩) ?rest9_10
  case hx9_10 => (intro w hSw; go_simp; (try with_reducible rfl))
  case hy9_10 => exact fun w hE => (LONG.out _ hE).mono (fun _ _ h => ⟨h.1, h.2, Ext.trans hE h.2⟩)
  refine layy ?_
  refine' tkL (i := 10) (v := ?v10_11) rfl ?h10_11 ?r10_11
  case h10_11 => (intro w q; obtain c2' := PR37.out w q; go_simp; try with_reducible rfl)
  refine layy ?_
  refine' tkL (i := 11) (v := ?v11_12) rfl ?h11_12 ?r11_12
  case h11_12 => (intro w q; obtain c2' := PR37.out w q; go_simp; try with_reducible rfl)
  refine layy ?_
  refine' tkL (i := 12) (v := ?v12_13) rfl ?h12_13 ?r12_13
  case h12_13 => (intro w q; obtain c2' := PR37.out w q; go_simp; try with_reducible rfl)
  refine layy ?_
  refine wpAnyR_done (by kernel_rfl) ?_ _
  intro x1 _ Ex1
  go_wp2
  go_returns
  exact ⟨rfl, exx⟩
end Go.Proofs.YtdokmmhjmclmnaaGreat
namespace Go.Proofs.YtdokmmhjmclmnaaGreat
open Go.RowKit Go.Maps
theorem cellsI_rd {S : Hp.Hs} {j : Nat} (hj : j < S.taken.length) : ∃ a ∈ S.taken, S.taken[j]? = some a ∧ Hp.rd (cellsI S) j = some (a : Int) := by
 refine ⟨S.taken[j], List.getElem_mem hj, List.getElem?_eq_getElem hj, ?_⟩
 simp [Hp.rd, cellsI, hj]
theorem cellsI_len (S : Hp.Hs) : (cellsI S).length = S.taken.length := by simp [cellsI]
set_option maxRecDepth 100000 in
set_option maxHeartbeats 4000000 in
theorem rSame {w : World} {r : Rd} {S : Hp.Hs} {B : Nat} {L : List Hp.Tl} {ch : Nat → List Nat} (h : RAt w r S) (hw : Hp.Wf S B L ch) {a : Nat} (ha : a ∈ S.taken) {q : Option Addr} {qc : Nat} (hq : SliceAt w q qc (Hp.fz (Hp.ow S.words) S.sizes a)) :
    Calls Tryz.prog 133 #[.pointer (some ⟨r.rb, 0, none⟩), .int .i64 (Hp.ow S.words a), .slice q (Hp.fz (Hp.ow S.words) S.sizes a).length qc] w fun e w' => e = .returned (.int .i64 (a : Int)) ∧ Ext w w' := by
  have CELLS := Lib.hid (rCells_ h hw)
  have FLD := Lib.hid (fun b (hb : b ∈ S.taken) W (hW : Ext w W) => rField (h.ext hW) hw hb)
  have FAT := Lib.hid (fun b (hb : b ∈ S.taken) W (hW : Ext w W) => fieldAt (h.ext hW) hw hb)
  have HQ := Lib.hid hq
  have H := Lib.hid h
  have HW := Lib.hid hw
  have few := hw.few
  have hhi := hw.hi
  have hle := h.words.le
  have hcap := h.words.cap
  have hlt := h.lt
  have qcap := hq.cap
  obtain ⟨gbb, o', hp', hbb, _⟩ := h.words.cells (by have := hw.lo; omega)
  cases hp'
  obtain ⟨fs, hfs⟩ : ∃ fs, Hp.fz (Hp.ow S.words) S.sizes a = fs := ⟨_, rfl⟩
  have HFS := Lib.hid hfs
  obtain ⟨t, ht⟩ : ∃ t, Hp.ow S.words a = t := ⟨_, rfl⟩
  have HT := Lib.hid ht
  have c2 := h.c2
  obtain ⟨n, hn⟩ : ∃ n, S.words.length = n := ⟨_, rfl⟩
  have EN := Lib.hid hn
  rw [hfs, ht]
  rw [hn] at c2 hle few hhi
  have HA := Lib.hid ha
  have qle := hq.le
  rw [hfs] at qle
  clear h hw hq hfs ht hn ha
  obtain ⟨m, hm⟩ : ∃ m, S.taken.length = m := ⟨_, rfl⟩
  have EM := Lib.hid hm
  rw [hm] at few
  clear hm
  go_enter Tryz.func133, Tryz.ntmps133
  go_wp2_with (go_at_call 82; refine CELLS.out.mono ?_; rintro e w1 ⟨p, c, rfl, hR, hE⟩; rw [cellsI_len, EM.out]; have RR := Lib.hid hR.at_; have E1 := Lib.hid hE)
  clear hR hE CELLS
  have lle := RR.out.le
  have lcap := RR.out.cap
  rw [cellsI_len, EM.out] at lle
  go_loopg [8] m (fun g i wr => ∃ j : Nat, j ≤ m ∧ m - j ≤ g ∧ i = .int .i64 j ∧ Hid (Ext w1 wr) ∧ Hid (∀ i, i < j → S.taken[i]? ≠ some a))
  case atStart => exact ⟨0, Nat.zero_le _, by omega, rfl, Lib.hid (Ext.refl _), Lib.hid (fun i hi => absurd hi (Nat.not_lt_zero _))⟩
  case round =>
   obtain ⟨j, hj, hg, rfl, E, A⟩ := hrel
   by_cases hlt2 : j < m
   · obtain ⟨b, hb, hbj, hrd⟩ := cellsI_rd (S := S) (j := j) (by rw [EM.out]; exact hlt2)
     obtain ⟨lb, lo, hlp, hlbb, hlc⟩ := (RR.out.ext E.out).cells (by rw [cellsI_len, EM.out]; omega)
     have gl := hlc j _ hrd
     have Ew := E1.out.trans E.out
     have c2w := (Ew.cell hlt 2).trans c2
     have gw := (H.out.ext Ew).get (j := b) (by have := HW.out.part hb; omega)
     have pb := HW.out.part hb
     rw [EN.out] at pb
     have zb : r.rb < wr.heap.size := Nat.lt_of_lt_of_le hlt Ew.le
     have zg : r.gb < wr.heap.size := Nat.lt_of_lt_of_le hbb Ew.le
     have b1 : b < n := by omega
     have EW := Lib.hid Ew
     have HB := Lib.hid hb
     have HBJ := Lib.hid hbj
     have FLB := Lib.hid (fun W (hW : Ext w W) => FLD.out b hb W hW)
     have FAB := Lib.hid (fun W (hW : Ext w W) => FAT.out b hb W hW)
     obtain ⟨fl, hfl⟩ : ∃ fl, (Hp.fz (Hp.ow S.words) S.sizes b).length = fl := ⟨_, rfl⟩
     have EFL := Lib.hid hfl
     have tk : decide ((j : Int) < (m : Int)) = true := decide_eq_true (by omega)
     clear hrd hlc hbj hb pb hfl
     subst hlp
     by_cases hba : b = a
     · subst hba
       rw [HT.out] at gw
       have t0 : (t == t) = true := by simp
       have FLB2 : Hid (∀ W, Ext w W → Calls Tryz.prog 88 #[.pointer (some ⟨r.rb, 0, none⟩), .int .i64 b] W fun e w' => e = .returned (.slice (some ⟨r.gb, r.go + (b + 4), none⟩) fs.length (r.wc - (b + 4))) ∧ Ext W w') := Lib.hid (fun W hW => by rw [← HFS.out]; exact FLB.out W hW)
       have SM : Hid (∀ W, Ext w W → Calls Tryz.prog 24 #[.slice (some ⟨r.gb, r.go + (b + 4), none⟩) fs.length (r.wc - (b + 4)), .slice q fs.length qc] W fun e w' => e = .returned (.bool true) ∧ Ext W w') := Lib.hid (fun W hW => by
        have := dSame_is (b := true) (decide_eq_true rfl) (FAB.out W hW) (HQ.out.ext hW)
        rw [HFS.out] at this
        exact this)
       go_wp2_with fail
       have PR38 := Lib.hid (fun (ww : World) (hSw : Ext wr ww) => And.intro ((hSw.cell zb 2).trans c2w) (And.intro ((hSw.cell hlbb (lo + j)).trans gl) ((hSw.cell zg (r.go + b)).trans gw)))
       refine wp_region_seq (S := fun W => Ext wr W) (R := Ext) (by kernel_rfl) Ext.refl ?_ ?_
       · exact exx
       refine' tkL (i := 0) (v := ?v0_1) rfl ?h0_1 ?r0_1
       case h0_1 => (intro w q; obtain ⟨c2', gl', gw'⟩ := PR38.out w q; go_simp; try with_reducible rfl)
       refine layy ?_
       refine' tkL (i := 1) (v := ?v1_2) rfl ?h1_2 ?r1_2
       case h1_2 => (intro w q; obtain ⟨c2', gl', gw'⟩ := PR38.out w q; go_simp; try with_reducible rfl)
       refine layy ?_
       refine' tkL (i := 2) (v := ?v2_3) rfl ?h2_3 ?r2_3
       case h2_3 => (intro w q; obtain ⟨c2', gl', gw'⟩ := PR38.out w q; go_simp; try with_reducible rfl)
       refine layy ?_
       refine' tkL (i := 3) (v := ?v3_4) rfl ?h3_4 ?r3_4
       case h3_4 => (intro w q; obtain ⟨c2', gl', gw'⟩ := PR38.out w q; go_simp; try with_reducible rfl)
       refine layy ?_
       refine' tkL (i := 4) (v := ?v4_5) rfl ?h4_5 ?r4_5
       case h4_5 => (intro w q; obtain ⟨c2', gl', gw'⟩ := PR38.out w q; go_simp; try with_reducible rfl)
       refine layy ?_
       refine' tkL (i := 5) (v := ?v5_6) rfl ?h5_6 ?r5_6
       case h5_6 => (intro w q; obtain ⟨c2', gl', gw'⟩ := PR38.out w q; go_simp; try with_reducible rfl)
       refine layy ?_
       refine' tkL (i := 6) (v := ?v6_7) rfl ?h6_7 ?r6_7
       case h6_7 => (intro w q; obtain ⟨c2', gl', gw'⟩ := PR38.out w q; go_simp; try with_reducible rfl)
       refine layy ?_
       refine' tkL (i := 7) (v := ?v7_8) rfl ?h7_8 ?r7_8
       case h7_8 => (intro w q; obtain ⟨c2', gl', gw'⟩ := PR38.out w q; go_simp; try with_reducible rfl)
       refine layy ?_
       refine' tkL (i := 8) (v := ?v8_9) rfl ?h8_9 ?r8_9
       case h8_9 => (intro w q; obtain ⟨c2', gl', gw'⟩ := PR38.out w q; go_simp; try with_reducible rfl)
       refine layy ?_
       refine' tkL (i := 9) (v := ?v9_10) rfl ?h9_10 ?r9_10
       case h9_10 => (intro w q; obtain ⟨c2', gl', gw'⟩ := PR38.out w q; go_simp; try with_reducible rfl)
       refine layy ?_
       refine' tkL (i := 10) (v := ?v10_11) rfl ?h10_11 ?r10_11
       case h10_11 => (intro w q; obtain ⟨c2', gl', gw'⟩ := PR38.out w q; go_simp; try with_reducible rfl)
       refine layy ?_
       refine' tkL (i := 11) (v := ?v11_12) rfl ?h11_12 ?r11_12
       case h11_12 => (intro w q; obtain ⟨c2', gl', gw'⟩ := PR38.out w q; go_simp; try with_reducible rfl)
       refine layy ?_
       refine' tkL (i := 12) (v := ?v12_13) rfl ?h12_13 ?r12_13
       case h12_13 => (intro w q; obtain ⟨c2', gl', gw'⟩ := PR38.out w q; go_simp; try with_reducible rfl)
       refine layy ?_
       refine' tkL (i := 13) (v := ?v13_14) rfl ?h13_14 ?r13_14
       case h13_14 => (intro w q; obtain ⟨c2', gl', gw'⟩ := PR38.out w q; go_simp; try with_reducible rfl)
       refine layy ?_
       refine' tkL (i := 14) (v := ?v14_15) rfl ?h14_15 ?r14_15
       case h14_15 => (intro w q; obtain ⟨c2', gl', gw'⟩ := PR38.out w q; go_simp; try with_reducible rfl)
       refine layy ?_
       refine' tkL (i := 15) (v := ?v15_16) rfl ?h15_16 ?r15_16
       case h15_16 => (intro w q; obtain ⟨c2', gl', gw'⟩ := PR38.out w q; go_simp; try with_reducible rfl)
       refine layy ?_
       refine' tkL (i := 16) (v := ?v16_17) rfl ?h16_17 ?r16_17
       case h16_17 => (intro w q; obtain ⟨c2', gl', gw'⟩ := PR38.out w q; go_simp; try with_reducible rfl)
       refine layy ?_
       refine' tkL (i := 17) (v := ?v17_18) rfl ?h17_18 ?r17_18
       case h17_18 => (intro w q; obtain ⟨c2', gl', gw'⟩ := PR38.out w q; go_simp; try with_reducible rfl)
       refine layy ?_
       refine' tkR (i := 18) (v := .slice (some ⟨r.gb, r.go + (b + 4), none⟩) fs.length (r.wc - (b + 4))) rfl (Or.inr ⟨by rfl, 88, _, ?hx18_19, ?hy18_19⟩) ?rest18_19
       case hx18_19 => (intro w hSw; go_simp; (try with_reducible rfl))
       case hy18_19 => exact fun w hE => (FLB2.out _ (EW.out.trans hE)).mono (fun _ _ h => ⟨h.1, h.2, Ext.trans hE h.2⟩)
       refine layy ?_
       refine' tkL (i := 19) (v := ?v19_20) rfl ?h19_20 ?r19_20
       case h19_20 => (intro w q; obtain ⟨c2', gl', gw'⟩ := PR38.out w q; go_simp; try with_reducible rfl)
       refine layy ?_
       refine' tkR (i := 20) (v := .bool true) rfl (Or.inr ⟨by rfl, 24, _, ?hx20_21, ?hy20_21⟩) ?rest20_21
       case hx20_21 => (intro w hSw; go_simp; (try with_reducible rfl))
       case hy20_21 => exact fun w hE => (SM.out _ (EW.out.trans hE)).mono (fun _ _ h => ⟨h.1, h.2, Ext.trans hE h.2⟩)
       refine layy ?_
       refine' tkL (i := 21) (v := ?v21_22) rfl ?h21_22 ?r21_22
       case h21_22 => (intro w q; obtain ⟨c2', gl', gw'⟩ := PR38.out w q; go_simp; try with_reducible rfl)
       refine layy ?_
       refine wpAnyR_done (by kernel_rfl) ?_ _
       intro x1 _ Ex1
       have gl2 := (Ex1.cell hlbb (lo + j)).trans gl
       go_wp2_with fail
       go_returns
       exact ⟨rfl, EW.out.trans Ex1⟩
     · have A2 : Hid (∀ i, i < j + 1 → S.taken[i]? ≠ some a) := Lib.hid (fun i hi => by
         by_cases e : i = j
         · subst e
           rw [HBJ.out]
           simpa using hba
         · exact A.out i (by omega))
       by_cases hbt : Hp.ow S.words b = t
       · rw [hbt] at gw
         have t0 : (t == t) = true := by simp
         have FLB2 : Hid (∀ W, Ext w W → Calls Tryz.prog 88 #[.pointer (some ⟨r.rb, 0, none⟩), .int .i64 b] W fun e w' => e = .returned (.slice (some ⟨r.gb, r.go + (b + 4), none⟩) fl (r.wc - (b + 4))) ∧ Ext W w') := Lib.hid (fun W hW => by rw [← EFL.out]; exact FLB.out W hW)
         have SM : Hid (∀ W, Ext w W → Calls Tryz.prog 24 #[.slice (some ⟨r.gb, r.go + (b + 4), none⟩) fl (r.wc - (b + 4)), .slice q fs.length qc] W fun e w' => e = .returned (.bool false) ∧ Ext W w') := Lib.hid (fun W hW => by
          have := dSame_is (b := false) (decide_eq_false (fun e => hba (HW.out.cells.one b HB.out a HA.out (hbt.trans HT.out.symm) e))) (FAB.out W hW) (HQ.out.ext hW)
          rw [HFS.out, EFL.out] at this
          exact this)
         clear hbt hba
         go_wp2_with fail
         have PR39 := Lib.hid (fun (ww : World) (hSw : Ext wr ww) => And.intro ((hSw.cell zb 2).trans c2w) (And.intro ((hSw.cell hlbb (lo + j)).trans gl) ((hSw.cell zg (r.go + b)).trans gw)))
         refine wp_region_seq (S := fun W => Ext wr W) (R := Ext) (by kernel_rfl) Ext.refl ?_ ?_
         · exact exx
         refine' tkL (i := 0) (v := ?v0_23) rfl ?h0_23 ?r0_23
         case h0_23 => (intro w q; obtain ⟨c2', gl', gw'⟩ := PR39.out w q; go_simp; try with_reducible rfl)
         refine layy ?_
         refine' tkL (i := 1) (v := ?v1_24) rfl ?h1_24 ?r1_24
         case h1_24 => (intro w q; obtain ⟨c2', gl', gw'⟩ := PR39.out w q; go_simp; try with_reducible rfl)
         refine layy ?_
         refine' tkL (i := 2) (v := ?v2_25) rfl ?h2_25 ?r2_25
         case h2_25 => (intro w q; obtain ⟨c2', gl', gw'⟩ := PR39.out w q; go_simp; try with_reducible rfl)
         refine layy ?_
         refine' tkL (i := 3) (v := ?v3_26) rfl ?h3_26 ?r3_26
         case h3_26 => (intro w q; obtain ⟨c2', gl', gw'⟩ := PR39.out w q; go_simp; try with_reducible rfl)
         refine layy ?_
         refine' tkL (i := 4) (v := ?v4_27) rfl ?h4_27 ?r4_27
         case h4_27 => (intro w q; obtain ⟨c2', gl', gw'⟩ := PR39.out w q; go_simp; try with_reducible rfl)
         refine layy ?_
         refine' tkL (i := 5) (v := ?v5_28) rfl ?h5_28 ?r5_28
         case h5_28 => (intro w q; obtain ⟨c2', gl', gw'⟩ := PR39.out w q; go_simp; try with_reducible rfl)
         refine layy ?_
         refine' tkL (i := 6) (v := ?v6_29) rfl ?h6_29 ?r6_29
         case h6_29 => (intro w q; obtain ⟨c2', gl', gw'⟩ := PR39.out w q; go_simp; try with_reducible rfl)
         refine layy ?_
         refine' tkL (i := 7) (v := ?v7_30) rfl ?h7_30 ?r7_30
         case h7_30 => (intro w q; obtain ⟨c2', gl', gw'⟩ := PR39.out w q; go_simp; try with_reducible rfl)
         refine layy ?_
         refine' tkL (i := 8) (v := ?v8_31) rfl ?h8_31 ?r8_31
         case h8_31 => (intro w q; obtain ⟨c2', gl', gw'⟩ := PR39.out w q; go_simp; try with_reducible rfl)
         refine layy ?_
         refine' tkL (i := 9) (v := ?v9_32) rfl ?h9_32 ?r9_32
         case h9_32 => (intro w q; obtain ⟨c2', gl', gw'⟩ := PR39.out w q; go_simp; try with_reducible rfl)
         refine layy ?_
         refine' tkL (i := 10) (v := ?v10_33) rfl ?h10_33 ?r10_33
         case h10_33 => (intro w q; obtain ⟨c2', gl', gw'⟩ := PR39.out w q; go_simp; try with_reducible rfl)
         refine layy ?_
         refine' tkL (i := 11) (v := ?v11_34) rfl ?h11_34 ?r11_34
         case h11_34 => (intro w q; obtain ⟨c2', gl', gw'⟩ := PR39.out w q; go_simp; try with_reducible rfl)
         refine layy ?_
         refine' tkL (i := 12) (v := ?v12_35) rfl ?h12_35 ?r12_35
         case h12_35 => (intro w q; obtain ⟨c2', gl', gw'⟩ := PR39.out w q; go_simp; try with_reducible rfl)
         refine layy ?_
         refine' tkL (i := 13) (v := ?v13_36) rfl ?h13_36 ?r13_36
         case h13_36 => (intro w q; obtain ⟨c2', gl', gw'⟩ := PR39.out w q; go_simp; try with_reducible rfl)
         refine layy ?_
         refine' tkL (i := 14) (v := ?v14_37) rfl ?h14_37 ?r14_37
         case h14_37 => (intro w q; obtain ⟨c2', gl', gw'⟩ := PR39.out w q; go_simp; try with_reducible rfl)
         refine layy ?_
         refine' tkL (i := 15) (v := ?v15_38) rfl ?h15_38 ?r15_38
         case h15_38 => (intro w q; obtain ⟨c2', gl', gw'⟩ := PR39.out w q; go_simp; try with_reducible rfl)
         refine layy ?_
         refine' tkL (i := 16) (v := ?v16_39) rfl ?h16_39 ?r16_39
         case h16_39 => (intro w q; obtain ⟨c2', gl', gw'⟩ := PR39.out w q; go_simp; try with_reducible rfl)
         refine layy ?_
         refine' tkL (i := 17) (v := ?v17_40) rfl ?h17_40 ?r17_40
         case h17_40 => (intro w q; obtain ⟨c2', gl', gw'⟩ := PR39.out w q; go_simp; try with_reducible rfl)
         refine layy ?_
         refine' tkR (i := 18) (v := .slice (some ⟨r.gb, r.go + (b + 4), none⟩) fl (r.wc - (b + 4))) rfl (Or.inr ⟨by rfl, 88, _, ?hx18_41, ?hy18_41⟩) ?rest18_41
         case hx18_41 => (intro w hSw; go_simp; (try with_reducible rfl))
         case hy18_41 => exact fun w hE => (FLB2.out _ (EW.out.trans hE)).mono (fun _ _ h => ⟨h.1, h.2, Ext.trans hE h.2⟩)
         refine layy ?_
         refine' tkL (i := 19) (v := ?v19_42) rfl ?h19_42 ?r19_42
         case h19_42 => (intro w q; obtain ⟨c2', gl', gw'⟩ := PR39.out w q; go_simp; try with_reducible rfl)
         refine layy ?_
         refine' tkR (i := 20) (v := .bool false) rfl (Or.inr ⟨by rfl, 24, _, ?hx20_43, ?hy20_43⟩) ?rest20_43
         case hx20_43 => (intro w hSw; go_simp; (try with_reducible rfl))
         case hy20_43 => exact fun w hE => (SM.out _ (EW.out.trans hE)).mono (fun _ _ h => ⟨h.1, h.2, Ext.trans hE h.2⟩)
         refine layy ?_
         refine' tkL (i := 21) (v := ?v21_44) rfl ?h21_44 ?r21_44
         case h21_44 => (intro w q; obtain ⟨c2', gl', gw'⟩ := PR39.out w q; go_simp; try with_reducible rfl)
         refine layy ?_
         refine wpAnyR_done (by kernel_rfl) ?_ _
         intro x1 _ Ex1
         have E2 := Lib.hid (E.out.trans Ex1)
         go_wp2_with fail
         go_roundg (m - (j + 1))
         case measure => omega
         case rel => exact ⟨j + 1, by omega, Nat.le_refl _, by go_num, E2, A2⟩
       · have t0 : (Hp.ow S.words b == t) = false := by simpa using hbt
         clear hbt hba
         generalize Hp.ow S.words b = y at *
         go_wp2_with fail
         have PR40 := Lib.hid (fun (ww : World) (hSw : Ext wr ww) => And.intro ((hSw.cell zb 2).trans c2w) (And.intro ((hSw.cell hlbb (lo + j)).trans gl) ((hSw.cell zg (r.go + b)).trans gw)))
         refine wp_region_seq (S := fun W => Ext wr W) (R := Ext) (by kernel_rfl) Ext.refl ?_ ?_
         · exact exx
         refine' tkL (i := 0) (v := ?v0_45) rfl ?h0_45 ?r0_45
         case h0_45 => (intro w q; obtain ⟨c2', gl', gw'⟩ := PR40.out w q; go_simp; try with_reducible rfl)
         refine layy ?_
         refine' tkL (i := 1) (v := ?v1_46) rfl ?h1_46 ?r1_46
         case h1_46 => (intro w q; obtain ⟨c2', gl', gw'⟩ := PR40.out w q; go_simp; try with_reducible rfl)
         refine layy ?_
         refine' tkL (i := 2) (v := ?v2_47) rfl ?h2_47 ?r2_47
         case h2_47 => (intro w q; obtain ⟨c2', gl', gw'⟩ := PR40.out w q; go_simp; try with_reducible rfl)
         refine layy ?_
         refine' tkL (i := 3) (v := ?v3_48) rfl ?h3_48 ?r3_48
         case h3_48 => (intro w q; obtain ⟨c2', gl', gw'⟩ := PR40.out w q; go_simp; try with_reducible rfl)
         refine layy ?_
         refine' tkL (i := 4) (v := ?v4_49) rfl ?h4_49 ?r4_49
         case h4_49 => (intro w q; obtain ⟨c2', gl', gw'⟩ := PR40.out w q; go_simp; try with_reducible rfl)
         refine layy ?_
         refine' tkL (i := 5) (v := ?v5_50) rfl ?h5_50 ?r5_50
         case h5_50 => (intro w q; obtain ⟨c2', gl', gw'⟩ := PR40.out w q; go_simp; try with_reducible rfl)
         refine layy ?_
         refine' tkL (i := 6) (v := ?v6_51) rfl ?h6_51 ?r6_51
         case h6_51 => (intro w q; obtain ⟨c2', gl', gw'⟩ := PR40.out w q; go_simp; try with_reducible rfl)
         refine layy ?_
         refine' tkL (i := 7) (v := ?v7_52) rfl ?h7_52 ?r7_52
         case h7_52 => (intro w q; obtain ⟨c2', gl', gw'⟩ := PR40.out w q; go_simp; try with_reducible rfl)
         refine layy ?_
         refine' tkL (i := 8) (v := ?v8_53) rfl ?h8_53 ?r8_53
         case h8_53 => (intro w q; obtain ⟨c2', gl', gw'⟩ := PR40.out w q; go_simp; try with_reducible rfl)
         refine layy ?_
         refine' tkL (i := 9) (v := ?v9_54) rfl ?h9_54 ?r9_54
         case h9_54 => (intro w q; obtain ⟨c2', gl', gw'⟩ := PR40.out w q; go_simp; try with_reducible rfl)
         refine layy ?_
         refine' tkL (i := 10) (v := ?v10_55) rfl ?h10_55 ?r10_55
         case h10_55 => (intro w q; obtain ⟨c2', gl', gw'⟩ := PR40.out w q; go_simp; try with_reducible rfl)
         refine layy ?_
         refine' tkL (i := 11) (v := ?v11_56) rfl ?h11_56 ?r11_56
         case h11_56 => (intro w q; obtain ⟨c2', gl', gw'⟩ := PR40.out w q; go_simp; try with_reducible rfl)
         refine layy ?_
         refine' tkL (i := 12) (v := ?v12_57) rfl ?h12_57 ?r12_57
         case h12_57 => (intro w q; obtain ⟨c2', gl', gw'⟩ := PR40.out w q; go_simp; try with_reducible rfl)
         refine layy ?_
         refine' tkR (i := 13) (v := undef) rfl (Or.inl (Or.inr ⟨by rfl, rfl⟩)) ?rest13_58
         refine layy ?_
         refine' tkR (i := 14) (v := undef) rfl (Or.inl (Or.inr ⟨by rfl, rfl⟩)) ?rest14_59
         refine layy ?_
         refine' tkR (i := 15) (v := undef) rfl (Or.inl (Or.inr ⟨by rfl, rfl⟩)) ?rest15_60
         refine layy ?_
         refine' tkR (i := 16) (v := undef) rfl (Or.inl (Or.inr ⟨by rfl, rfl⟩)) ?rest16_61
         refine layy ?_
         refine' tkR (i := 17) (v := undef) rfl (Or.inl (Or.inr ⟨by rfl, rfl⟩)) ?rest17_62
         refine layy ?_
         refine' tkR (i := 18) (v := undef) rfl (Or.inl (Or.inr ⟨by rfl, rfl⟩)) ?rest18_63
         refine layy ?_
         refine' tkR (i := 19) (v := undef) rfl (Or.inl (Or.inr ⟨by rfl, rfl⟩)) ?rest19_64
         refine layy ?_
         refine' tkR (i := 20) (v := undef) rfl (Or.inl (Or.inr ⟨by rfl, rfl⟩)) ?rest20_65
         refine layy ?_
         refine' tkL (i := 21) (v := ?v21_66) rfl ?h21_66 ?r21_66
         case h21_66 => (intro w q; obtain ⟨c2', gl', gw'⟩ := PR40.out w q; go_simp; try with_reducible rfl)
         refine layy ?_
         refine wpAnyR_done (by kernel_rfl) ?_ _
         intro x1 _ Ex1
         have E2 := Lib.hid (E.out.trans Ex1)
         go_wp2_with fail
         go_roundg (m - (j + 1))
         case measure => omega
         case rel => exact ⟨j + 1, by omega, Nat.le_refl _, by go_num, E2, A2⟩
   · exfalso
     have : j = m := by omega
     subst this
     obtain ⟨i, hi, e⟩ := List.getElem_of_mem HA.out
     exact A.out i (by rw [← EM.out]; exact hi) (by rw [List.getElem?_eq_getElem hi, e])
end Go.Proofs.YtdokmmhjmclmnaaGreat
namespace Go.Proofs.YtdokmmhjmclmnaaGreat
open Go.RowKit Go.Maps
set_option maxHeartbeats 4000000 in
theorem dProduct {w : World} {p : Option Addr} {c : Nat} {l : List Int} (h : SliceAt w p c l) (hb : ∀ s ∈ l, 1 ≤ s ∧ s ≤ 12) :
    Calls Tryz.prog 119 #[.slice p l.length c, .int .i64 0] w fun e w' => e = .returned (.int .i64 (Hp.prodM l)) ∧ Ext w w' := by
  have hle := h.le
  have hcap := h.cap
  have H := Lib.hid h
  have HB := Lib.hid hb
  clear h hb
  obtain ⟨n, hL⟩ : ∃ n, l.length = n := ⟨_, rfl⟩
  have HL := Lib.hid hL
  rw [hL] at hle ⊢
  clear hL
  go_enter Tryz.func119, Tryz.ntmps119
  go_wp2_with fail
  go_loopg [5, 6] n (fun g s i wr => ∃ (j : Nat) (m : Int), j ≤ n ∧ n - j ≤ g ∧ i = .int .i64 j ∧ s = .int .i64 m ∧ 0 ≤ m ∧ m ≤ 3000 ∧ Hid (m = Hp.prodM (l.take j)) ∧ Hid (Ext w wr))
  case atStart => exact ⟨0, 1, Nat.zero_le _, by omega, rfl, rfl, by omega, by omega, Lib.hid rfl, Lib.hid exx⟩
  case round =>
   obtain ⟨j, m, hj, hg, rfl, rfl, hm0, hm1, HP, E⟩ := hrel
   by_cases hlt : j < n
   · obtain ⟨x, hx⟩ := rd_get (l := l) (j := j) (by rw [HL.out]; exact hlt)
     have hxb := HB.out x (List.mem_of_getElem? hx)
     obtain ⟨b, o, rfl, hb, hcell⟩ := (H.out.ext E.out).cells (by rw [HL.out]; omega)
     have gx := hcell j x hx
     have hp1 : m * x ≤ 36000 := by
      have := Int.mul_le_mul hm1 hxb.2 (by omega) (by omega)
      omega
     have hp0 : 0 ≤ m * x := Int.mul_nonneg hm0 (by omega)
     have HP2 := Lib.hid (show min 3000 (m * x) = Hp.prodM (l.take (j + 1)) by rw [take_snocI hx, Hp.prodM_snoc, HP.out])
     clear hcell hx hxb HP
     generalize he : m * x = qv at hp0 hp1 HP2
     have e2 : wrap64 (m * x) = qv := by rw [he]; exact IntWalk.wrap64_in _ ⟨by omega, by omega⟩
     clear he
     go_wp2_with fail
     go_roundg (n - (j + 1))
     case measure => omega
     case rel => exact ⟨j + 1, min 3000 qv, by omega, Nat.le_refl _, by go_num, rfl, by omega, by omega, HP2, E⟩
   · have : j = n := by omega
     subst this
     have hp := HP.out
     rw [← HL.out, List.take_length] at hp
     subst hp
     go_wp2_with fail
     go_returns
     exact ⟨rfl, E.out⟩
set_option maxHeartbeats 4000000 in
theorem dIsOrder {w : World} {p q : Option Addr} {c d n : Nat} {o : List Int} {b : Bool} (h : SliceAt w q d o) (hn : n ≤ 1000) (hb : b = true ↔ Hp.OrdOk n o) :
    Calls Tryz.prog 120 #[.slice p n c, .slice q o.length d] w fun e w' => e = .returned (.bool b) ∧ Ext w w' := by
  have hle := h.le
  have hcap := h.cap
  have H := Lib.hid h
  have HB := Lib.hid hb
  clear h hb
  by_cases hq : o.length = n
  · rw [hq] at hle ⊢
    have HL := Lib.hid hq
    clear hq
    have tq : ((n : Int) != (n : Int)) = false := by simp
    go_enter Tryz.func120, Tryz.ntmps120
    go_wp2_with fail
    go_loopg [5] n (fun g i wr => ∃ j : Nat, j ≤ n ∧ n - j ≤ g ∧ i = .int .i64 j ∧ Hid (Hp.OrdTo n o j) ∧ Hid (Ext w wr))
    case atStart => exact ⟨0, Nat.zero_le _, by omega, rfl, Lib.hid (fun k x hk => by omega), Lib.hid exx⟩
    case round =>
     obtain ⟨j, hj, hg, rfl, A, E⟩ := hrel
     by_cases hlt : j < n
     · obtain ⟨x, hx⟩ := rd_get (l := o) (j := j) (by rw [HL.out]; exact hlt)
       have HX := Lib.hid hx
       obtain ⟨bb, oo, rfl, hbb, hcell⟩ := (H.out.ext E.out).cells (by rw [HL.out]; omega)
       have gx := hcell j x hx
       have HC := Lib.hid hcell
       have tk : decide ((j : Int) < (n : Int)) = true := decide_eq_true (by omega)
       have sb : IntKind.i64.wrap ((n : Int) - 1) = (n : Int) - 1 := IntWalk.i64_in _ (by omega)
       clear hcell hx
       cases hw : Hp.within 0 ((n : Int) - 1) x with
       | false =>
        have hbf : b = false := by
         cases b with
         | false => rfl
         | true =>
          have h1 := (HB.out.1 rfl).2 j x hlt HX.out
          simp [Hp.within, h1.1] at hw
        subst hbf
        have HI := Lib.hid (fun W => hw ▸ dIn x 0 ((n : Int) - 1) W)
        clear hw
        go_wp2_with (go_at_call 66; refine (HI.out _).mono ?_; rintro e w1 ⟨rfl, hb1⟩; obtain ⟨hc1, hf1, hs1⟩ := hb1.cells)
        go_returns
        exact ⟨rfl, E.out.trans hb1⟩
       | true =>
        have hwi : 0 ≤ x ∧ x ≤ (n : Int) - 1 := by simpa [Hp.within] using hw
        have HI := Lib.hid (fun W => hw ▸ dIn x 0 ((n : Int) - 1) W)
        clear hw
        go_wp2_with (go_at_call 66; refine (HI.out _).mono ?_; rintro e w1 ⟨rfl, hb1⟩; obtain ⟨hc1, hf1, hs1⟩ := hb1.cells)
        have E1 := Lib.hid (E.out.trans hb1)
        have E1l := Lib.hid hb1
        have zb := Nat.lt_of_lt_of_le hbb hb1.le
        go_loopg [6] (j + 1) (fun g i wr => ∃ k : Nat, k ≤ j ∧ j + 1 - k ≤ g ∧ i = .int .i64 k ∧ Hid (∀ m y, m < k → Hp.rd o m = some y → y ≠ x) ∧ Hid (Ext w1 wr))
        case atStart => exact ⟨0, Nat.zero_le _, by omega, rfl, Lib.hid (fun m y hm => by omega), Lib.hid (Ext.refl _)⟩
        case round =>
         obtain ⟨k, hk, hg2, rfl, A2, E2⟩ := hrel
         by_cases hkj : k < j
         · obtain ⟨y, hy⟩ := rd_get (l := o) (j := k) (by rw [HL.out]; omega)
           have HY := Lib.hid hy
           have gx' := (E2.out.cell zb (oo + j)).trans ((E1l.out.cell hbb _).trans gx)
           have gy' := (E2.out.cell zb (oo + k)).trans ((E1l.out.cell hbb _).trans (HC.out k y hy))
           have zr := Nat.lt_of_lt_of_le zb E2.out.le
           have tk2 : decide ((k : Int) < (j : Int)) = true := decide_eq_true (by omega)
           have kn : k < n := by omega
           clear hy
           by_cases hxy : y = x
           · have t0 : (y == x) = true := by simpa using hxy
             have hbf : b = false := by
              cases b with
              | false => rfl
              | true => exact absurd hxy (((HB.out.1 rfl).2 j x hlt HX.out).2 k y hkj HY.out)
             subst hbf
             clear hxy
             go_wp2_with fail
             have PR41 := Lib.hid (fun (ww : World) (hSw : Ext wr ww) => And.intro ((hSw.cell zr (oo + j)).trans gx') ((hSw.cell zr (oo + k)).trans gy'))
             refine wp_region_seq (S := fun W => Ext wr W) (R := Ext) (by kernel_rfl) Ext.refl ?_ ?_
             · exact exx
             refine' tkL (i := 0) (v := ?v0_1) rfl ?h0_1 ?r0_1
             case h0_1 => (intro w q; obtain ⟨gx'', gy''⟩ := PR41.out w q; go_simp; try with_reducible rfl)
             refine layy ?_
             refine' tkL (i := 1) (v := ?v1_2) rfl ?h1_2 ?r1_2
             case h1_2 => (intro w q; obtain ⟨gx'', gy''⟩ := PR41.out w q; go_simp; try with_reducible rfl)
             refine layy ?_
             refine' tkL (i := 2) (v := ?v2_3) rfl ?h2_3 ?r2_3
             case h2_3 => (intro w q; obtain ⟨gx'', gy''⟩ := PR41.out w q; go_simp; try with_reducible rfl)
             refine layy ?_
             refine' tkL (i := 3) (v := ?v3_4) rfl ?h3_4 ?r3_4
             case h3_4 => (intro w q; obtain ⟨gx'', gy''⟩ := PR41.out w q; go_simp; try with_reducible rfl)
             refine layy ?_
             refine' tkL (i := 4) (v := ?v4_5) rfl ?h4_5 ?r4_5
             case h4_5 => (intro w q; obtain ⟨gx'', gy''⟩ := PR41.out w q; go_simp; try with_reducible rfl)
             refine layy ?_
             refine' tkL (i := 5) (v := ?v5_6) rfl ?h5_6 ?r5_6
             case h5_6 => (intro w q; obtain ⟨gx'', gy''⟩ := PR41.out w q; go_simp; try with_reducible rfl)
             refine layy ?_
             refine' tkL (i := 6) (v := ?v6_7) rfl ?h6_7 ?r6_7
             case h6_7 => (intro w q; obtain ⟨gx'', gy''⟩ := PR41.out w q; go_simp; try with_reducible rfl)
             refine layy ?_
             refine' tkL (i := 7) (v := ?v7_8) rfl ?h7_8 ?r7_8
             case h7_8 => (intro w q; obtain ⟨gx'', gy''⟩ := PR41.out w q; go_simp; try with_reducible rfl)
             refine layy ?_
             refine' tkL (i := 8) (v := ?v8_9) rfl ?h8_9 ?r8_9
             case h8_9 => (intro w q; obtain ⟨gx'', gy''⟩ := PR41.out w q; go_simp; try with_reducible rfl)
             refine layy ?_
             refine wpAnyR_done (by kernel_rfl) ?_ _
             intro x1 _ Ex1
             go_wp2_with fail
             go_returns
             exact ⟨rfl, (E1.out.trans E2.out).trans Ex1⟩
           · have t0 : (y == x) = false := by simpa using hxy
             have A3 := Lib.hid (show ∀ m z, m < k + 1 → Hp.rd o m = some z → z ≠ x from fun m z hm hz => by
              by_cases e : m = k
              · subst e
                rw [HY.out] at hz
                cases hz
                exact hxy
              · exact A2.out m z (by omega) hz)
             clear hxy
             go_wp2_with fail
             have PR42 := Lib.hid (fun (ww : World) (hSw : Ext wr ww) => And.intro ((hSw.cell zr (oo + j)).trans gx') ((hSw.cell zr (oo + k)).trans gy'))
             refine wp_region_seq (S := fun W => Ext wr W) (R := Ext) (by kernel_rfl) Ext.refl ?_ ?_
             · exact exx
             refine' tkL (i := 0) (v := ?v0_10) rfl ?h0_10 ?r0_10
             case h0_10 => (intro w q; obtain ⟨gx'', gy''⟩ := PR42.out w q; go_simp; try with_reducible rfl)
             refine layy ?_
             refine' tkL (i := 1) (v := ?v1_11) rfl ?h1_11 ?r1_11
             case h1_11 => (intro w q; obtain ⟨gx'', gy''⟩ := PR42.out w q; go_simp; try with_reducible rfl)
             refine layy ?_
             refine' tkL (i := 2) (v := ?v2_12) rfl ?h2_12 ?r2_12
             case h2_12 => (intro w q; obtain ⟨gx'', gy''⟩ := PR42.out w q; go_simp; try with_reducible rfl)
             refine layy ?_
             refine' tkL (i := 3) (v := ?v3_13) rfl ?h3_13 ?r3_13
             case h3_13 => (intro w q; obtain ⟨gx'', gy''⟩ := PR42.out w q; go_simp; try with_reducible rfl)
             refine layy ?_
             refine' tkL (i := 4) (v := ?v4_14) rfl ?h4_14 ?r4_14
             case h4_14 => (intro w q; obtain ⟨gx'', gy''⟩ := PR42.out w q; go_simp; try with_reducible rfl)
             refine layy ?_
             refine' tkL (i := 5) (v := ?v5_15) rfl ?h5_15 ?r5_15
             case h5_15 => (intro w q; obtain ⟨gx'', gy''⟩ := PR42.out w q; go_simp; try with_reducible rfl)
             refine layy ?_
             refine' tkL (i := 6) (v := ?v6_16) rfl ?h6_16 ?r6_16
             case h6_16 => (intro w q; obtain ⟨gx'', gy''⟩ := PR42.out w q; go_simp; try with_reducible rfl)
             refine layy ?_
             refine' tkL (i := 7) (v := ?v7_17) rfl ?h7_17 ?r7_17
             case h7_17 => (intro w q; obtain ⟨gx'', gy''⟩ := PR42.out w q; go_simp; try with_reducible rfl)
             refine layy ?_
             refine' tkL (i := 8) (v := ?v8_18) rfl ?h8_18 ?r8_18
             case h8_18 => (intro w q; obtain ⟨gx'', gy''⟩ := PR42.out w q; go_simp; try with_reducible rfl)
             refine layy ?_
             refine wpAnyR_done (by kernel_rfl) ?_ _
             intro x1 _ Ex1
             have E3 := Lib.hid (E2.out.trans Ex1)
             go_wp2_with fail
             go_roundg (j + 1 - (k + 1))
             case measure => omega
             case rel => exact ⟨k + 1, by omega, Nat.le_refl _, by go_num, A3, E3⟩
         · have tk2 : decide ((k : Int) < (j : Int)) = false := decide_eq_false (by omega)
           have : k = j := by omega
           subst this
           have E3 := Lib.hid (E1.out.trans E2.out)
           have A3 := Lib.hid (show Hp.OrdTo n o (k + 1) from fun m z hm hz => by
            by_cases e : m = k
            · subst e
              rw [HX.out] at hz
              cases hz
              exact ⟨hwi, A2.out⟩
            · exact A.out m z (by omega) hz)
           go_wp2_with fail
           go_roundg (n - (k + 1))
           case measure => omega
           case rel => exact ⟨k + 1, by omega, Nat.le_refl _, by go_num, A3, E3⟩
     · have : j = n := by omega
       subst this
       have tk : decide ((j : Int) < (j : Int)) = false := decide_eq_false (by omega)
       have hbt : b = true := HB.out.2 ⟨HL.out, A.out⟩
       subst hbt
       go_wp2_with fail
       go_returns
       exact ⟨rfl, E.out⟩
  · have tq : ((o.length : Int) != (n : Int)) = true := by
      have : (o.length : Int) ≠ (n : Int) := by omega
      simpa using this
    have hbf : b = false := by
     cases b with
     | false => rfl
     | true => exact absurd (HB.out.1 rfl).1 hq
    subst hbf
    clear hq
    go_enter Tryz.func120, Tryz.ntmps120
    go_wp2_with fail
    go_returns
    exact ⟨rfl, exx⟩
end Go.Proofs.YtdokmmhjmclmnaaGreat
