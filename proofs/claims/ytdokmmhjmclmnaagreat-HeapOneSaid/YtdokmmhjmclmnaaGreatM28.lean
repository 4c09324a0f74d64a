/-
  Part 28 of a proof: LH3 LH4 LH5 LH6 LH7 RH6 RH7.
-/
import Derived.BigRegion
import Derived.Deep.AppendLies
import Derived.Test.YtdokmmhjmclmnaaGreatM27
set_option linter.unusedSimpArgs false
set_option linter.unusedVariables false
set_option linter.unusedSectionVars false
set_option linter.unnecessarySimpa false
namespace Go.Proofs.YtdokmmhjmclmnaaGreat
open Go.RowKit Go.Maps
set_option maxRecDepth 100000 in
set_option maxHeartbeats 4000000 in
theorem dCheckFrame {w : World} {p q : Option Addr} {c d : Nat} {z o : List Int} (hs : SliceAt w p c z) (ho : SliceAt w q d o) :
    Calls Tryz.prog 57 #[.slice p z.length c, .slice q o.length d] w fun e w' => e = .returned (.int .i64 (Hp.frameErr z o)) ∧ Ext w w' := by
  have hle := hs.le
  have hcap := hs.cap
  have H := Lib.hid hs
  have HO := Lib.hid ho
  clear hs ho
  by_cases h6 : z.length > 6
  · have e : Hp.frameErr z o = 5 := by unfold Hp.frameErr; rw [if_pos h6]
    have t6 : decide ((z.length : Int) > 6) = true := decide_eq_true (by omega)
    rw [e]
    clear e
    go_enter Tryz.func57, Tryz.ntmps57
    go_wp2_with fail
    go_returns
    exact ⟨rfl, exx⟩
  · obtain ⟨ee, hee⟩ : ∃ ee, Hp.frameErr z o = ee := ⟨_, rfl⟩
    rw [hee]
    have HE := Lib.hid hee
    clear hee
    obtain ⟨n, hL⟩ : ∃ n, z.length = n := ⟨_, rfl⟩
    have HL := Lib.hid hL
    rw [hL] at hle h6 ⊢
    clear hL
    have t6 : decide ((n : Int) > 6) = false := decide_eq_false (by omega)
    go_enter Tryz.func57, Tryz.ntmps57
    go_wp2_with fail
    go_loopg [5] n (fun g i wr => ∃ j : Nat, j ≤ n ∧ n - j ≤ g ∧ i = .int .i64 j ∧ Hid (∀ k x, k < j → Hp.rd z k = some x → 1 ≤ x ∧ x ≤ 12) ∧ Hid (Ext w wr))
    case atStart => exact ⟨0, Nat.zero_le _, by omega, rfl, Lib.hid (fun k x hk => by omega), Lib.hid exx⟩
    case round =>
     obtain ⟨j, hj, hg, rfl, A, E⟩ := hrel
     by_cases hlt : j < n
     · obtain ⟨x, hx⟩ := rd_get (l := z) (j := j) (by rw [HL.out]; exact hlt)
       have HX := Lib.hid hx
       obtain ⟨bb, oo, rfl, hbb, hcell⟩ := (H.out.ext E.out).cells (by rw [HL.out]; omega)
       have gx := hcell j x hx
       have tk : decide ((j : Int) < (n : Int)) = true := decide_eq_true (by omega)
       clear hcell hx
       cases hw : Hp.within 1 12 x with
       | false =>
        have he : ee = 3 := by
         have h1 := HE.out
         unfold Hp.frameErr at h1
         rw [if_neg (by have := HL.out; omega), if_pos] at h1
         · exact h1.symm
         · apply Classical.byContradiction
           intro hc
           have h2 := List.all_eq_true.1 (by simpa using hc : z.all (fun n => decide (1 ≤ n) && decide (n ≤ 12)) = true) x (List.mem_of_getElem? HX.out)
           have h3 : Hp.within 1 12 x = true := h2
           rw [hw] at h3
           cases h3
        subst he
        have HI := Lib.hid (fun W => hw ▸ dIn x 1 12 W)
        clear hw
        go_wp2_with (go_at_call 66; refine (HI.out _).mono ?_; rintro e w1 ⟨rfl, hb1⟩; obtain ⟨hc1, hf1, hs1⟩ := hb1.cells)
        go_returns
        exact ⟨rfl, E.out.trans hb1⟩
       | true =>
        have hwi : 1 ≤ x ∧ x ≤ 12 := by simpa [Hp.within] using hw
        have HI := Lib.hid (fun W => hw ▸ dIn x 1 12 W)
        clear hw
        have A3 := Lib.hid (show ∀ k y, k < j + 1 → Hp.rd z k = some y → 1 ≤ y ∧ y ≤ 12 from fun m y hm hy => by
         by_cases e : m = j
         · subst e
           rw [HX.out] at hy
           cases hy
           exact hwi
         · exact A.out m y (by omega) hy)
        go_wp2_with (go_at_call 66; refine (HI.out _).mono ?_; rintro e w1 ⟨rfl, hb1⟩; obtain ⟨hc1, hf1, hs1⟩ := hb1.cells)
        have E3 := Lib.hid (E.out.trans hb1)
        go_roundg (n - (j + 1))
        case measure => omega
        case rel => exact ⟨j + 1, by omega, Nat.le_refl _, by go_num, A3, E3⟩
     · have : j = n := by omega
       subst this
       have tk : decide ((j : Int) < (j : Int)) = false := decide_eq_false (by omega)
       have hb : ∀ s ∈ z, 1 ≤ s ∧ s ≤ 12 := fun s hs => by
        obtain ⟨k, hk, rfl⟩ := List.getElem_of_mem hs
        exact A.out k _ (by have := HL.out; omega) (List.getElem?_eq_getElem hk)
       have hall : z.all (fun n => decide (1 ≤ n) && decide (n ≤ 12)) = true := List.all_eq_true.2 fun x hx => by
        have := hb x hx
        simp only [Bool.and_eq_true, decide_eq_true_eq]
        exact this
       have he0 : Hp.frameErr z o = (if z.foldl (· * ·) 1 > 2000 then 5 else if Hp.sortI o = Hp.upto z.length then 0 else 4 : Int) := by
        unfold Hp.frameErr
        rw [if_neg (show ¬ z.length > 6 by have := HL.out; omega), if_neg (by rw [hall]; simp)]
       rw [HE.out] at he0
       have he := he0.symm
       clear he0
       have PR := Lib.hid (fun E1 => HL.out ▸ dProduct (H.out.ext (w' := wr) E1) hb)
       have big := Hp.prodM_big hb
       generalize Hp.prodM z = pm at PR big
       clear A hall
       by_cases h2 : pm > 2000
       · rw [if_pos (big.1 h2)] at he
         subst he
         have t2 : decide (pm > 2000) = true := decide_eq_true h2
         clear big
         go_wp2_with (go_at_call 119; refine (PR.out E.out).mono ?_; rintro e w1 ⟨rfl, hb1⟩; obtain ⟨hc1, hf1, hs1⟩ := hb1.cells)
         go_returns
         exact ⟨rfl, E.out.trans hb1⟩
       · rw [if_neg (fun h => h2 (big.2 h))] at he
         have t2 : decide (pm > 2000) = false := decide_eq_false h2
         clear big
         have OI := Hp.ordOk_iff (o := o) (n := z.length)
         rw [HL.out] at OI he
         by_cases h3 : Hp.sortI o = Hp.upto j
         · rw [if_pos h3] at he
           subst he
           have IO := Lib.hid (fun (W : World) (E1 : Ext w W) => dIsOrder (p := p) (c := c) (n := j) (b := true) (HO.out.ext E1) (by omega) ⟨fun _ => OI.2 h3, fun _ => rfl⟩)
           clear OI h3
           go_wp2_with (first
            | (go_at_call 119; refine (PR.out E.out).mono ?_; rintro e w1 ⟨rfl, hb1⟩; obtain ⟨hc1, hf1, hs1⟩ := hb1.cells)
            | (go_at_call 120; refine (IO.out _ (E.out.trans hb1)).mono ?_; rintro e w2 ⟨rfl, hb2⟩; obtain ⟨hc2, hf2, hs2⟩ := hb2.cells))
           go_returns
           exact ⟨rfl, (E.out.trans hb1).trans hb2⟩
         · rw [if_neg h3] at he
           subst he
           have IO := Lib.hid (fun (W : World) (E1 : Ext w W) => dIsOrder (p := p) (c := c) (n := j) (b := false) (HO.out.ext E1) (by omega) ⟨fun h => absurd h (by decide), fun h => absurd (OI.1 h) h3⟩)
           clear OI h3
           go_wp2_with (first
            | (go_at_call 119; refine (PR.out E.out).mono ?_; rintro e w1 ⟨rfl, hb1⟩; obtain ⟨hc1, hf1, hs1⟩ := hb1.cells)
            | (go_at_call 120; refine (IO.out _ (E.out.trans hb1)).mono ?_; rintro e w2 ⟨rfl, hb2⟩; obtain ⟨hc2, hf2, hs2⟩ := hb2.cells))
           go_returns
           exact ⟨rfl, (E.out.trans hb1).trans hb2⟩
theorem dMany {w : World} {p : Option Addr} {c : Nat} {l : List Int} (h : SliceAt w p c l) (hb : ∀ s ∈ l, 1 ≤ s ∧ s ≤ 12) :
    Calls Tryz.prog 89 #[.slice p l.length c] w fun e w' => e = .returned (.int .i64 (Hp.prodM l)) ∧ Ext w w' := by
  have P := Lib.hid (dProduct h hb)
  clear h hb
  go_enter Tryz.func89, Tryz.ntmps89
  go_wp2_with (go_at_call 119; refine (P.out).mono ?_; rintro e w1 ⟨rfl, hb1⟩; obtain ⟨hc1, hf1, hs1⟩ := hb1.cells)
  go_returns
  exact ⟨rfl, exx⟩
def Hp.slimB (z o : List Int) : Bool := decide (z.length ≤ 8) && (decide (o.length ≤ 8) && (decide (Hp.frameErr z o ≠ 0) || decide (Hp.prodM z ≤ 200)))
theorem dSlim {w : World} {p q : Option Addr} {c d : Nat} {z o : List Int} (hs : SliceAt w p c z) (ho : SliceAt w q d o) :
    Calls Tryz.prog 56 #[.slice p z.length c, .slice q o.length d] w fun e w' => e = .returned (.bool (Hp.slimB z o)) ∧ Ext w w' := by
  have CF := Lib.hid (dCheckFrame hs ho)
  have HM := Lib.hid (fun (W : World) (E : Ext w W) => dMany (hs.ext E))
  clear hs ho
  by_cases h1 : z.length ≤ 8
  · have t1 : decide ((z.length : Int) > 8) = false := decide_eq_false (by omega)
    by_cases h2 : o.length ≤ 8
    · have t2 : decide ((o.length : Int) > 8) = false := decide_eq_false (by omega)
      have e : Hp.slimB z o = (decide (Hp.frameErr z o ≠ 0) || decide (Hp.prodM z ≤ 200)) := by simp [Hp.slimB, h1, h2]
      rw [e]
      clear e
      by_cases h3 : Hp.frameErr z o = 0
      · have e : (decide (Hp.frameErr z o ≠ 0) || decide (Hp.prodM z ≤ 200)) = decide (Hp.prodM z ≤ 200) := by simp [h3]
        have hb := (Hp.frameErr_ok h3).1.pos
        have M := Lib.hid (fun (W : World) (E : Ext w W) => HM.out W E hb)
        rw [e]
        have C := Lib.hid (h3 ▸ CF.out)
        clear e h3 hb CF HM
        go_enter Tryz.func56, Tryz.ntmps56
        go_wp2_with (first
         | (go_at_call 57; refine (C.out).mono ?_; rintro e w1 ⟨rfl, hb1⟩; obtain ⟨hc1, hf1, hs1⟩ := hb1.cells)
         | (go_at_call 89; refine (M.out _ hb1).mono ?_; rintro e w2 ⟨rfl, hb2⟩; obtain ⟨hc2, hf2, hs2⟩ := hb2.cells))
        go_returns
        exact ⟨rfl, hb1.trans hb2⟩
      · have e : (decide (Hp.frameErr z o ≠ 0) || decide (Hp.prodM z ≤ 200)) = true := by simp [h3]
        have t3 : (Hp.frameErr z o != 0) = true := by simpa using h3
        rw [e]
        clear e h3 HM
        generalize Hp.frameErr z o = fe at CF t3
        go_enter Tryz.func56, Tryz.ntmps56
        go_wp2_with (go_at_call 57; refine (CF.out).mono ?_; rintro e w1 ⟨rfl, hb1⟩; obtain ⟨hc1, hf1, hs1⟩ := hb1.cells)
        go_returns
        exact ⟨rfl, exx⟩
    · have t2 : decide ((o.length : Int) > 8) = true := decide_eq_true (by omega)
      have e : Hp.slimB z o = false := by simp [Hp.slimB, h2]
      rw [e]
      clear e CF HM
      go_enter Tryz.func56, Tryz.ntmps56
      go_wp2_with fail
      go_returns
      exact ⟨rfl, exx⟩
  · have t1 : decide ((z.length : Int) > 8) = true := decide_eq_true (by omega)
    have e : Hp.slimB z o = false := by simp [Hp.slimB, h1]
    rw [e]
    clear e CF HM
    go_enter Tryz.func56, Tryz.ntmps56
    go_wp2_with fail
    go_returns
    exact ⟨rfl, exx⟩
theorem lFault {w : World} {p q : Option Addr} {c d : Nat} {z o : List Int} {n : Int} (hs : SliceAt w p c z) (ho : SliceAt w q d o) :
    Calls Tryz.prog 18 #[.slice p z.length c, .slice q o.length d, .int .i64 n] w fun e w' => e = .returned (.int .i64 (Hp.newErr z o n)) ∧ Ext w w' := by
  have CF := Lib.hid (dCheckFrame hs ho)
  clear hs ho
  by_cases h3 : Hp.frameErr z o = 0
  · have I := Lib.hid (fun W => dIn n 32 40000 W)
    have C := Lib.hid (h3 ▸ CF.out)
    clear CF
    cases hw : Hp.within 32 40000 n with
    | true =>
     have e : Hp.newErr z o n = 0 := by unfold Hp.newErr; rw [if_neg (by simp [h3]), hw]; rfl
     rw [e]
     rw [hw] at I
     clear e hw h3
     go_enter Tryz.func18, Tryz.ntmps18
     go_wp2_with (first
      | (go_at_call 57; refine (C.out).mono ?_; rintro e w1 ⟨rfl, hb1⟩; obtain ⟨hc1, hf1, hs1⟩ := hb1.cells)
      | (go_at_call 66; refine (I.out _).mono ?_; rintro e w2 ⟨rfl, hb2⟩; obtain ⟨hc2, hf2, hs2⟩ := hb2.cells))
     go_returns
     exact ⟨rfl, hb1.trans hb2⟩
    | false =>
     have e : Hp.newErr z o n = 3 := by unfold Hp.newErr; rw [if_neg (by simp [h3]), hw]; rfl
     rw [e]
     rw [hw] at I
     clear e hw h3
     go_enter Tryz.func18, Tryz.ntmps18
     go_wp2_with (first
      | (go_at_call 57; refine (C.out).mono ?_; rintro e w1 ⟨rfl, hb1⟩; obtain ⟨hc1, hf1, hs1⟩ := hb1.cells)
      | (go_at_call 66; refine (I.out _).mono ?_; rintro e w2 ⟨rfl, hb2⟩; obtain ⟨hc2, hf2, hs2⟩ := hb2.cells))
     go_returns
     exact ⟨rfl, hb1.trans hb2⟩
  · have e : Hp.newErr z o n = Hp.frameErr z o := by unfold Hp.newErr; rw [if_pos h3]
    have t3 : (Hp.frameErr z o != 0) = true := by simpa using h3
    rw [e]
    clear e h3
    generalize Hp.frameErr z o = fe at CF t3 ⊢
    go_enter Tryz.func18, Tryz.ntmps18
    go_wp2_with (go_at_call 57; refine (CF.out).mono ?_; rintro e w1 ⟨rfl, hb1⟩; obtain ⟨hc1, hf1, hs1⟩ := hb1.cells)
    go_returns
    exact ⟨rfl, exx⟩
end Go.Proofs.YtdokmmhjmclmnaaGreat
namespace Go.Proofs.YtdokmmhjmclmnaaGreat
open Go.RowKit Go.Maps
structure ActsW (w : World) (p : Option Addr) (c : Nat) (l : List Hp.Act') : Prop where
 le : l.length ≤ c
 cap : c ≤ 9223372036854775807
 cells : 0 < l.length → ∃ b o, p = some ⟨b, o, none⟩ ∧ b < w.heap.size ∧ ∀ (j : Nat) (x : Hp.Act'), l[j]? = some x → ∃ q c f, ActOk { x with list := [] } f ∧ w.cell? ⟨b, o + j * 5, none⟩ = some (.int .u8 x.kind) ∧ w.cell? ⟨b, o + j * 5 + 1, none⟩ = some (.int .i64 x.a) ∧ w.cell? ⟨b, o + j * 5 + 2, none⟩ = some (.slice q x.list.length c) ∧ w.cell? ⟨b, o + j * 5 + 3, none⟩ = some (.int .u8 f) ∧ w.cell? ⟨b, o + j * 5 + 4, none⟩ = some (.int .i64 x.n) ∧ SliceAt w q c x.list
theorem ActsW.ext {w w' : World} {p : Option Addr} {c : Nat} {l : List Hp.Act'} (h : ActsW w p c l) (k : Ext w w') : ActsW w' p c l := by
 refine ⟨h.le, h.cap, fun h0 => ?_⟩
 obtain ⟨b, o, rfl, hb, hc⟩ := h.cells h0
 refine ⟨b, o, rfl, Nat.lt_of_lt_of_le hb k.le, fun j x hx => ?_⟩
 obtain ⟨q, c', f, ok, a0, a1, a2, a3, a4, hs⟩ := hc j x hx
 exact ⟨q, c', f, ok, (k.cell hb _).trans a0, (k.cell hb _).trans a1, (k.cell hb _).trans a2, (k.cell hb _).trans a3, (k.cell hb _).trans a4, hs.ext k⟩
theorem ActsW.at_ {w : World} {p : Option Addr} {c : Nat} {l : List Hp.Act'} (h : ActsW w p c l) (hl : ∀ x ∈ l, x.list.length ≤ 14) : ActsAt w p c l := by
 refine ⟨h.le, h.cap, fun h0 => ?_⟩
 obtain ⟨b, o, rfl, hb, hc⟩ := h.cells h0
 refine ⟨b, o, rfl, hb, fun j x hx => ?_⟩
 obtain ⟨q, c', f, ok, hr⟩ := hc j x hx
 exact ⟨q, c', f, ⟨ok.k0, ok.fault, ok.f2, ok.n1, ok.n2, ok.a1, ok.a2, by have := hl x (List.mem_of_getElem? hx); omega⟩, hr⟩
def NilActs (w : World) (pa : Option Addr) (acts : List Hp.Act') : Prop := ∀ (b o j : Nat) (x : Hp.Act') (q : Option Addr) (c : Nat), pa = some ⟨b, o, none⟩ → acts[j]? = some x → w.cell? ⟨b, o + j * 5 + 2, none⟩ = some (.slice q x.list.length c) → q = none → c = 0
theorem NilActs.ext {w w' : World} {pa : Option Addr} {ca : Nat} {acts : List Hp.Act'} (h : NilActs w pa acts) (ha : ActsW w pa ca acts) (e : Ext w w') : NilActs w' pa acts := fun b o j x q c hp hx hc hq => by
 obtain ⟨b', o', e', hb, _⟩ := ha.cells (by have := (List.getElem?_eq_some_iff.1 hx).1; omega)
 rw [hp] at e'
 cases e'
 exact h b o j x q c hp hx ((e.cell hb _).symm.trans hc) hq
structure SAt (w : World) (sp : Option Addr) (sc : Nat) (op : Option Addr) (oc : Nat) (pa : Option Addr) (ca : Nat) (z o : List Int) (acts : List Hp.Act') : Prop where
 n3 : NilActs w pa acts
 sizes : SliceAt w sp sc z
 order : SliceAt w op oc o
 acts : ActsW w pa ca acts
 n1 : sp = none → sc = 0
 n2 : op = none → oc = 0
theorem SAt.ext {w w' : World} {sp op pa : Option Addr} {sc oc ca : Nat} {z o : List Int} {acts : List Hp.Act'} (h : SAt w sp sc op oc pa ca z o acts) (e : Ext w w') : SAt w' sp sc op oc pa ca z o acts :=
 { h with sizes := h.sizes.ext e, order := h.order.ext e, acts := h.acts.ext e, n3 := h.n3.ext h.acts e }
def Hp.thinB (z o : List Int) (n : Int) (acts : List Hp.Act') : Bool :=
 Hp.slimB z o && (decide (acts.length ≤ 60) && (acts.all (fun x => decide (x.list.length ≤ 14)) && (decide (Hp.frameErr z o ≠ 0) || (decide (n ≤ 400) || decide (40000 < n)))))
set_option maxRecDepth 100000 in
set_option maxHeartbeats 4000000 in
theorem lThin {w : World} {sp op pa : Option Addr} {sc oc ca : Nat} {z o : List Int} {n : Int} {acts : List Hp.Act'} (h : SAt w sp sc op oc pa ca z o acts) :
    Calls Tryz.prog 14 #[.agg #[.slice sp z.length sc, .slice op o.length oc, .int .i64 n, .slice pa acts.length ca]] w fun e w' => e = .returned (.bool (Hp.thinB z o n acts)) ∧ Ext w w' := by
  have E0 : Ext w (w.alloc (.cells #[.slice sp z.length sc, .slice op o.length oc, .int .i64 n, .slice pa acts.length ca] 25)) := Ext.alloc (Ext.refl _) _
  have SL := Lib.hid (dSlim (h.sizes.ext E0) (h.order.ext E0))
  have CF := Lib.hid (fun (W : World) (E : Ext w W) => dCheckFrame (h.sizes.ext E) (h.order.ext E))
  have HA := Lib.hid h.acts
  have le := h.acts.le
  have cap := h.acts.cap
  clear h
  obtain ⟨b, hb⟩ : ∃ b, Hp.thinB z o n acts = b := ⟨_, rfl⟩
  rw [hb]
  have HB := Lib.hid hb
  clear hb
  cases hs : Hp.slimB z o with
  | false =>
   have : b = false := by rw [← HB.out]; simp [Hp.thinB, hs]
   subst this
   rw [hs] at SL
   clear hs CF E0
   go_enter Tryz.func14, Tryz.ntmps14
   go_wp2_with (go_at_call 56; refine (SL.out).mono ?_; rintro e w1 ⟨rfl, hb1⟩; obtain ⟨hc1, hf1, hs1⟩ := hb1.cells)
   go_returns
   exact ⟨rfl, exx⟩
  | true =>
   rw [hs] at SL
   have HS := Lib.hid hs
   clear hs
   by_cases h60 : acts.length ≤ 60
   · have t60 : decide ((acts.length : Int) > 60) = false := decide_eq_false (by omega)
     have H60 := Lib.hid h60
     obtain ⟨m, hm⟩ : ∃ m, acts.length = m := ⟨_, rfl⟩
     have HM := Lib.hid hm
     rw [hm] at SL E0 le t60 h60 ⊢
     clear hm
     go_enter Tryz.func14, Tryz.ntmps14
     go_wp2_with (go_at_call 56; refine (SL.out).mono ?_; rintro e w1 ⟨rfl, hb1⟩; obtain ⟨hc1, hf1, hs1⟩ := hb1.cells)
     have c0 : w1.cell? ⟨w.heap.size, 0, none⟩ = some (.slice sp z.length sc) := by go_simp
     have c1 : w1.cell? ⟨w.heap.size, 1, none⟩ = some (.slice op o.length oc) := by go_simp
     have c2 : w1.cell? ⟨w.heap.size, 2, none⟩ = some (.int .i64 n) := by go_simp
     have c3 : w1.cell? ⟨w.heap.size, 3, none⟩ = some (.slice pa m ca) := by go_simp
     have z1 : w.heap.size < w1.heap.size := cell_lt c0
     have E1 := Lib.hid (E0.trans hb1)
     generalize hG : w.heap.size = gb at c0 c1 c2 c3 z1 ⊢
     clear hc1 hf1 hs1 hb1 SL E0
     go_loopg [3] m (fun g i wr => ∃ j : Nat, j ≤ m ∧ m - j ≤ g ∧ i = .int .i64 j ∧ Hid (∀ k x, k < j → acts[k]? = some x → x.list.length ≤ 14) ∧ Hid (Ext w1 wr))
     case atStart => exact ⟨0, Nat.zero_le _, by omega, rfl, Lib.hid (fun k x hk => by omega), Lib.hid (Ext.refl _)⟩
     case round =>
      obtain ⟨j, hj, hg, rfl, A, E⟩ := hrel
      have c3' := (E.out.cell z1 3).trans c3
      have zr := Nat.lt_of_lt_of_le z1 E.out.le
      by_cases hlt : j < m
      · obtain ⟨x, hx⟩ : ∃ x, acts[j]? = some x := ⟨acts[j]'(by rw [HM.out]; exact hlt), List.getElem?_eq_getElem _⟩
        obtain ⟨bb, oo, rfl, hbb, hc⟩ := (HA.out.ext (E1.out.trans E.out)).cells (by rw [HM.out]; omega)
        obtain ⟨q', c', f, ok, a0, a1, a2, a3, a4, hs⟩ := hc j x hx
        have tk : decide ((j : Int) < (m : Int)) = true := decide_eq_true (by omega)
        have HX := Lib.hid hx
        have xc := hs.le
        clear hc hx ok hs a0 a1 a3 a4
        by_cases h14 : x.list.length ≤ 14
        · have t14 : decide ((x.list.length : Int) > 14) = false := decide_eq_false (by omega)
          have A3 := Lib.hid (show ∀ k y, k < j + 1 → acts[k]? = some y → y.list.length ≤ 14 from fun k y hk hy => by
           by_cases e : k = j
           · subst e
             rw [HX.out] at hy
             cases hy
             exact h14
           · exact A.out k y (by omega) hy)
          go_wp2_with fail
          go_roundg (m - (j + 1))
          case measure => omega
          case rel => exact ⟨j + 1, by omega, Nat.le_refl _, by go_num, A3, E⟩
        · have t14 : decide ((x.list.length : Int) > 14) = true := decide_eq_true (by omega)
          have hbf : b = false := by
           rw [← HB.out]
           have : acts.all (fun x => decide (x.list.length ≤ 14)) = false := by
            apply Classical.byContradiction
            intro hc
            have h2 := List.all_eq_true.1 (by simpa using hc : acts.all (fun x => decide (x.list.length ≤ 14)) = true) x (List.mem_of_getElem? HX.out)
            exact h14 (by simpa using h2)
           simp [Hp.thinB, this]
          subst hbf
          go_wp2_with fail
          go_returns
          exact ⟨rfl, E1.out.trans E.out⟩
      · have : j = m := by omega
        subst this
        have tk : decide ((j : Int) < (j : Int)) = false := decide_eq_false (by omega)
        have hall : acts.all (fun x => decide (x.list.length ≤ 14)) = true := List.all_eq_true.2 fun x hx => by
         obtain ⟨k, hk, rfl⟩ := List.getElem_of_mem hx
         have := A.out k _ (by have := HM.out; omega) (List.getElem?_eq_getElem hk)
         simpa using this
        have hbe : (decide (Hp.frameErr z o ≠ 0) || (decide (n ≤ 400) || decide (40000 < n))) = b := by
         rw [← HB.out]
         unfold Hp.thinB
         rw [HS.out, hall]
         have : decide (acts.length ≤ 60) = true := decide_eq_true H60.out
         rw [this]
         simp
        have c0' := (E.out.cell z1 0).trans c0
        have c1' := (E.out.cell z1 1).trans c1
        have c2' := (E.out.cell z1 2).trans c2
        have C := Lib.hid (CF.out wr (E1.out.trans E.out))
        clear A hall CF c0 c1 c2
        by_cases h0 : Hp.frameErr z o = 0
        · rw [h0] at C hbe
          have hbe : (decide (n ≤ 400) || decide (40000 < n)) = b := by rw [← hbe]; simp
          clear h0
          by_cases h4 : n ≤ 400
          · have : b = true := by rw [← hbe]; simp [h4]
            subst this
            have t4 : decide (n ≤ 400) = true := decide_eq_true h4
            clear hbe
            go_wp2_with ((go_at_call 57; refine (C.out).mono ?_; rintro e w2 ⟨rfl, hb2⟩; obtain ⟨hc2, hf2, hs2⟩ := hb2.cells); have c2'' := (hb2.cell zr 2).trans c2')
            go_returns
            exact ⟨rfl, (E1.out.trans E.out).trans hb2⟩
          · have hbe : decide (40000 < n) = b := by rw [← hbe]; simp [h4]
            have t4 : decide (n ≤ 400) = false := decide_eq_false h4
            subst hbe
            clear h4
            go_wp2_with ((go_at_call 57; refine (C.out).mono ?_; rintro e w2 ⟨rfl, hb2⟩; obtain ⟨hc2, hf2, hs2⟩ := hb2.cells); have c2'' := (hb2.cell zr 2).trans c2')
            go_returns
            exact ⟨rfl, (E1.out.trans E.out).trans hb2⟩
        · have : b = true := by rw [← hbe]; simp [h0]
          subst this
          have t0 : (Hp.frameErr z o != 0) = true := by simpa using h0
          clear hbe h0
          generalize Hp.frameErr z o = fe at C t0
          go_wp2_with ((go_at_call 57; refine (C.out).mono ?_; rintro e w2 ⟨rfl, hb2⟩; obtain ⟨hc2, hf2, hs2⟩ := hb2.cells); have c2'' := (hb2.cell zr 2).trans c2')
          go_returns
          exact ⟨rfl, (E1.out.trans E.out).trans hb2⟩
   · have t60 : decide ((acts.length : Int) > 60) = true := decide_eq_true (by omega)
     have : b = false := by rw [← HB.out]; simp [Hp.thinB, h60]
     subst this
     clear CF E0
     go_enter Tryz.func14, Tryz.ntmps14
     go_wp2_with (go_at_call 56; refine (SL.out).mono ?_; rintro e w1 ⟨rfl, hb1⟩; obtain ⟨hc1, hf1, hs1⟩ := hb1.cells)
     go_returns
     exact ⟨rfl, exx⟩
end Go.Proofs.YtdokmmhjmclmnaaGreat
namespace Go.Proofs.YtdokmmhjmclmnaaGreat
open Go.RowKit Go.Maps
def Hp.readyB (z o : List Int) (n : Int) (acts : List Hp.Act') : Bool := Hp.thinB z o n acts && decide (Hp.newErr z o n = 0)
set_option maxRecDepth 100000 in
set_option maxHeartbeats 4000000 in
theorem lReady {w : World} {sp op pa : Option Addr} {sc oc ca : Nat} {z o : List Int} {n : Int} {acts : List Hp.Act'} (h : SAt w sp sc op oc pa ca z o acts) :
    Calls Tryz.prog 40 #[.agg #[.slice sp z.length sc, .slice op o.length oc, .int .i64 n, .slice pa acts.length ca]] w fun e w' => e = .returned (.bool (Hp.readyB z o n acts)) ∧ Ext w w' := by
  have E0 : Ext w (w.alloc (.cells #[.slice sp z.length sc, .slice op o.length oc, .int .i64 n, .slice pa acts.length ca] 25)) := Ext.alloc (Ext.refl _) _
  have TH := Lib.hid (lThin (n := n) (h.ext E0))
  have FT := Lib.hid (fun (W : World) (E : Ext w W) => lFault (n := n) (h.sizes.ext E) (h.order.ext E))
  clear h
  cases ht : Hp.thinB z o n acts with
  | false =>
   have e : Hp.readyB z o n acts = false := by simp [Hp.readyB, ht]
   rw [e]
   rw [ht] at TH
   clear e ht FT
   go_enter Tryz.func40, Tryz.ntmps40
   go_wp2_with (go_at_call 14; refine (TH.out).mono ?_; rintro e w1 ⟨rfl, hb1⟩; obtain ⟨hc1, hf1, hs1⟩ := hb1.cells)
   go_returns
   exact ⟨rfl, exx⟩
  | true =>
   have e : Hp.readyB z o n acts = decide (Hp.newErr z o n = 0) := by simp [Hp.readyB, ht]
   rw [e]
   rw [ht] at TH
   clear e ht
   by_cases h0 : Hp.newErr z o n = 0
   · have e : decide (Hp.newErr z o n = 0) = true := decide_eq_true h0
     rw [e]
     rw [h0] at FT
     clear e h0
     go_enter Tryz.func40, Tryz.ntmps40
     go_wp2_with (first
      | (go_at_call 14; refine (TH.out).mono ?_; rintro e w1 ⟨rfl, hb1⟩; obtain ⟨hc1, hf1, hs1⟩ := hb1.cells; have hz1_0 : w.heap.size < w1.heap.size := (by have h := hb1.le; (try simp at h); omega); have hc1_0 := hb1.cell (b := w.heap.size) (by first | omega | (simp; done) | (simp; omega)); have hf1_0 := hb1.frozen (b := w.heap.size) (by first | omega | (simp; done) | (simp; omega)))
      | (go_at_call 18; refine (FT.out _ (E0.trans hb1)).mono ?_; rintro e w2 ⟨rfl, hb2⟩; obtain ⟨hc2, hf2, hs2⟩ := hb2.cells))
     go_returns
     exact ⟨rfl, (E0.trans hb1).trans hb2⟩
   · have e : decide (Hp.newErr z o n = 0) = false := decide_eq_false h0
     have t0 : (Hp.newErr z o n == 0) = false := by simpa using h0
     rw [e]
     clear e h0
     generalize Hp.newErr z o n = fe at FT t0
     go_enter Tryz.func40, Tryz.ntmps40
     go_wp2_with (first
      | (go_at_call 14; refine (TH.out).mono ?_; rintro e w1 ⟨rfl, hb1⟩; obtain ⟨hc1, hf1, hs1⟩ := hb1.cells; have hz1_0 : w.heap.size < w1.heap.size := (by have h := hb1.le; (try simp at h); omega); have hc1_0 := hb1.cell (b := w.heap.size) (by first | omega | (simp; done) | (simp; omega)); have hf1_0 := hb1.frozen (b := w.heap.size) (by first | omega | (simp; done) | (simp; omega)))
      | (go_at_call 18; refine (FT.out _ (E0.trans hb1)).mono ?_; rintro e w2 ⟨rfl, hb2⟩; obtain ⟨hc2, hf2, hs2⟩ := hb2.cells))
     go_returns
     exact ⟨rfl, (E0.trans hb1).trans hb2⟩
end Go.Proofs.YtdokmmhjmclmnaaGreat
namespace Go.Proofs.YtdokmmhjmclmnaaGreat
open Go.RowKit Go.Maps
def ActAmong (w : World) (p : Option Addr) (xs : List Value) (k : Nat) (x : Hp.Act') : Prop :=
 ∃ q c f, ActOk x f ∧ xs[k * 5]? = some (.int .u8 x.kind) ∧ xs[k * 5 + 1]? = some (.int .i64 x.a) ∧ xs[k * 5 + 2]? = some (.slice q x.list.length c) ∧ xs[k * 5 + 3]? = some (.int .u8 f) ∧ xs[k * 5 + 4]? = some (.int .i64 x.n) ∧ SliceAt w q c x.list ∧
  ∀ b o, q = some ⟨b, o, none⟩ → b < w.heap.size ∧ ∀ o', p ≠ some ⟨b, o', none⟩
structure ActsRow (w0 w : World) (p : Option Addr) (c j : Nat) (l : List Hp.Act') : Prop where
 ext0 : Ext w0 w
 own : ∃ xs, w.ownsRow w0.heap.size 85 5 (.slice p j c) j xs ∧ ∀ k x, k < j → l[k]? = some x → ActAmong w p xs k x
theorem ActAmong.ext {w w' : World} {p : Option Addr} {xs : List Value} {k : Nat} {x : Hp.Act'} (h : ActAmong w p xs k x) (e : Ext w w') : ActAmong w' p xs k x := by
 obtain ⟨q, c, f, h1, h2, h3, h4, h5, h6, h7, h8⟩ := h
 exact ⟨q, c, f, h1, h2, h3, h4, h5, h6, h7.ext e, fun b o e' => ⟨Nat.lt_of_lt_of_le (h8 b o e').1 e.le, (h8 b o e').2⟩⟩
theorem ActsRow.ext {w0 w w' : World} {p : Option Addr} {c j : Nat} {l : List Hp.Act'} (h : ActsRow w0 w p c j l) (e : Ext w w') : ActsRow w0 w' p c j l := by
 obtain ⟨xs, h1, h2⟩ := h.own
 refine ⟨h.ext0.trans e, xs, ⟨h1.1, ?_⟩, fun k x hk hx => (h2 k x hk hx).ext e⟩
 rcases h1.2 with e' | ⟨g, cap, cur, e', hb, hg, r⟩
 · exact .inl e'
 · refine .inr ⟨g, cap, cur, e', hb, ?_, r⟩
   have := (But.ofExt (l := []) e).block g (Array.getElem?_eq_some_iff.1 hg).1 (by simp)
   rw [this]
   exact hg
theorem ActsRow.at_ {w0 w : World} {p : Option Addr} {c : Nat} {l : List Hp.Act'} (h : ActsRow w0 w p c l.length l) : ActsAt w p c l := by
 obtain ⟨xs, h1, h2⟩ := h.own
 rcases h1.2 with ⟨e, hz⟩ | ⟨g, cap, cur, e, hb, hg, r1, r2, r3, r4⟩
 · injection e with e1 e2 e3
   refine ⟨by omega, by omega, fun h0 => by omega⟩
 · injection e with e1 e2 e3
   subst e1 e3
   refine ⟨r1, by unfold maxLen at r2; omega, fun _ => ⟨g, 0, rfl, (Array.getElem?_eq_some_iff.1 hg).1, fun j x hx => ?_⟩⟩
   have hj : j < l.length := (List.getElem?_eq_some_iff.1 hx).1
   obtain ⟨q, c', f, k1, k2, k3, k4, k5, k6, k7, _⟩ := h2 j x hj hx
   have cl : ∀ i v, xs[i]? = some v → w.cell? ⟨g, 0 + i, none⟩ = some v := fun i v hv => by
    have := h1.cells (g := g) rfl i _ hv
    rw [Addr.add_lit] at this
    exact this
   refine ⟨q, c', f, k1, ?_, ?_, ?_, ?_, ?_, k7⟩
   · exact cl _ _ k2
   · exact cl _ _ k3
   · exact cl _ _ k4
   · exact cl _ _ k5
   · exact cl _ _ k6
theorem ActsRow.grow {w0 w w' : World} {p q : Option Addr} {c j cq f : Nat} {l : List Hp.Act'} {x : Hp.Act'} {v' : Value} {xs : List Value} (h0 : Ext w0 w) (h1 : w.ownsRow w0.heap.size 85 5 (.slice p j c) j xs) (h2 : ∀ k x, k < j → l[k]? = some x → ActAmong w p xs k x)
    (hx : l[j]? = some x) (hok : ActOk x f) (hs : SliceAt w q cq x.list) (hq : ∀ b o, q = some ⟨b, o, none⟩ → b < w.heap.size ∧ ∀ o', p ≠ some ⟨b, o', none⟩)
    (hown : w'.ownsRow w0.heap.size 85 5 v' (j + 1) (xs ++ [.int .u8 x.kind, .int .i64 x.a, .slice q x.list.length cq, .int .u8 f, .int .i64 x.n])) (hgr : w.grownBy w' (Value.slice p j c).ownBlock)
    (hor : ∀ g cap, v' = .slice (some ⟨g, 0, none⟩) (j + 1) cap → p = some ⟨g, 0, none⟩ ∨ g = w.heap.size) :
    ∃ p' c', v' = .slice p' (j + 1) c' ∧ ActsRow w0 w' p' c' (j + 1) l := by
  have hlen : xs.length = j * 5 := h1.1
  rcases hown.2 with ⟨_, hz⟩ | ⟨g, cap, cur, rfl, hb, hg, r⟩
  · omega
  · refine ⟨some ⟨g, 0, none⟩, cap, rfl, ?_, _, hown, ?_⟩
    · refine ext_grow h0 hgr fun r hr => ?_
      rcases h1.2 with ⟨e, _⟩ | ⟨g', cap', cur', e, hb', _⟩
      · rw [e] at hr
        simp [Value.ownBlock] at hr
      · rw [e] at hr
        simp [Value.ownBlock] at hr
        omega
    · have keep : ∀ (q : Option Addr) (c2 : Nat) (l : List Int), (∀ b o, q = some ⟨b, o, none⟩ → b < w.heap.size ∧ ∀ o', p ≠ some ⟨b, o', none⟩) → SliceAt w q c2 l → SliceAt w' q c2 l ∧ ∀ b o, q = some ⟨b, o, none⟩ → b < w'.heap.size ∧ ∀ o', (some ⟨g, 0, none⟩ : Option Addr) ≠ some ⟨b, o', none⟩ := fun q c2 l hf hs => by
        have kb : But ((Value.slice p j c).ownBlock).toList w w' := ⟨hgr.os, hgr.tape, hgr.output, hgr.size, fun i hi hn => hgr.block i hi (fun e => hn (by rw [← e]; simp))⟩
        refine ⟨hs.but kb fun b o e hm => ?_, fun b o e => ⟨Nat.lt_of_lt_of_le (hf b o e).1 hgr.size, fun o' e' => ?_⟩⟩
        · rcases h1.2 with ⟨e', _⟩ | ⟨g', cap', cur', e', hb', _⟩
          · injection e' with e1
            subst e1
            simp [Value.ownBlock] at hm
          · injection e' with e1
            subst e1
            have : g' = b := by simpa [Value.ownBlock, eq_comm] using hm
            subst this
            exact (hf g' o e).2 0 rfl
        · cases e'
          rcases hor _ _ rfl with hp | hg'
          · exact (hf g o e).2 0 hp
          · have := (hf g o e).1
            omega
      intro k y hk hy
      by_cases e : k = j
      · subst e
        rw [hx] at hy
        cases hy
        obtain ⟨n1, n2⟩ := keep q cq x.list hq hs
        have ap : ∀ i, (xs ++ [Value.int .u8 x.kind, .int .i64 x.a, .slice q x.list.length cq, .int .u8 f, .int .i64 x.n])[k * 5 + i]? = [Value.int .u8 x.kind, .int .i64 x.a, .slice q x.list.length cq, .int .u8 f, .int .i64 x.n][i]? := fun i => by
         rw [List.getElem?_append_right (by omega)]
         congr 1
         omega
        exact ⟨q, cq, f, hok, ap 0, ap 1, ap 2, ap 3, ap 4, n1, n2⟩
      · obtain ⟨q', c', f', k1, k2, k3, k4, k5, k6, k7, k8⟩ := h2 k y (by omega) hy
        obtain ⟨n1, n2⟩ := keep q' c' y.list k8 k7
        have ap : ∀ i v, xs[i]? = some v → (xs ++ [Value.int .u8 x.kind, .int .i64 x.a, .slice q x.list.length cq, .int .u8 f, .int .i64 x.n])[i]? = some v := fun i v hv => by
         rw [List.getElem?_append_left (List.getElem?_eq_some_iff.1 hv).1]
         exact hv
        exact ⟨q', c', f', k1, ap _ _ k2, ap _ _ k3, ap _ _ k4, ap _ _ k5, ap _ _ k6, n1, n2⟩
theorem act_info : (Tryz.prog.info? 85).map (fun i => (i.zero, i.size, i.bytes)) = some (some (.agg #[.int .u8 0, .int .i64 0, .slice none 0 0, .int .u8 0, .int .i64 0]), 5, 56) := by kernel_rfl
end Go.Proofs.YtdokmmhjmclmnaaGreat
namespace Go.Proofs.YtdokmmhjmclmnaaGreat
open Go.RowKit Go.Maps
theorem cut_worldL {P : Program} {ops : Array Oper} {rest : List Oper} {Q : Exit → Act → World → Prop} {a : Act} {w : World} {F : World → Prop} (h : F w) (k : ∀ w', F w' → wpList P ops Q rest a w') : wpList P ops Q rest a w := k w h
theorem news5 {w : World} {b : Nat} {v0 v1 v2 v3 v4 : Value} (h0 : w.cell? ⟨b, 0, none⟩ = some v0) (h1 : w.cell? ⟨b, 1, none⟩ = some v1) (h2 : w.cell? ⟨b, 2, none⟩ = some v2) (h3 : w.cell? ⟨b, 3, none⟩ = some v3) (h4 : w.cell? ⟨b, 4, none⟩ = some v4) :
    ∀ (j : Nat) (u : Value), [v0, v1, v2, v3, v4][j]? = some u → w.cell? ((⟨b, 0, none⟩ : Addr).add j) = some u := fun j u hj => by
  rw [Addr.add_lit, Nat.zero_add]
  match j, hj with
  | 0, hj => cases hj; exact h0
  | 1, hj => cases hj; exact h1
  | 2, hj => cases hj; exact h2
  | 3, hj => cases hj; exact h3
  | 4, hj => cases hj; exact h4
  | j + 5, hj => simp at hj
theorem row_block {w : World} {base j c : Nat} {e : TypeId} {size : Nat} {p : Option Addr} {xs : List Value} (h : w.ownsRow base e size (.slice p j c) j xs) : ∀ g, (Value.slice p j c).ownBlock = some g → p = some ⟨g, 0, none⟩ := fun g hg => by
 rcases h.2 with ⟨e, _⟩ | ⟨g', cap', cur, e, h1, _⟩
 · rw [e] at hg
   simp [Value.ownBlock] at hg
 · injection e with e1
   subst e1
   have : g' = g := by simpa [Value.ownBlock] using hg
   rw [this]
def ActsPost (w : World) (l : List Hp.Act') (e : Ending) (w' : World) : Prop := ∃ p c, e = .returned (.slice p l.length c) ∧ ActsAt w' p c l ∧ Ext w w'
set_option maxRecDepth 100000 in
set_option maxHeartbeats 4000000 in
theorem acts_any {w : World} {pa : Option Addr} {ca : Nat} {acts : List Hp.Act'} (h : ActsAt w pa ca acts) (hl : acts.length ≤ 60) (hl2 : ∀ x ∈ acts, x.list.length ≤ 14) (hw : ActsW w pa ca acts) (hn : NilActs w pa acts) :
    Calls Tryz.prog 31 #[.slice pa acts.length ca] w (ActsPost w acts) := by
  have HA := Lib.hid h
  have le := h.le
  have cap := h.cap
  have HL2 := Lib.hid hl2
  have HN := Lib.hid hn
  have HW := Lib.hid hw
  clear h hl2 hn hw
  obtain ⟨m, hm⟩ : ∃ m, acts.length = m := ⟨_, rfl⟩
  have HM := Lib.hid hm
  rw [hm] at le hl ⊢
  clear hm
  obtain ⟨i0, hi, hz0, hz1, hz2⟩ := info_parts act_info
  go_enter Tryz.func31, Tryz.ntmps31
  go_wp2_with fail
  go_loopg [3, 4] m (fun g s i wr => ∃ (j : Nat) (p : Option Addr) (c : Nat), j ≤ m ∧ m - j ≤ g ∧ i = .int .i64 j ∧ s = .slice p j c ∧ Hid (ActsRow w wr p c j acts))
  case atStart => exact ⟨0, none, 0, Nat.zero_le _, by omega, rfl, rfl, Lib.hid ⟨exx, [], World.ownsRow_nil w _ _ _, fun k x hk => by omega⟩⟩
  case round =>
   obtain ⟨j, p, c, hj, hg, rfl, rfl, R⟩ := hrel
   by_cases hlt : j < m
   · obtain ⟨x, hx⟩ : ∃ x, acts[j]? = some x := ⟨acts[j]'(by rw [HM.out]; exact hlt), List.getElem?_eq_getElem _⟩
     obtain ⟨bb, oo, rfl, hbb, hc⟩ := (HA.out.ext R.out.ext0).cells (by rw [HM.out]; omega)
     obtain ⟨q', c', f, ok, a0, a1, a2, a3, a4, hs⟩ := hc j x hx
     have tk : decide ((j : Int) < (m : Int)) = true := decide_eq_true (by omega)
     have hnil := HN.out.ext HW.out R.out.ext0 bb oo j x q' c' rfl hx a2
     have hx14 := HL2.out x (List.mem_of_getElem? hx)
     have HX := Lib.hid hx
     have HOK := Lib.hid ok
     have HS := Lib.hid hs
     have xc := hs.le
     clear hc hx ok hs
     have EA : Ext wr (wr.alloc (.cells #[.int .u8 x.kind, .int .i64 x.a, .slice q' x.list.length c', .int .u8 f, .int .i64 x.n] 85)) := Ext.alloc (Ext.refl _) _
     have IA := Lib.hid (ints_any (HS.out.ext EA) hnil (by omega))
     go_upto_region 7 with (go_at_call 17; refine IA.out.mono ?_; rintro e w1 ⟨q2, c2, rfl, hR2, hb1, _⟩; obtain ⟨hc1, hf1, hs1⟩ := hb1.cells; have hz1' : wr.heap.size < w1.heap.size := (by have h := hb1.le; (try simp at h); omega); have hc10 := hb1.cell (b := wr.heap.size) (by simp); have hf10 := hb1.frozen (b := wr.heap.size) (by simp))
     have RF := Lib.hid (show ∀ b o, q2 = some ⟨b, o, none⟩ → wr.heap.size + 1 ≤ b from fun b o e => by have := hR2.far e; simpa using this)
     have pf : ∀ b o, p = some ⟨b, o, none⟩ → b < wr.heap.size := fun b o e => by
      obtain ⟨xs0, o1, _⟩ := R.out.own
      rcases o1.2 with ⟨e', _⟩ | ⟨g', cap', cur', e', hb', hg', _⟩
      · injection e' with e1
        rw [e1] at e
        cases e
      · injection e' with e1
        rw [e1] at e
        cases e
        exact (Array.getElem?_eq_some_iff.1 hg').1
     have PF := Lib.hid pf
     have SA := Lib.hid hR2.at_
     have SL := Lib.hid (show ∀ b o, q2 = some ⟨b, o, none⟩ → b < w1.heap.size from fun b o e => hR2.lt e)
     clear pf hR2 hnil
     go_upto_region 4 with (at_builtin; refine cut_worldL (F := fun W => ActsRow w W p c j acts ∧ SliceAt W q2 c2 x.list ∧ w1.heap.size + 1 = W.heap.size ∧ W.cell? ⟨w1.heap.size, 0, none⟩ = some (.int .u8 x.kind) ∧ W.cell? ⟨w1.heap.size, 1, none⟩ = some (.int .i64 x.a) ∧ W.cell? ⟨w1.heap.size, 2, none⟩ = some (.slice q2 x.list.length c2) ∧ W.cell? ⟨w1.heap.size, 3, none⟩ = some (.int .u8 f) ∧ W.cell? ⟨w1.heap.size, 4, none⟩ = some (.int .i64 x.n)) ⟨R.out.ext (exx), SA.out.but (((But.refl [wr.heap.size] _).setCell (.inl (by simp)) _).alloc _) (fun b o e hm => by have := RF.out b o e; have : b = wr.heap.size := (by simpa using hm); omega), by simp, by go_simp, by go_simp, by go_simp, by go_simp, by go_simp⟩ ?_; rintro w2 ⟨R2, SA2, zz, n0, n1, n2, n3, n4⟩; obtain ⟨xs, own1, each1⟩ := R2.own; refine wpList_append_lies w2 rfl _ _ 23 rfl w.heap.size 85 i0 _ 5 56 Tryz.underlying23 hi hz0 hz1 hz2 rfl (by decide) (.slice p j c) j xs rfl own1 ⟨w1.heap.size, 0, none⟩ 1 1 [.int .u8 x.kind, .int .i64 x.a, .slice q2 x.list.length c2, .int .u8 f, .int .i64 x.n] rfl (by simp) (news5 n0 n1 n2 n3 n4) (by simp [Value.oneCell']) (by omega) (by unfold maxLen; omega) (by omega) (R2.ext0.le) _ rfl ?_; intro g5 cap5 w3 hown hgrow hor hlt5; obtain ⟨p', c5, e5, R3⟩ := ActsRow.grow R2.ext0 own1 each1 HX.out HOK.out SA2 (fun b o e => ⟨by have := SL.out b o e; omega, fun o' e' => by have := RF.out b o e; have := PF.out b o' e'; omega⟩) hown hgrow (fun g cap e => by cases e; exact hor.imp (row_block own1 g5) id); cases e5; have R4 := Lib.hid R3)
     go_wp2_with fail
     go_roundg (m - (j + 1))
     case measure => omega
     case rel => exact ⟨j + 1, some ⟨g5, 0, none⟩, cap5, by omega, Nat.le_refl _, by go_num, rfl, R4⟩
   · have : j = m := by omega
     subst this
     have tk : decide ((j : Int) < (j : Int)) = false := decide_eq_false (by omega)
     go_wp2_with fail
     go_returns
     have hr := R.out
     rw [← HM.out] at hr
     exact ⟨p, c, by rw [HM.out]; rfl, hr.at_, hr.ext0⟩
end Go.Proofs.YtdokmmhjmclmnaaGreat
namespace Go.Proofs.YtdokmmhjmclmnaaGreat
open Go.RowKit Go.Maps
theorem alike_true {l : List Int} (h : ∀ k, k < l.length → Hp.rd l k = Hp.rd l 0) : Hp.Hs.alike l = true := by
 unfold Hp.Hs.alike
 rw [List.all_eq_true]
 intro x hx
 obtain ⟨k, hk, rfl⟩ := List.getElem_of_mem hx
 have h1 := h k hk
 unfold Hp.rd at h1
 rw [List.getElem?_eq_getElem hk, List.getElem?_eq_getElem (by omega)] at h1
 cases l with
 | nil => simp at hk
 | cons y r =>
  have := Option.some.inj h1
  simp only [List.getElem_cons_zero] at this
  simp [this]
theorem alike_false {l : List Int} {k : Nat} {x y : Int} (h : Hp.rd l k = some x) (h0 : Hp.rd l 0 = some y) (hne : x ≠ y) : Hp.Hs.alike l = false := by
 cases ha : Hp.Hs.alike l with
 | false => rfl
 | true =>
  unfold Hp.Hs.alike at ha
  rw [List.all_eq_true] at ha
  have h1 := ha x (List.mem_of_getElem? h)
  cases l with
  | nil => simp [Hp.rd] at h0
  | cons z r =>
   have e : z = y := by simpa [Hp.rd] using h0
   subst e
   have : x = z := by simpa using h1
   exact absurd this hne
set_option maxHeartbeats 2000000 in
theorem dFlat {w : World} {p : Option Addr} {c : Nat} {l : List Int} {v : Int} {b : Bool} (h : SliceAt w p c l) (hb : Hp.Hs.alike l = b) :
    Calls Tryz.prog 136 #[.agg #[.int .i64 v, .slice p l.length c]] w fun e w' => e = .returned (.bool b) ∧ Ext w w' := by
  have hle := h.le
  have hcap := h.cap
  have H := Lib.hid h
  have HB := Lib.hid hb
  clear h hb
  generalize hL : l.length = n at hle ⊢
  have HL := Lib.hid hL
  clear hL
  go_enter Tryz.func136, Tryz.ntmps136
  go_wp2_with fail
  have E0 : Ext w (w.alloc (.cells #[.int .i64 v, .slice p n c] 41)) := exx
  have c1 : (w.alloc (.cells #[.int .i64 v, .slice p n c] 41)).cell? ⟨w.heap.size, 1, none⟩ = some (.slice p n c) := by simp [go_sem]
  have z1 : w.heap.size < (w.alloc (.cells #[.int .i64 v, .slice p n c] 41)).heap.size := by simp
  generalize hB : w.heap.size = bx at c1 z1 ⊢
  generalize w.alloc (.cells #[.int .i64 v, .slice p n c] 41) = w0 at *
  have E0H := Lib.hid E0
  clear E0 hB
  go_loopg [3] (n + 1) (fun g i wr => ∃ j : Nat, 1 ≤ j ∧ j ≤ n + 1 ∧ n + 1 - j ≤ g ∧ i = .int .i64 j ∧ Hid (Ext w0 wr) ∧ Hid (∀ k, k < j → k < n → Hp.rd l k = Hp.rd l 0))
  case atStart => exact ⟨1, by omega, by omega, by omega, rfl, Lib.hid (Ext.refl _), Lib.hid (fun k hk _ => by rw [show k = 0 by omega])⟩
  case round =>
   obtain ⟨j, hj1, hj, hg, rfl, E, A⟩ := hrel
   have c1' := (E.out.cell z1 1).trans c1
   have zr := Nat.lt_of_lt_of_le z1 E.out.le
   by_cases hlt : j < n
   · obtain ⟨x, hx⟩ := rd_get (l := l) (j := j) (by rw [HL.out]; exact hlt)
     obtain ⟨y, hy⟩ := rd_get (l := l) (j := 0) (by rw [HL.out]; omega)
     have EX := E0H.out.trans E.out
     obtain ⟨bb, o, hp, hbb, hc⟩ := (H.out.ext EX).cells (by rw [HL.out]; omega)
     have gx := hc j x hx
     have gy := hc 0 y hy
     rw [Nat.add_zero] at gy
     have HX := Lib.hid hx
     have HY := Lib.hid hy
     have tk : decide ((j : Int) < (n : Int)) = true := decide_eq_true (by omega)
     have n0 : 0 < n := by omega
     clear hc hx hy
     subst hp
     by_cases hxy : x = y
     · have t0 : (x != y) = false := by simpa using hxy
       have A2 : Hid (∀ k, k < j + 1 → k < n → Hp.rd l k = Hp.rd l 0) := Lib.hid (fun k hk hkn => by
        by_cases e : k = j
        · subst e
          rw [HX.out, HY.out, hxy]
        · exact A.out k (by omega) hkn)
       clear hxy
       go_wp2_with fail
       have PR43 := Lib.hid (fun (ww : World) (hSw : Ext wr ww) => And.intro ((hSw.cell zr 1).trans c1') (And.intro ((hSw.cell hbb (o + j)).trans gx) ((hSw.cell hbb o).trans gy)))
       refine wp_region_seq (S := fun W => Ext wr W) (R := Ext) (by kernel_rfl) Ext.refl ?_ ?_
       · exact exx
       refine' tkL (i := 0) (v := ?v0_1) rfl ?h0_1 ?r0_1
       case h0_1 => (intro w q; obtain ⟨c1'', gx', gy'⟩ := PR43.out w q; go_simp; try with_reducible rfl)
       refine layy ?_
       refine' tkL (i := 1) (v := ?v1_2) rfl ?h1_2 ?r1_2
       case h1_2 => (intro w q; obtain ⟨c1'', gx', gy'⟩ := PR43.out w q; go_simp; try with_reducible rfl)
       refine layy ?_
       refine' tkL (i := 2) (v := ?v2_3) rfl ?h2_3 ?r2_3
       case h2_3 => (intro w q; obtain ⟨c1'', gx', gy'⟩ := PR43.out w q; go_simp; try with_reducible rfl)
       refine layy ?_
       refine' tkL (i := 3) (v := ?v3_4) rfl ?h3_4 ?r3_4
       case h3_4 => (intro w q; obtain ⟨c1'', gx', gy'⟩ := PR43.out w q; go_simp; try with_reducible rfl)
       refine layy ?_
       refine' tkL (i := 4) (v := ?v4_5) rfl ?h4_5 ?r4_5
       case h4_5 => (intro w q; obtain ⟨c1'', gx', gy'⟩ := PR43.out w q; go_simp; try with_reducible rfl)
       refine layy ?_
       refine' tkL (i := 5) (v := ?v5_6) rfl ?h5_6 ?r5_6
       case h5_6 => (intro w q; obtain ⟨c1'', gx', gy'⟩ := PR43.out w q; go_simp; try with_reducible rfl)
       refine layy ?_
       refine' tkL (i := 6) (v := ?v6_7) rfl ?h6_7 ?r6_7
       case h6_7 => (intro w q; obtain ⟨c1'', gx', gy'⟩ := PR43.out w q; go_simp; try with_reducible rfl)
       refine layy ?_
       refine' tkL (i := 7) (v := ?v7_8) rfl ?h7_8 ?r7_8
       case h7_8 => (intro w q; obtain ⟨c1'', gx', gy'⟩ := PR43.out w q; go_simp; try with_reducible rfl)
       refine layy ?_
       refine' tkL (i := 8) (v := ?v8_9) rfl ?h8_9 ?r8_9
       case h8_9 => (intro w q; obtain ⟨c1'', gx', gy'⟩ := PR43.out w q; go_simp; try with_reducible rfl)
       refine layy ?_
       refine' tkL (i := 9) (v := ?v9_10) rfl ?h9_10 ?r9_10
       case h9_10 => (intro w q; obtain ⟨c1'', gx', gy'⟩ := PR43.out w q; go_simp; try with_reducible rfl)
       refine layy ?_
       refine wpAnyR_done (by kernel_rfl) ?_ _
       intro x1 _ Ex1
       have E2 := Lib.hid (E.out.trans Ex1)
       go_wp2_with fail
       go_roundg (n + 1 - (j + 1))
       case measure => omega
       case rel => exact ⟨j + 1, by omega, by omega, Nat.le_refl _, by go_num, E2, A2⟩
     · have t0 : (x != y) = true := by simpa using hxy
       have hbf : b = false := by rw [← HB.out]; exact alike_false HX.out HY.out hxy
       subst hbf
       clear hxy
       go_wp2_with fail
       have PR44 := Lib.hid (fun (ww : World) (hSw : Ext wr ww) => And.intro ((hSw.cell zr 1).trans c1') (And.intro ((hSw.cell hbb (o + j)).trans gx) ((hSw.cell hbb o).trans gy)))
       refine wp_region_seq (S := fun W => Ext wr W) (R := Ext) (by kernel_rfl) Ext.refl ?_ ?_
       · exact exx
       refine' tkL (i := 0) (v := ?v0_11) rfl ?h0_11 ?r0_11
       case h0_11 => (intro w q; obtain ⟨c1'', gx', gy'⟩ := PR44.out w q; go_simp; try with_reducible rfl)
       refine layy ?_
       refine' tkL (i := 1) (v := ?v1_12) rfl ?h1_12 ?r1_12
       case h1_12 => (intro w q; obtain ⟨c1'', gx', gy'⟩ := PR44.out w q; go_simp; try with_reducible rfl)
       refine layy ?_
       refine' tkL (i := 2) (v := ?v2_13) rfl ?h2_13 ?r2_13
       case h2_13 => (intro w q; obtain ⟨c1'', gx', gy'⟩ := PR44.out w q; go_simp; try with_reducible rfl)
       refine layy ?_
       refine' tkL (i := 3) (v := ?v3_14) rfl ?h3_14 ?r3_14
       case h3_14 => (intro w q; obtain ⟨c1'', gx', gy'⟩ := PR44.out w q; go_simp; try with_reducible rfl)
       refine layy ?_
       refine' tkL (i := 4) (v := ?v4_15) rfl ?h4_15 ?r4_15
       case h4_15 => (intro w q; obtain ⟨c1'', gx', gy'⟩ := PR44.out w q; go_simp; try with_reducible rfl)
       refine layy ?_
       refine' tkL (i := 5) (v := ?v5_16) rfl ?h5_16 ?r5_16
       case h5_16 => (intro w q; obtain ⟨c1'', gx', gy'⟩ := PR44.out w q; go_simp; try with_reducible rfl)
       refine layy ?_
       refine' tkL (i := 6) (v := ?v6_17) rfl ?h6_17 ?r6_17
       case h6_17 => (intro w q; obtain ⟨c1'', gx', gy'⟩ := PR44.out w q; go_simp; try with_reducible rfl)
       refine layy ?_
       refine' tkL (i := 7) (v := ?v7_18) rfl ?h7_18 ?r7_18
       case h7_18 => (intro w q; obtain ⟨c1'', gx', gy'⟩ := PR44.out w q; go_simp; try with_reducible rfl)
       refine layy ?_
       refine' tkL (i := 8) (v := ?v8_19) rfl ?h8_19 ?r8_19
       case h8_19 => (intro w q; obtain ⟨c1'', gx', gy'⟩ := PR44.out w q; go_simp; try with_reducible rfl)
       refine layy ?_
       refine' tkL (i := 9) (v := ?v9_20) rfl ?h9_20 ?r9_20
       case h9_20 => (intro w q; obtain ⟨c1'', gx', gy'⟩ := PR44.out w q; go_simp; try with_reducible rfl)
       refine layy ?_
       refine wpAnyR_done (by kernel_rfl) ?_ _
       intro x1 _ Ex1
       go_wp2_with fail
       go_returns
       exact ⟨rfl, EX.trans Ex1⟩
   · have tk : decide ((j : Int) < (n : Int)) = false := decide_eq_false (by omega)
     have hbt : b = true := by
      rw [← HB.out]
      exact alike_true fun k hk => A.out k (by have := HL.out; omega) (by have := HL.out; omega)
     subst hbt
     go_wp2_with fail
     go_returns
     exact ⟨rfl, E0H.out.trans E.out⟩
end Go.Proofs.YtdokmmhjmclmnaaGreat
namespace Go.Proofs.YtdokmmhjmclmnaaGreat
open Go.RowKit Go.Maps
set_option maxRecDepth 100000 in
set_option maxHeartbeats 4000000 in
theorem rCheckNode {w : World} {r : Rd} {S : Hp.Hs} {B : Nat} {L : List Hp.Tl} {ch : Nat → List Nat} (h : RAt w r S) (hw : Hp.Wf S B L ch) {a : Nat} (ha : a ∈ S.taken) (he : Hp.isEnd (Hp.ow S.words a) = false) {q : Option Addr} {qc : Nat} (hq : SliceAt w q qc (Hp.fz (Hp.ow S.words) S.sizes a)) :
    Calls Tryz.prog 135 #[.pointer (some ⟨r.rb, 0, none⟩), .int .i64 (Hp.ow S.words a - 1), .slice q (Hp.fz (Hp.ow S.words) S.sizes a).length qc] w fun e w' => e = .returned (.int .i64 0) ∧ Ext w w' := by
  have hn := Hp.isNode_of (hw.cells.tags a ha) he
  have hm := order_mem hw.fr hn
  obtain ⟨k, k1, k2, k3⟩ := index_spec hm
  have hrk : Hp.rank S.order (Hp.ow S.words a) = (k : Int) := by rw [rank_node (z := S.sizes) he, k1]
  have PL := Lib.hid (fun W (hW : Ext w W) => rPlace (h.ext hW) k2 k3)
  have KID : ∀ i, i < (Hp.fz (Hp.ow S.words) S.sizes a).length → ∃ b : Nat, Hp.rd (Hp.fz (Hp.ow S.words) S.sizes a) i = some (b : Int) ∧ b ∈ S.taken ∧ (k : Int) < Hp.rank S.order (Hp.ow S.words b) := fun i hi => by
   have hmm : (Hp.fz (Hp.ow S.words) S.sizes a)[i] ∈ Hp.kz (Hp.ow S.words) S.sizes a := by
    unfold Hp.kz
    rw [he]
    simp only [Bool.false_eq_true, if_false]
    exact List.getElem_mem hi
   obtain ⟨b, hb, e, hr⟩ := hw.cells.kids a ha _ hmm
   rw [hrk] at hr
   exact ⟨b, by unfold Hp.rd; rw [List.getElem?_eq_getElem hi, e], hb, hr⟩
  simp only [Hp.isNode, Hp.within, Bool.and_eq_true, decide_eq_true_eq] at hn
  have few := hw.fr.few
  have hsz : ∃ i : Nat, Hp.ow S.words a = (i : Int) + 1 ∧ i < S.sizes.length ∧ Hp.rd S.sizes i = some ((Hp.fz (Hp.ow S.words) S.sizes a).length : Int) := by
   refine ⟨(Hp.ow S.words a - 1).toNat, by omega, by omega, ?_⟩
   have hl : (Hp.ow S.words a - 1).toNat < S.sizes.length := by omega
   rw [Hp.rd_ow hl, Hp.fz_length]
   unfold Hp.wz
   rw [he]
   have hp := hw.fr.pos _ (List.getElem_mem hl)
   have e2 : S.sizes.getD (Hp.ow S.words a - 1).toNat 0 = Hp.ow S.sizes (Hp.ow S.words a - 1).toNat := rfl
   have e3 : Hp.ow S.sizes (Hp.ow S.words a - 1).toNat = S.sizes[(Hp.ow S.words a - 1).toNat] := (Hp.ow_rd (by unfold Hp.rd; rw [List.getElem?_eq_getElem hl])).1
   rw [e2]
   simp only [Bool.false_eq_true, if_false]
   rw [e3] at *
   congr 1
   omega
  obtain ⟨i, hi1, hi2, hi3⟩ := hsz
  have IS := Lib.hid (fun b (hb : b ∈ S.taken) W (hW : Ext w W) => rIs_yes (h.ext hW) hw hb)
  have RK := Lib.hid (fun b (hb : b ∈ S.taken) W (hW : Ext w W) => rRank (h.ext hW) hw hb)
  have H := Lib.hid h
  have HQ := Lib.hid hq
  have HK := Lib.hid KID
  have qle := hq.le
  have qcap := hq.cap
  have sle := h.sizes.le
  have scap := h.sizes.cap
  obtain ⟨sb, so, hsp, hsb, hsc⟩ := h.sizes.cells (by omega)
  have gs := hsc i _ hi3
  have c0 := h.c0
  rw [hsp] at c0
  have hlt := h.lt
  have hkb : k ≤ 100 := by
   have := rd_lt k2
   have := hw.fr.len
   omega
  have hrl : ∀ b, b ∈ S.taken → Hp.rank S.order (Hp.ow S.words b) ≤ 100 := fun b hb => by
   unfold Hp.rank
   split
   · have := hw.fr.len
     omega
   · unfold Hp.index
     split
     · rename_i j hj
       rw [List.findIdx?_eq_some_iff_getElem] at hj
       have := hj.1
       have := hw.fr.len
       omega
     · omega
  have HRL := Lib.hid hrl
  rw [hi1] at PL ⊢
  rw [show (i : Int) + 1 - 1 = (i : Int) by omega] at PL ⊢
  obtain ⟨fs, hfs⟩ : ∃ fs, Hp.fz (Hp.ow S.words) S.sizes a = fs := ⟨_, rfl⟩
  rw [hfs] at gs qle HQ HK ⊢
  obtain ⟨m, hm'⟩ : ∃ m, fs.length = m := ⟨_, rfl⟩
  have EM := Lib.hid hm'
  rw [hm'] at gs qle ⊢
  obtain ⟨n, hn'⟩ : ∃ n, S.sizes.length = n := ⟨_, rfl⟩
  rw [hn'] at c0 sle few hi2
  have IN : Hid (∀ W, Calls Tryz.prog 66 #[.int .i64 (i : Int), .int .i64 0, .int .i64 ((n : Int) - 1)] W fun e w' => e = .returned (.bool true) ∧ Ext W w') := Lib.hid (fun W => by
   have := dIn (i : Int) 0 ((n : Int) - 1) W
   rw [show Hp.within 0 ((n : Int) - 1) (i : Int) = true by simp [Hp.within]; omega] at this
   exact this)
  clear h hw ha he hq KID hn hm k1 k2 k3 hrk hi1 hi3 hsc hsp hfs hm' hn' hrl
  go_enter Tryz.func135, Tryz.ntmps135
  go_wp2_with (go_at_call 66; refine (IN.out _).mono ?_; rintro e w1 ⟨rfl, hb1⟩; obtain ⟨hc1, hf1, hs1⟩ := hb1.cells; have c0' := (hb1.cell hlt 0).trans c0; have gs' := (hb1.cell hsb (so + i)).trans gs)
  have E1 := Lib.hid hb1
  clear hb1 hc1 hf1 hs1 c0' gs'
  go_loopg [7] m (fun g s wr => ∃ j : Nat, j ≤ m ∧ m - j ≤ g ∧ s = .int .i64 j ∧ Hid (Ext w wr))
  case atStart => exact ⟨0, Nat.zero_le _, by omega, rfl, E1⟩
  case round =>
   obtain ⟨j, hj, hg, rfl, E⟩ := hrel
   by_cases hlt2 : j < m
   · obtain ⟨b, hb1, hb2, hb3⟩ := HK.out j (by rw [EM.out]; exact hlt2)
     obtain ⟨qb, qo, hqp, hqb, hqc⟩ := (HQ.out.ext E.out).cells (by rw [EM.out]; omega)
     have gq := hqc j _ hb1
     have ISB := Lib.hid (fun W (hW : Ext w W) => IS.out b hb2 W hW)
     have tk : decide ((j : Int) < (m : Int)) = true := decide_eq_true (by omega)
     clear hqc hb1 hb2 hb3
     subst hqp
     go_wp2_with (go_at_call 26; refine (ISB.out _ E.out).mono ?_; rintro e w2 ⟨rfl, hE2⟩)
     have E2 := Lib.hid (E.out.trans hE2)
     go_roundg (m - (j + 1))
     case measure => omega
     case rel => exact ⟨j + 1, by omega, Nat.le_refl _, by go_num, E2⟩
   · have tk : decide ((j : Int) < (m : Int)) = false := decide_eq_false (by omega)
     go_wp2_with fail
     clear tk hj hg hlt2 E1
     go_loopg [8] m (fun g s wr => ∃ j : Nat, j ≤ m ∧ m - j ≤ g ∧ s = .int .i64 j ∧ Hid (Ext w wr))
     case atStart => exact ⟨0, Nat.zero_le _, by omega, rfl, E⟩
     case round =>
      obtain ⟨j, hj, hg, rfl, E⟩ := hrel
      by_cases hlt2 : j < m
      · obtain ⟨b, hb1, hb2, hb3⟩ := HK.out j (by rw [EM.out]; exact hlt2)
        obtain ⟨qb, qo, hqp, hqb, hqc⟩ := (HQ.out.ext E.out).cells (by rw [EM.out]; omega)
        have gq := hqc j _ hb1
        have RKB := Lib.hid (fun W (hW : Ext w W) => RK.out b hb2 W hW)
        have hb4 := HRL.out b hb2
        have tk : decide ((j : Int) < (m : Int)) = true := decide_eq_true (by omega)
        clear hqc hb1 hb2
        generalize Hp.rank S.order (Hp.ow S.words b) = rk at *
        have t0 : decide (rk ≤ (k : Int)) = false := decide_eq_false (by omega)
        subst hqp
        go_wp2_with (first
         | (go_at_call 172; refine (RKB.out _ E.out).mono ?_; rintro e w2 ⟨rfl, hE2⟩)
         | (go_at_call 173; refine (PL.out _ (E.out.trans hE2)).mono ?_; rintro e w3 ⟨rfl, hE3⟩))
        have E2 := Lib.hid (E.out.trans (hE2.trans hE3))
        go_roundg (m - (j + 1))
        case measure => omega
        case rel => exact ⟨j + 1, by omega, Nat.le_refl _, by go_num, E2⟩
      · have tk : decide ((j : Int) < (m : Int)) = false := decide_eq_false (by omega)
        go_wp2_with fail
        go_returns
        exact ⟨rfl, E.out⟩
end Go.Proofs.YtdokmmhjmclmnaaGreat
