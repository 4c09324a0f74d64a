/-
  Part 32 of a proof: RP1 RP2 RP3 RP4.
-/
import Derived.Test.YtdokmmhjmclmnaaGreatMP06
import Derived.Test.YtdokmmhjmclmnaaGreatMP25
import Derived.Test.YtdokmmhjmclmnaaGreatMP31
set_option linter.unusedSimpArgs false
set_option linter.unusedVariables false
set_option linter.unusedSectionVars false
set_option linter.unnecessarySimpa false
namespace Go.Proofs.YtdokmmhjmclmnaaGreat
open Go.RowKit Go.Maps
def Rd.own (r : Rd) : List Nat := [r.rb, r.gb]
structure RW (w : World) (r : Rd) (S : Hp.Hs) : Prop where
 c0 : w.cell? ⟨r.rb, 0, none⟩ = some (.slice r.sp S.sizes.length r.sc)
 c1 : w.cell? ⟨r.rb, 1, none⟩ = some (.slice r.op S.order.length r.oc)
 c2 : w.cell? ⟨r.rb, 2, none⟩ = some (.slice (some ⟨r.gb, 0, none⟩) S.words.length r.wc)
 f2 : w.frozen? ⟨r.rb, 2, none⟩ = false
 sizes : SliceAt w r.sp r.sc S.sizes
 order : SliceAt w r.op r.oc S.order
 words : WordsAt w r.gb S.words
 le : S.words.length ≤ r.wc
 cap : r.wc ≤ 9223372036854775807
 go : r.go = 0
 apart : r.rb ≠ r.gb
 far1 : 0 < S.sizes.length → ∀ b o, r.sp = some ⟨b, o, none⟩ → b ∉ r.own
 far2 : 0 < S.order.length → ∀ b o, r.op = some ⟨b, o, none⟩ → b ∉ r.own
theorem WordsAt.slice {w : World} {g c : Nat} {W : List Int} (h : WordsAt w g W) (h1 : W.length ≤ c) (h2 : c ≤ 9223372036854775807) : SliceAt w (some ⟨g, 0, none⟩) c W :=
 ⟨h1, h2, h.wf, fun _ => ⟨g, 0, rfl, h.lt, fun j x hx => by rw [Nat.zero_add]; exact h.get hx⟩⟩
theorem SliceAt.but1 {w w' : World} {p : Option Addr} {c : Nat} {l : List Int} (h : SliceAt w p c l) {bs : List Nat} (k : But bs w w') (hf : 0 < l.length → ∀ b o, p = some ⟨b, o, none⟩ → b ∉ bs) : SliceAt w' p c l := by
 refine ⟨h.le, h.cap, h.wf, fun h0 => ?_⟩
 obtain ⟨b, o, rfl, hb, hc⟩ := h.cells h0
 exact ⟨b, o, rfl, Nat.lt_of_lt_of_le hb k.size, fun j x hx => (k.cell hb (hf h0 b o rfl) _).trans (hc j x hx)⟩
namespace RW
variable {w w' : World} {r : Rd} {S : Hp.Hs}
theorem at_ (h : RW w r S) : RAt w r S := ⟨h.c0, h.c1, by rw [h.go]; exact h.c2, h.sizes, h.order, by rw [h.go]; exact h.words.slice h.le h.cap⟩
theorem lt (h : RW w r S) : r.rb < w.heap.size := cell_lt h.c0
theorem ext (h : RW w r S) (k : Ext w w') : RW w' r S :=
 { h with
   c0 := (k.cell h.lt 0).trans h.c0
   c1 := (k.cell h.lt 1).trans h.c1
   c2 := (k.cell h.lt 2).trans h.c2
   f2 := (k.frozen h.lt 2).trans h.f2
   sizes := h.sizes.ext k
   order := h.order.ext k
   words := h.words.ext k }
theorem turn (h : RW w r S) {W : List Int} (k : But [r.gb] w w') (hw : WordsAt w' r.gb W) (hl : W.length = S.words.length) : RW w' r { S with words := W } :=
 have n1 : r.rb ∉ [r.gb] := by simp [h.apart]
 { h with
   c0 := (k.cell h.lt n1 0).trans h.c0
   c1 := (k.cell h.lt n1 1).trans h.c1
   c2 := by rw [k.cell h.lt n1 2, h.c2, hl]
   f2 := (k.frozen h.lt n1 2).trans h.f2
   sizes := h.sizes.but1 k (fun h0 b o e hm => h.far1 h0 b o e (by simp [Rd.own] at hm ⊢; simp [hm]))
   order := h.order.but1 k (fun h0 b o e hm => h.far2 h0 b o e (by simp [Rd.own] at hm ⊢; simp [hm]))
   words := hw
   le := by rw [hl]; exact h.le }
theorem but (h : RW w r S) {l : List Nat} (k : But l w w') (h0 : r.rb ∉ l) (h1 : r.gb ∉ l) (h3 : ∀ b o, r.sp = some ⟨b, o, none⟩ → b ∉ l) (h4 : ∀ b o, r.op = some ⟨b, o, none⟩ → b ∉ l) : RW w' r S :=
 { h with
   c0 := (k.cell h.lt h0 0).trans h.c0
   c1 := (k.cell h.lt h0 1).trans h.c1
   c2 := (k.cell h.lt h0 2).trans h.c2
   f2 := (k.frozen h.lt h0 2).trans h.f2
   sizes := h.sizes.but k h3
   order := h.order.but k h4
   words := h.words.but k h1 }
theorem get (h : RW w r S) {j : Nat} (hj : j < S.words.length) : w.cell? ⟨r.gb, j, none⟩ = some (.int .i64 (Hp.ow S.words j)) := h.words.get (Hp.rd_ow hj)
theorem bound (h : RW w r S) {j : Nat} (hj : j < S.words.length) : -9223372036854775808 ≤ Hp.ow S.words j ∧ Hp.ow S.words j ≤ 9223372036854775807 := h.words.bound (Hp.rd_ow hj)
theorem set (h : RW w r S) {j : Nat} {v : Int} (hj : j < S.words.length) (h1 : -9223372036854775808 ≤ v) (h2 : v ≤ 9223372036854775807) : RW (w.setCell ⟨r.gb, j, none⟩ (.int .i64 v)) r { S with words := S.words.set j v } :=
 h.turn ((But.refl _ _).setCell (by simp) _) (h.words.set (W' := S.words.set j v) (by simp [Hp.wr, hj]) h1 h2) (by simp)
end RW
structure RNow (w0 w : World) (r : Rd) (S : Hp.Hs) : Prop extends RW w r S where
 but : But r.own w0 w
theorem Rd.gb_own (r : Rd) : r.gb ∈ r.own := by simp [Rd.own]
theorem Rd.rb_own (r : Rd) : r.rb ∈ r.own := by simp [Rd.own]
namespace RNow
variable {w0 w w' : World} {r : Rd} {S : Hp.Hs}
theorem refl (h : RW w r S) : RNow w w r S := ⟨h, But.refl _ _⟩
theorem ext (h : RNow w0 w r S) (k : Ext w w') : RNow w0 w' r S := ⟨h.toRW.ext k, h.but.ext k⟩
theorem trans {a b c : World} {S' : Hp.Hs} (h : RNow a b r S) (k : RNow b c r S') : RNow a c r S' := ⟨k.toRW, h.but.trans k.but⟩
theorem set (h : RNow w0 w r S) {j : Nat} {v : Int} (hj : j < S.words.length) (h1 : -9223372036854775808 ≤ v) (h2 : v ≤ 9223372036854775807) : RNow w0 (w.setCell ⟨r.gb, j, none⟩ (.int .i64 v)) r { S with words := S.words.set j v } :=
 ⟨h.toRW.set hj h1 h2, h.but.setCell (.inl r.gb_own) _⟩
theorem cut {P : Program} {c : Code} {Q : Exit → Act → World → Prop} {a : Act} (h : RNow w0 w r S) (k : ∀ w', RNow w0 w' r S → c.wp P Q a w') : c.wp P Q a w := k w h
end RNow
def RTurned (r : Rd) (w : World) (v : Value) (S : Hp.Hs) (e : Ending) (w' : World) : Prop := e = .returned v ∧ RNow w w' r S
theorem RNow.done {w0 w : World} {r : Rd} {S : Hp.Hs} {v : Value} (h : RNow w0 w r S) : RTurned r w0 v S (.returned v) w := ⟨rfl, h⟩
open Go.RowKit Go.Maps
theorem RNow.len {w0 w : World} {r : Rd} {S : Hp.Hs} {V : List Int} {n : Nat} (h : RNow w0 w r { S with words := V }) (e : V.length = n) : w.cell? ⟨r.rb, 2, none⟩ = some (.slice (some ⟨r.gb, 0, none⟩) n r.wc) := by
 rw [← e]
 exact h.c2
theorem RNow.word {w0 w : World} {r : Rd} {S : Hp.Hs} {V : List Int} {j : Nat} {x : Int} (h : RNow w0 w r { S with words := V }) (hj : j < V.length) (e : Hp.ow V j = x) : w.cell? ⟨r.gb, j, none⟩ = some (.int .i64 x) := by
 rw [← e]
 exact h.get hj
theorem RNow.as {w0 w : World} {r : Rd} {S : Hp.Hs} {V : List Int} (h : RNow w0 w r { S with words := V }) (e : V = S.words) : RNow w0 w r S := by
 subst e
 exact h
set_option maxRecDepth 100000 in
set_option maxHeartbeats 8000000 in
theorem rLink {w : World} {r : Rd} {S : Hp.Hs} {W : List Int} {B : Nat} {L : List Hp.Tl} {ch : Nat → List Nat} (h : RW w r { S with words := W }) (hw : Hp.Wf S B L ch) (hn : Hp.Near L W S.words) :
    Calls Tryz.prog 152 #[.pointer (some ⟨r.rb, 0, none⟩)] w (RTurned r w (.tuple #[]) S) := by
  have HP := Lib.hid hw.parts; have hi := hw.hi; have lo := hw.lo; have HZ := Lib.hid hw.fr.toFr; have hLn := Hp.lay_len_ hw.parts.lay; have hcap := h.cap; have hle : S.words.length ≤ r.wc := by rw [← hn.len]; exact h.le
  have LK0 := Lib.hid (Hp.Linking.start hn hw.parts.lay); have N0 := Lib.hid (RNow.refl h); obtain ⟨n, hnn⟩ : ∃ n, S.words.length = n := ⟨_, rfl⟩
  have EN := Lib.hid hnn; rw [hnn] at hi lo hLn hle; clear h hn hnn hw; go_enter Tryz.func152, Tryz.ntmps152
  go_wp2_with fail
  go_loopg [2, 3] L.length (fun g b i wr => ∃ (P Q : List Hp.Tl) (a : Nat) (V : List Int), Q.length ≤ g ∧ i = .int .i64 a ∧ b = .int .i64 (Hp.lastL 16 P) ∧ a ≤ n ∧ Hid (L = P ++ Q) ∧ Hid (Hp.Lay a Q n) ∧ Hid (Hp.Linking L P a V S.words) ∧ Hid (RNow w wr r { S with words := V }))
  case atStart => exact ⟨[], L, 17, W, Nat.le_refl _, rfl, rfl, by omega, Lib.hid rfl, Lib.hid (by rw [← EN.out]; exact HP.out.lay), LK0, N0⟩
  case round =>
   obtain ⟨P, Q, a, V, hg, rfl, rfl, ha, EL, LQ, LK, N⟩ := hrel; have vl : V.length = n := LK.out.len.trans EN.out; have EV := Lib.hid vl; have c2 := N.out.len vl; obtain ⟨bf, hbf⟩ : ∃ bf, Hp.lastL 16 P = bf := ⟨_, rfl⟩
   have BF := Lib.hid hbf; rw [hbf]; clear hbf vl
   cases Q with
   | nil =>
    have : a = n := LQ.out; subst this; have tk : decide ((a : Int) < (a : Int)) = false := decide_eq_false (by omega); have FIN := Lib.hid (show bf < V.length ∧ V.set bf 0 = S.words by
     have hP : P = L := by rw [EL.out, List.append_nil]
     have k := LK.out; have b := BF.out; rw [hP] at k b; have := Hp.Linking.finish (EN.out ▸ k) HP.out (by have := EN.out; omega); rw [b] at this; exact this)
    have b1 := FIN.out.1; rw [EV.out] at b1; have g1 := N.out.word (j := bf) (x := _) FIN.out.1 rfl; have fr := N.out.words.froz bf; have z1 := N.out.words.lt; have NF := Lib.hid (RNow.as (S := S) (V := V.set bf 0) (N.out.set (j := bf) (v := 0) FIN.out.1 (by omega) (by omega)) FIN.out.2)
    go_wp2_with fail
    go_returns; exact ⟨rfl, NF.out⟩
   | cons t Q =>
    obtain ⟨q1, q2, q3⟩ := LQ.out; have q4 := q3.le; have htL : t ∈ L := by rw [EL.out]; simp
    have ok := HP.out.ok t htL; have np := LK.out.toNear.part HP.out.lay htL; have EL2 : Hid (L = (P ++ [t]) ++ Q) := Lib.hid (by rw [EL.out]; simp); have LQ2 := Lib.hid q3; have tk : decide ((a : Int) < (n : Int)) = true := decide_eq_true (by omega); have HNX := Lib.hid (show IntKind.i64.wrap ((a : Int) + (t.k : Int)) = ((a + t.k : Nat) : Int) by rw [Int.natCast_add]; exact IntWalk.i64_in _ (by omega)); have HT := Lib.hid q1; have HTL := Lib.hid htL; have va : a + 1 < V.length := by rw [EV.out]; omega
    rw [q1] at np; simp only [List.length_cons] at hg
    cases hf : t.fr with
    | false =>
     have hcl := ok.cell hf; rw [q1] at hcl; have hto := Hp.okTag_le HZ.out hcl.1; have e0 := np.1; have LONG := Lib.hid (fun W (hW : Ext wr W) => rLong_cell (N.out.toRW.at_.ext hW) HZ.out (a := a) (by show a < V.length; omega) (by show Hp.okTag S.sizes (Hp.ow V a) = true; rw [e0]; exact hcl.1)); have EK := Lib.hid (show Hp.wz S.sizes (Hp.ow V a) = t.k by rw [e0]; exact hcl.2.symm); have LONG2 : Hid (∀ W, Ext wr W → Calls Tryz.prog 67 #[.pointer (some ⟨r.rb, 0, none⟩), .int .i64 a] W fun e w' => e = .returned (.int .i64 (t.k : Int)) ∧ Ext W w') := Lib.hid (fun W hW => by rw [← EK.out]; exact LONG.out W hW); have gx := N.out.word (j := a) (x := Hp.ow V a) (by omega) rfl; have t0 : (Hp.ow V a != 0) = true := by rw [e0]; simp; omega
     have z1 := N.out.toRW.lt; have z2 := N.out.words.lt; have LK2 := Lib.hid (LK.out.cell HP.out.lay htL HT.out hf); have BF2 := Lib.hid (show Hp.lastL 16 (P ++ [t]) = bf by rw [Hp.lastL_app, BF.out]; simp [Hp.lastL, hf]); clear hcl hto ok np q3 q1 hf htL LONG EK e0; generalize Hp.ow V a = x at *
     go_wp2_with (go_at_call 67; refine (LONG2.out _ (exx)).mono ?_; rintro e w1 ⟨rfl, hb1⟩; obtain ⟨hc1, hf1, hs1⟩ := hb1.cells)
     go_roundg Q.length
     case measure => omega
     case rel => exact ⟨P ++ [t], Q, a + t.k, V, Nat.le_refl _, by go_num, by rw [BF2.out], by omega, EL2, LQ2, LK2, Lib.hid (N.out.ext hb1)⟩
    | true =>
     have hfr := ok.free hf; rw [q1] at hfr; have e0 : Hp.ow V a = 0 := np.1.trans hfr.1; have gx := N.out.word (j := a) (by omega) e0; have FR := Lib.hid (by have := LK.out.free EL.out HP.out q1 hf; rw [BF.out] at this; exact this); have b1 := FR.out.1; rw [EV.out] at b1; have g1 := N.out.word (j := bf) (x := _) FR.out.1 rfl; have fr := N.out.words.froz bf; have z1 := N.out.toRW.lt; have z2 := N.out.words.lt; have N1 := Lib.hid (N.out.set (j := bf) (v := (a : Int)) FR.out.1 (by omega) (by omega)); have BF2 := Lib.hid (show Hp.lastL 16 (P ++ [t]) = a + 2 by rw [Hp.lastL_app]; simp [Hp.lastL, hf, HT.out]); have HF := Lib.hid hf; clear hfr ok np q3 q1 hf htL e0 va; go_upto_region 6 with (fail)
     refine RNow.cut N1.out ?_; intro w5 N5; have NN := Lib.hid N5; clear N5 N1 fr g1 gx c2 z1 z2 N EV LK
     go_wp2_with fail
     go_loopg [4] t.k (fun g s wx => ∃ (i : Nat) (V : List Int), a + 3 ≤ i ∧ i ≤ a + t.k ∧ a + t.k - i ≤ g ∧ s = .int .i64 i ∧ Hid (Hp.Zeroing L t i V S.words) ∧ Hid (RNow w wx r { S with words := V }))
     case atStart => exact ⟨a + 3, _, Nat.le_refl _, by omega, by omega, by go_num, Lib.hid FR.out.2, NN⟩
     case round =>
      obtain ⟨i, V2, hi1, hi2, hgi, rfl, ZR, N⟩ := hrel; clear NN FR; have vl : V2.length = n := ZR.out.len.trans EN.out; have c2 := N.out.len vl; have EV := Lib.hid vl; have np := ZR.out.toNear.part HP.out.lay HTL.out; have hfr := (HP.out.ok t HTL.out).free HF.out; rw [HT.out] at np hfr; have gk := N.out.word (j := a + 1) (x := (t.k : Int)) (by omega) (np.2.trans hfr.2.1); have ia : IntKind.i64.wrap ((a : Int) + 1) = (a : Int) + 1 := IntWalk.i64_in _ (by omega); have gk1 := gk
      by_cases hlt : i < a + t.k
      · have t1 : decide ((i : Int) < ((a + t.k : Nat) : Int)) = true := decide_eq_true (by omega); have ST := Lib.hid (ZR.out.step HP.out HTL.out HF.out (by rw [HT.out]; omega) (by rw [HT.out]; omega)); have g1 := N.out.word (j := i) (x := _) ST.out.1 rfl; have fr := N.out.words.froz i; have z1 := N.out.toRW.lt; have z2 := N.out.words.lt; have HNX2 := HNX.out; have i_n : i < n := by omega
        have N1 := Lib.hid (N.out.set (j := i) (v := 0) ST.out.1 (by omega) (by omega)); clear np hfr vl
        go_wp2_with fail
        go_roundg (a + t.k - (i + 1))
        case measure => omega
        case rel => exact ⟨i + 1, _, by omega, by omega, Nat.le_refl _, by go_num, Lib.hid ST.out.2, N1⟩
      · have : i = a + t.k := by omega
        subst this; have t1 : decide (((a + t.k : Nat) : Int) < ((a + t.k : Nat) : Int)) = false := decide_eq_false (by omega); have e0 : Hp.ow V2 a = 0 := np.1.trans hfr.1; have gx := N.out.word (j := a) (by omega) e0; have LONG := Lib.hid (fun W (hW : Ext wr W) => rLong_free (N.out.toRW.at_.ext hW) (a := a) (k := t.k) (by show a + 1 < V2.length; omega) e0 (np.2.trans hfr.2.1)); have LK2 := Lib.hid (show Hp.Linking L (P ++ [t]) (a + t.k) V2 S.words by have z := ZR.out; rw [← HT.out] at z ⊢; exact z.fin HF.out); have HNX2 := HNX.out; have z1 := N.out.toRW.lt; clear np hfr vl e0
        go_wp2_with (go_at_call 67; refine (LONG.out _ (exx)).mono ?_; rintro e w1 ⟨rfl, hb1⟩; obtain ⟨hc1, hf1, hs1⟩ := hb1.cells)
        go_roundg Q.length
        case measure => omega
        case rel => exact ⟨P ++ [t], Q, a + t.k, V2, Nat.le_refl _, by go_num, by rw [BF2.out]; go_num, by omega, EL2, LQ2, LK2, Lib.hid (N.out.ext hb1)⟩
theorem pick_app (b : Bool) (P Q : List Hp.Tl) : pick b (P ++ Q) = pick b P ++ pick b Q := by simp [pick]
theorem pick_rd {L : List Hp.Tl} {j : Nat} (hj : j < (pick true L).length) : ∃ u ∈ L, u.fr = true ∧ Hp.rd (pick true L) j = some (u.a : Int) := by
 unfold pick at hj ⊢
 rw [List.length_map] at hj
 have hm := List.getElem_mem hj
 rw [List.mem_filter] at hm
 refine ⟨_, hm.1, by simpa using hm.2, ?_⟩
 unfold Hp.rd
 rw [List.getElem?_map, List.getElem?_eq_getElem hj]
 rfl
set_option maxRecDepth 100000 in
set_option maxHeartbeats 8000000 in
theorem rTake_none {w : World} {r : Rd} {S : Hp.Hs} {B : Nat} {L : List Hp.Tl} {ch : Nat → List Nat} (h : RW w r S) (hw : Hp.Wf S B L ch) {wd : Nat} (h16 : wd ≤ 16) (hno : ∀ u ∈ L, u.fr = true → ¬ Hp.Fits wd u) :
    Calls Tryz.prog 182 #[.pointer (some ⟨r.rb, 0, none⟩), .int .i64 wd] w fun e w' => e = .returned (.int .i64 0) ∧ Ext w w' := by
  have FREE := Lib.hid (rFree h.at_ hw.fr.toFr hw.hi hw.parts); have HP := Lib.hid hw.parts; have H := Lib.hid h; have HNO := Lib.hid hno; have hi := hw.hi; have hle := h.le; have hcap := h.cap; have plen := pick_len true L; have hLn := Hp.lay_len_ hw.parts.lay; obtain ⟨n, hn⟩ : ∃ n, S.words.length = n := ⟨_, rfl⟩
  have EN := Lib.hid hn; obtain ⟨m, hm⟩ : ∃ m, (pick true L).length = m := ⟨_, rfl⟩
  have EM := Lib.hid hm; have z1 := h.lt; have z2 := h.words.lt; have c2 := h.c2; rw [hn] at hi hle hLn c2; rw [hm] at plen; clear h hw hno hn hm; go_enter Tryz.func182, Tryz.ntmps182
  go_wp2_with (go_at_call 84; refine FREE.out.mono ?_; rintro e w1 ⟨p, c, rfl, hR, hE⟩; rw [EM.out]; have RR := Lib.hid hR.at_; have E1 := Lib.hid hE)
  clear hR hE FREE; have lle := RR.out.le; have lcap := RR.out.cap; rw [EM.out] at lle
  go_loopg [6] m (fun g i wr => ∃ j : Nat, j ≤ m ∧ m - j ≤ g ∧ i = .int .i64 j ∧ Hid (Ext w1 wr))
  case atStart => exact ⟨0, Nat.zero_le _, by omega, rfl, Lib.hid (Ext.refl _)⟩
  case round =>
   obtain ⟨j, hj, hg, rfl, E⟩ := hrel
   by_cases hlt : j < m
   · obtain ⟨u, hu, huf, hrd⟩ := pick_rd (L := L) (j := j) (by rw [EM.out]; exact hlt); obtain ⟨lb, lo, hlp, hlbb, hlc⟩ := (RR.out.ext E.out).cells (by rw [EM.out]; omega); have gl := hlc j _ hrd; have Ew := E1.out.trans E.out; have mu := HP.out.lay.mem hu; rw [EN.out] at mu; have ok := (HP.out.ok u hu).free huf; have gw := H.out.get (j := u.a + 1) (by rw [EN.out]; omega); rw [ok.2.1] at gw; have gw := (Ew.cell z2 (u.a + 1)).trans gw; have c2w := (Ew.cell z1 2).trans c2; have zb : r.rb < wr.heap.size := Nat.lt_of_lt_of_le z1 Ew.le; have zg : r.gb < wr.heap.size := Nat.lt_of_lt_of_le z2 Ew.le; have nf := HNO.out u hu huf; unfold Hp.Fits at nf; have t0 : ((u.k : Int) != (wd : Int)) = true := by simp; omega
     have t1 : decide ((u.k : Int) < (wd : Int) + 3) = true := decide_eq_true (by omega); have tk : decide ((j : Int) < (m : Int)) = true := decide_eq_true (by omega); have k1 : u.a + 1 < n := by omega
     have k2 : u.k ≤ n := by omega
     clear hlc hrd hu huf ok mu nf; generalize u.a = a at *; generalize u.k = k at *; obtain ⟨i1, i2, i3, i4⟩ : IntKind.i64.wrap (((a : Nat) : Int) + 1) = ((a : Nat) : Int) + 1 ∧ (0 : Int) ≤ ((a : Nat) : Int) + 1 ∧ ((a : Nat) : Int) + 1 < ((n : Nat) : Int) ∧ (((a : Nat) : Int) + 1).toNat = a + 1 := ⟨IntWalk.i64_in _ (by omega), by omega, by omega, by omega⟩
     subst hlp
     go_wp2_with fail
     have PR31 := Lib.hid (fun (ww : World) (hSw : Ext wr ww) => And.intro ((hSw.cell zb 2).trans c2w) (And.intro ((hSw.cell hlbb (lo + j)).trans gl) ((hSw.cell zg (a + 1)).trans gw))); refine wp_region_seq (S := fun W => Ext wr W) (R := Ext) (by kernel_rfl) Ext.refl ?_ ?_
     · exact exx
     refine' tkL 0 rfl ?h0_1 ?_
     case h0_1 => (intro w q; obtain ⟨c2', gl', gw'⟩ := PR31.out w q; go_simp; try with_reducible rfl)
     refine layy ?_; refine' tkL 1 rfl ?h1_2 ?_
     case h1_2 => (intro w q; obtain ⟨c2', gl', gw'⟩ := PR31.out w q; go_simp; try with_reducible rfl)
     refine layy ?_; refine' tkL 2 rfl ?h2_3 ?_
     case h2_3 => (intro w q; obtain ⟨c2', gl', gw'⟩ := PR31.out w q; go_simp; try with_reducible rfl)
     refine layy ?_; refine' tkL 3 rfl ?h3_4 ?_
     case h3_4 => (intro w q; obtain ⟨c2', gl', gw'⟩ := PR31.out w q; go_simp; try with_reducible rfl)
     refine layy ?_; refine' tkL 4 rfl ?h4_5 ?_
     case h4_5 => (intro w q; obtain ⟨c2', gl', gw'⟩ := PR31.out w q; go_simp; try with_reducible rfl)
     refine layy ?_; refine' tkL 5 rfl ?h5_6 ?_
     case h5_6 => (intro w q; obtain ⟨c2', gl', gw'⟩ := PR31.out w q; go_simp; try with_reducible rfl)
     refine layy ?_; refine' tkL 6 rfl ?h6_7 ?_
     case h6_7 => (intro w q; obtain ⟨c2', gl', gw'⟩ := PR31.out w q; go_simp; try with_reducible rfl)
     refine layy ?_; refine' tkL 7 rfl ?h7_8 ?_
     case h7_8 => (intro w q; obtain ⟨c2', gl', gw'⟩ := PR31.out w q; go_simp; try with_reducible rfl)
     refine layy ?_; refine' tkL 8 rfl ?h8_9 ?_
     case h8_9 => (intro w q; obtain ⟨c2', gl', gw'⟩ := PR31.out w q; go_simp; try with_reducible rfl)
     refine layy ?_; refine' tkL 9 rfl ?h9_10 ?_
     case h9_10 => (intro w q; obtain ⟨c2', gl', gw'⟩ := PR31.out w q; go_simp; try with_reducible rfl)
     refine layy ?_; refine' tkL 10 rfl ?h10_11 ?_
     case h10_11 => (intro w q; obtain ⟨c2', gl', gw'⟩ := PR31.out w q; go_simp; try with_reducible rfl)
     refine layy ?_; refine' tkL 11 rfl ?h11_12 ?_
     case h11_12 => (intro w q; obtain ⟨c2', gl', gw'⟩ := PR31.out w q; go_simp; try with_reducible rfl)
     refine layy ?_; refine' tkL 12 rfl ?h12_13 ?_
     case h12_13 => (intro w q; obtain ⟨c2', gl', gw'⟩ := PR31.out w q; go_simp; try with_reducible rfl)
     refine layy ?_; refine' tkL 13 rfl ?h13_14 ?_
     case h13_14 => (intro w q; obtain ⟨c2', gl', gw'⟩ := PR31.out w q; go_simp; try with_reducible rfl)
     refine layy ?_; refine' tkL 14 rfl ?h14_15 ?_
     case h14_15 => (intro w q; obtain ⟨c2', gl', gw'⟩ := PR31.out w q; go_simp; try with_reducible rfl)
     refine layy ?_; refine' tkL 15 rfl ?h15_16 ?_
     case h15_16 => (intro w q; obtain ⟨c2', gl', gw'⟩ := PR31.out w q; go_simp; try with_reducible rfl)
     refine layy ?_; refine' tkL 16 rfl ?h16_17 ?_
     case h16_17 => (intro w q; obtain ⟨c2', gl', gw'⟩ := PR31.out w q; go_simp; try with_reducible rfl)
     refine layy ?_; refine wpAnyR_done (by kernel_rfl) ?_ _; intro x1 _ Ex1; have E2 := Lib.hid (E.out.trans Ex1)
     go_wp2_with fail
     go_roundg (m - (j + 1))
     case measure => omega
     case rel => exact ⟨j + 1, by omega, Nat.le_refl _, by go_num, E2⟩
   · have : j = m := by omega
     subst this; have tk : decide ((j : Int) < (j : Int)) = false := decide_eq_false (by omega)
     go_wp2_with fail
     go_returns; exact ⟨rfl, E1.out.trans E.out⟩
def TakePost (w : World) (r : Rd) (S : Hp.Hs) (a k wd : Nat) (e : Ending) (w' : World) : Prop := ∃ W, e = .returned (.int .i64 a) ∧ Hp.Took S a k wd W ∧ RNow w w' r { S with words := W }
set_option maxRecDepth 100000 in
set_option maxHeartbeats 8000000 in
theorem rTake_hit {w : World} {r : Rd} {S : Hp.Hs} {B : Nat} {P Q : List Hp.Tl} {a k : Nat} {ch : Nat → List Nat} (h : RW w r S) (hw : Hp.Wf S B (P ++ ⟨a, k, true⟩ :: Q) ch) {wd : Nat} (h5 : 5 ≤ wd) (h16 : wd ≤ 16) (hno : ∀ v ∈ P, v.fr = true → ¬ Hp.Fits wd v) (hfit : Hp.Fits wd ⟨a, k, true⟩) :
    Calls Tryz.prog 182 #[.pointer (some ⟨r.rb, 0, none⟩), .int .i64 wd] w (TakePost w r S a k wd) := by
  have FREE := Lib.hid (rFree h.at_ hw.fr.toFr hw.hi hw.parts); have HP := Lib.hid hw.parts; have H := Lib.hid (RNow.refl h); have HNO := Lib.hid hno; have HFIT := Lib.hid hfit; have hi := hw.hi; have hle := h.le; have hcap := h.cap; have plen := pick_len true (P ++ ⟨a, k, true⟩ :: Q); have hLn := Hp.lay_len_ hw.parts.lay; have epick : pick true (P ++ ⟨a, k, true⟩ :: Q) = pick true P ++ (a : Int) :: pick true Q := by
   rw [pick_app]
   congr 1
  obtain ⟨n, hn⟩ : ∃ n, S.words.length = n := ⟨_, rfl⟩
  have EN := Lib.hid hn; obtain ⟨m, hm⟩ : ∃ m, (pick true (P ++ ⟨a, k, true⟩ :: Q)).length = m := ⟨_, rfl⟩
  have EM := Lib.hid hm; obtain ⟨jt, hjt⟩ : ∃ jt, (pick true P).length = jt := ⟨_, rfl⟩
  have EJ := Lib.hid hjt; have hjm : jt < m := by rw [← hm, epick, ← hjt]; simp
  have EP := Lib.hid epick; have z1 := h.lt; have z2 := h.words.lt; have c2 := h.c2; rw [hn] at hi hle hLn c2; rw [hm] at plen; clear h hw hno hn hm hjt epick hfit; go_enter Tryz.func182, Tryz.ntmps182
  go_wp2_with (go_at_call 84; refine FREE.out.mono ?_; rintro e w1 ⟨p, c, rfl, hR, hE⟩; rw [EM.out]; have RR := Lib.hid hR.at_; have E1 := Lib.hid hE)
  clear hR hE FREE; have lle := RR.out.le; have lcap := RR.out.cap; rw [EM.out] at lle
  go_loopg [6] m (fun g i wr => ∃ j : Nat, j ≤ jt ∧ m - j ≤ g ∧ i = .int .i64 j ∧ Hid (Ext w1 wr))
  case atStart => exact ⟨0, Nat.zero_le _, by omega, rfl, Lib.hid (Ext.refl _)⟩
  case round =>
   obtain ⟨j, hj, hg, rfl, E⟩ := hrel; have Ew := E1.out.trans E.out; have c2w := (Ew.cell z1 2).trans c2; have zb : r.rb < wr.heap.size := Nat.lt_of_lt_of_le z1 Ew.le; have zg : r.gb < wr.heap.size := Nat.lt_of_lt_of_le z2 Ew.le; have tk : decide ((j : Int) < (m : Int)) = true := decide_eq_true (by omega); obtain ⟨lb, lo, hlp, hlbb, hlc⟩ := (RR.out.ext E.out).cells (by rw [EM.out]; omega)
   by_cases hlt : j < jt
   · obtain ⟨v, hv, hvf, hrd⟩ := pick_rd (L := P) (j := j) (by rw [EJ.out]; exact hlt); have hrd2 : Hp.rd (pick true (P ++ ⟨a, k, true⟩ :: Q)) j = some (v.a : Int) := by
      rw [EP.out]; unfold Hp.rd at hrd ⊢; rw [List.getElem?_append_left (by rw [EJ.out]; exact hlt)]; exact hrd
     have gl := hlc j _ hrd2; have hvL : v ∈ P ++ (⟨a, k, true⟩ : Hp.Tl) :: Q := by simp [hv]
     have mu := HP.out.lay.mem hvL; rw [EN.out] at mu; have ok := (HP.out.ok v hvL).free hvf; have gw := H.out.get (j := v.a + 1) (by rw [EN.out]; omega); rw [ok.2.1] at gw; have gw := (Ew.cell z2 (v.a + 1)).trans gw; have nf := HNO.out v hv hvf; unfold Hp.Fits at nf; have t0 : ((v.k : Int) != (wd : Int)) = true := by simp; omega
     have t1 : decide ((v.k : Int) < (wd : Int) + 3) = true := decide_eq_true (by omega); have k1 : v.a + 1 < n := by omega
     have k2 : v.k ≤ n := by omega
     clear hlc hrd hrd2 hv hvL hvf ok mu nf; generalize v.a = va at *; generalize v.k = vk at *; obtain ⟨i1, i2, i3, i4⟩ : IntKind.i64.wrap (((va : Nat) : Int) + 1) = ((va : Nat) : Int) + 1 ∧ (0 : Int) ≤ ((va : Nat) : Int) + 1 ∧ ((va : Nat) : Int) + 1 < ((n : Nat) : Int) ∧ (((va : Nat) : Int) + 1).toNat = va + 1 := ⟨IntWalk.i64_in _ (by omega), by omega, by omega, by omega⟩
     subst hlp
     go_wp2_with fail
     have PR32 := Lib.hid (fun (ww : World) (hSw : Ext wr ww) => And.intro ((hSw.cell zb 2).trans c2w) (And.intro ((hSw.cell hlbb (lo + j)).trans gl) ((hSw.cell zg (va + 1)).trans gw))); refine wp_region_seq (S := fun W => Ext wr W) (R := Ext) (by kernel_rfl) Ext.refl ?_ ?_
     · exact exx
     refine' tkL 0 rfl ?h0_18 ?_
     case h0_18 => (intro w q; obtain ⟨c2', gl', gw'⟩ := PR32.out w q; go_simp; try with_reducible rfl)
     refine layy ?_; refine' tkL 1 rfl ?h1_19 ?_
     case h1_19 => (intro w q; obtain ⟨c2', gl', gw'⟩ := PR32.out w q; go_simp; try with_reducible rfl)
     refine layy ?_; refine' tkL 2 rfl ?h2_20 ?_
     case h2_20 => (intro w q; obtain ⟨c2', gl', gw'⟩ := PR32.out w q; go_simp; try with_reducible rfl)
     refine layy ?_; refine' tkL 3 rfl ?h3_21 ?_
     case h3_21 => (intro w q; obtain ⟨c2', gl', gw'⟩ := PR32.out w q; go_simp; try with_reducible rfl)
     refine layy ?_; refine' tkL 4 rfl ?h4_22 ?_
     case h4_22 => (intro w q; obtain ⟨c2', gl', gw'⟩ := PR32.out w q; go_simp; try with_reducible rfl)
     refine layy ?_; refine' tkL 5 rfl ?h5_23 ?_
     case h5_23 => (intro w q; obtain ⟨c2', gl', gw'⟩ := PR32.out w q; go_simp; try with_reducible rfl)
     refine layy ?_; refine' tkL 6 rfl ?h6_24 ?_
     case h6_24 => (intro w q; obtain ⟨c2', gl', gw'⟩ := PR32.out w q; go_simp; try with_reducible rfl)
     refine layy ?_; refine' tkL 7 rfl ?h7_25 ?_
     case h7_25 => (intro w q; obtain ⟨c2', gl', gw'⟩ := PR32.out w q; go_simp; try with_reducible rfl)
     refine layy ?_; refine' tkL 8 rfl ?h8_26 ?_
     case h8_26 => (intro w q; obtain ⟨c2', gl', gw'⟩ := PR32.out w q; go_simp; try with_reducible rfl)
     refine layy ?_; refine' tkL 9 rfl ?h9_27 ?_
     case h9_27 => (intro w q; obtain ⟨c2', gl', gw'⟩ := PR32.out w q; go_simp; try with_reducible rfl)
     refine layy ?_; refine' tkL 10 rfl ?h10_28 ?_
     case h10_28 => (intro w q; obtain ⟨c2', gl', gw'⟩ := PR32.out w q; go_simp; try with_reducible rfl)
     refine layy ?_; refine' tkL 11 rfl ?h11_29 ?_
     case h11_29 => (intro w q; obtain ⟨c2', gl', gw'⟩ := PR32.out w q; go_simp; try with_reducible rfl)
     refine layy ?_; refine' tkL 12 rfl ?h12_30 ?_
     case h12_30 => (intro w q; obtain ⟨c2', gl', gw'⟩ := PR32.out w q; go_simp; try with_reducible rfl)
     refine layy ?_; refine' tkL 13 rfl ?h13_31 ?_
     case h13_31 => (intro w q; obtain ⟨c2', gl', gw'⟩ := PR32.out w q; go_simp; try with_reducible rfl)
     refine layy ?_; refine' tkL 14 rfl ?h14_32 ?_
     case h14_32 => (intro w q; obtain ⟨c2', gl', gw'⟩ := PR32.out w q; go_simp; try with_reducible rfl)
     refine layy ?_; refine' tkL 15 rfl ?h15_33 ?_
     case h15_33 => (intro w q; obtain ⟨c2', gl', gw'⟩ := PR32.out w q; go_simp; try with_reducible rfl)
     refine layy ?_; refine' tkL 16 rfl ?h16_34 ?_
     case h16_34 => (intro w q; obtain ⟨c2', gl', gw'⟩ := PR32.out w q; go_simp; try with_reducible rfl)
     refine layy ?_; refine wpAnyR_done (by kernel_rfl) ?_ _; intro x1 _ Ex1; have E2 := Lib.hid (E.out.trans Ex1)
     go_wp2_with fail
     go_roundg (m - (j + 1))
     case measure => omega
     case rel => exact ⟨j + 1, by omega, Nat.le_refl _, by go_num, E2⟩
   · have : j = jt := by omega
     subst this; have hrd2 : Hp.rd (pick true (P ++ ⟨a, k, true⟩ :: Q)) j = some (a : Int) := by
      rw [EP.out]; unfold Hp.rd; rw [List.getElem?_append_right (by rw [EJ.out]; exact Nat.le_refl _), EJ.out, Nat.sub_self]; rfl
     have gl := hlc j _ hrd2; have huL : (⟨a, k, true⟩ : Hp.Tl) ∈ P ++ (⟨a, k, true⟩ : Hp.Tl) :: Q := by simp
     have mu := HP.out.lay.mem huL; rw [EN.out] at mu; have mu1 : 17 ≤ a := mu.1; have mu2 : a + k ≤ n := mu.2.1; have mu3 : 3 ≤ k := mu.2.2; have ok := (HP.out.ok _ huL).free rfl; have gw := H.out.get (j := a + 1) (by rw [EN.out]; omega); rw [show Hp.ow S.words (a + 1) = (k : Int) from ok.2.1] at gw; have gw := (Ew.cell z2 (a + 1)).trans gw; have fit := HFIT.out; have fit : k = wd ∨ wd + 3 ≤ k := fit; have k1 : a + 1 < n := by omega
     have k2 : a + k ≤ n := by omega
     have k3 : 17 ≤ a := by omega
     clear hlc hrd2 huL ok mu; obtain ⟨i1, i2, i3, i4⟩ : IntKind.i64.wrap (((a : Nat) : Int) + 1) = ((a : Nat) : Int) + 1 ∧ (0 : Int) ≤ ((a : Nat) : Int) + 1 ∧ ((a : Nat) : Int) + 1 < ((n : Nat) : Int) ∧ (((a : Nat) : Int) + 1).toNat = a + 1 := ⟨IntWalk.i64_in _ (by omega), by omega, by omega, by omega⟩
     subst hlp
     by_cases hk : k = wd
     · subst hk; have t0 : ((k : Int) != (k : Int)) = false := by simp
       have t2 : decide ((k : Int) > (k : Int)) = false := decide_eq_false (by omega); have TK : Hid (Hp.Took S a k k (S.words.set a (-1))) := Lib.hid ⟨by simp, fun q => absurd q (Nat.lt_irrefl _), fun x hx => Hp.ow_set_ne (by rw [EN.out]; omega) (by omega)⟩
       go_wp2_with fail
       have PR33 := Lib.hid (fun (ww : World) (hSw : Ext wr ww) => And.intro ((hSw.cell zb 2).trans c2w) (And.intro ((hSw.cell hlbb (lo + j)).trans gl) ((hSw.cell zg (a + 1)).trans gw))); refine wp_region_seq (S := fun W => Ext wr W) (R := Ext) (by kernel_rfl) Ext.refl ?_ ?_
       · exact exx
       refine' tkL 0 rfl ?h0_35 ?_
       case h0_35 => (intro w q; obtain ⟨c2', gl', gw'⟩ := PR33.out w q; go_simp; try with_reducible rfl)
       refine layy ?_; refine' tkL 1 rfl ?h1_36 ?_
       case h1_36 => (intro w q; obtain ⟨c2', gl', gw'⟩ := PR33.out w q; go_simp; try with_reducible rfl)
       refine layy ?_; refine' tkL 2 rfl ?h2_37 ?_
       case h2_37 => (intro w q; obtain ⟨c2', gl', gw'⟩ := PR33.out w q; go_simp; try with_reducible rfl)
       refine layy ?_; refine' tkL 3 rfl ?h3_38 ?_
       case h3_38 => (intro w q; obtain ⟨c2', gl', gw'⟩ := PR33.out w q; go_simp; try with_reducible rfl)
       refine layy ?_; refine' tkL 4 rfl ?h4_39 ?_
       case h4_39 => (intro w q; obtain ⟨c2', gl', gw'⟩ := PR33.out w q; go_simp; try with_reducible rfl)
       refine layy ?_; refine' tkL 5 rfl ?h5_40 ?_
       case h5_40 => (intro w q; obtain ⟨c2', gl', gw'⟩ := PR33.out w q; go_simp; try with_reducible rfl)
       refine layy ?_; refine' tkL 6 rfl ?h6_41 ?_
       case h6_41 => (intro w q; obtain ⟨c2', gl', gw'⟩ := PR33.out w q; go_simp; try with_reducible rfl)
       refine layy ?_; refine' tkL 7 rfl ?h7_42 ?_
       case h7_42 => (intro w q; obtain ⟨c2', gl', gw'⟩ := PR33.out w q; go_simp; try with_reducible rfl)
       refine layy ?_; refine' tkL 8 rfl ?h8_43 ?_
       case h8_43 => (intro w q; obtain ⟨c2', gl', gw'⟩ := PR33.out w q; go_simp; try with_reducible rfl)
       refine layy ?_; refine' tkL 9 rfl ?h9_44 ?_
       case h9_44 => (intro w q; obtain ⟨c2', gl', gw'⟩ := PR33.out w q; go_simp; try with_reducible rfl)
       refine layy ?_; refine' tkL 10 rfl ?h10_45 ?_
       case h10_45 => (intro w q; obtain ⟨c2', gl', gw'⟩ := PR33.out w q; go_simp; try with_reducible rfl)
       refine layy ?_; refine' tkL 11 rfl ?h11_46 ?_
       case h11_46 => (intro w q; obtain ⟨c2', gl', gw'⟩ := PR33.out w q; go_simp; try with_reducible rfl)
       refine layy ?_; refine' tkL 12 rfl ?h12_47 ?_
       case h12_47 => (intro w q; obtain ⟨c2', gl', gw'⟩ := PR33.out w q; go_simp; try with_reducible rfl)
       refine layy ?_; refine' tkL 13 rfl ?h13_48 ?_
       case h13_48 => (intro w q; obtain ⟨c2', gl', gw'⟩ := PR33.out w q; go_simp; try with_reducible rfl)
       refine layy ?_; refine' tkL 14 rfl ?h14_49 ?_
       case h14_49 => (intro w q; obtain ⟨c2', gl', gw'⟩ := PR33.out w q; go_simp; try with_reducible rfl)
       refine layy ?_; refine' tkL 15 rfl ?h15_50 ?_
       case h15_50 => (intro w q; obtain ⟨c2', gl', gw'⟩ := PR33.out w q; go_simp; try with_reducible rfl)
       refine layy ?_; refine' tkL 16 rfl ?h16_51 ?_
       case h16_51 => (intro w q; obtain ⟨c2', gl', gw'⟩ := PR33.out w q; go_simp; try with_reducible rfl)
       refine layy ?_; refine wpAnyR_done (by kernel_rfl) ?_ _; intro x1 _ Ex1; have N := Lib.hid (H.out.ext (Ew.trans Ex1)); clear c2w zb zg gw gl i1 i2 i3 i4; have c2x := N.out.c2; rw [EN.out] at c2x; have za := N.out.toRW.lt; have zc := N.out.words.lt; have g0 := N.out.toRW.get (j := a) (by rw [EN.out]; omega); have fr := N.out.words.froz a; have N2 := Lib.hid (N.out.set (j := a) (v := -1) (by rw [EN.out]; omega) (by omega) (by omega))
       go_wp2_with fail
       go_returns; exact ⟨_, rfl, TK.out, N2.out⟩
     · have t0 : ((k : Int) != (wd : Int)) = true := by simp; omega
       have t1 : decide ((k : Int) < (wd : Int) + 3) = false := decide_eq_false (by omega); have t2 : decide ((k : Int) > (wd : Int)) = true := decide_eq_true (by omega); have kw : wd + 3 ≤ k := by omega
       have e1 : a + wd < S.words.length := by rw [EN.out]; omega
       have e2 : a + wd + 1 < (S.words.set (a + wd) 0).length := by simp; rw [EN.out]; omega
       have e3 : a < ((S.words.set (a + wd) 0).set (a + wd + 1) ((k : Int) - (wd : Int))).length := by simp; rw [EN.out]; omega
       have TK : Hid (Hp.Took S a k wd (((S.words.set (a + wd) 0).set (a + wd + 1) ((k : Int) - (wd : Int))).set a (-1))) := Lib.hid ⟨by simp, fun _ => by
        rw [Hp.ow_set_ne e3 (by omega), Hp.ow_set_ne e2 (by omega), Hp.ow_set_eq e1, Hp.ow_set_ne e3 (by omega), Hp.ow_set_eq e2]; exact ⟨rfl, rfl⟩, fun x hx => by rw [Hp.ow_set_ne e3 (by omega), Hp.ow_set_ne e2 (by omega), Hp.ow_set_ne e1 (by omega)]⟩
       have E3 := Lib.hid e3; have E2' := Lib.hid e2; have E1' := Lib.hid e1; clear e1 e2 e3
       go_wp2_with fail
       have PR34 := Lib.hid (fun (ww : World) (hSw : Ext wr ww) => And.intro ((hSw.cell zb 2).trans c2w) (And.intro ((hSw.cell hlbb (lo + j)).trans gl) ((hSw.cell zg (a + 1)).trans gw))); refine wp_region_seq (S := fun W => Ext wr W) (R := Ext) (by kernel_rfl) Ext.refl ?_ ?_
       · exact exx
       refine' tkL 0 rfl ?h0_52 ?_
       case h0_52 => (intro w q; obtain ⟨c2', gl', gw'⟩ := PR34.out w q; go_simp; try with_reducible rfl)
       refine layy ?_; refine' tkL 1 rfl ?h1_53 ?_
       case h1_53 => (intro w q; obtain ⟨c2', gl', gw'⟩ := PR34.out w q; go_simp; try with_reducible rfl)
       refine layy ?_; refine' tkL 2 rfl ?h2_54 ?_
       case h2_54 => (intro w q; obtain ⟨c2', gl', gw'⟩ := PR34.out w q; go_simp; try with_reducible rfl)
       refine layy ?_; refine' tkL 3 rfl ?h3_55 ?_
       case h3_55 => (intro w q; obtain ⟨c2', gl', gw'⟩ := PR34.out w q; go_simp; try with_reducible rfl)
       refine layy ?_; refine' tkL 4 rfl ?h4_56 ?_
       case h4_56 => (intro w q; obtain ⟨c2', gl', gw'⟩ := PR34.out w q; go_simp; try with_reducible rfl)
       refine layy ?_; refine' tkL 5 rfl ?h5_57 ?_
       case h5_57 => (intro w q; obtain ⟨c2', gl', gw'⟩ := PR34.out w q; go_simp; try with_reducible rfl)
       refine layy ?_; refine' tkL 6 rfl ?h6_58 ?_
       case h6_58 => (intro w q; obtain ⟨c2', gl', gw'⟩ := PR34.out w q; go_simp; try with_reducible rfl)
       refine layy ?_; refine' tkL 7 rfl ?h7_59 ?_
       case h7_59 => (intro w q; obtain ⟨c2', gl', gw'⟩ := PR34.out w q; go_simp; try with_reducible rfl)
       refine layy ?_; refine' tkL 8 rfl ?h8_60 ?_
       case h8_60 => (intro w q; obtain ⟨c2', gl', gw'⟩ := PR34.out w q; go_simp; try with_reducible rfl)
       refine layy ?_; refine' tkL 9 rfl ?h9_61 ?_
       case h9_61 => (intro w q; obtain ⟨c2', gl', gw'⟩ := PR34.out w q; go_simp; try with_reducible rfl)
       refine layy ?_; refine' tkL 10 rfl ?h10_62 ?_
       case h10_62 => (intro w q; obtain ⟨c2', gl', gw'⟩ := PR34.out w q; go_simp; try with_reducible rfl)
       refine layy ?_; refine' tkL 11 rfl ?h11_63 ?_
       case h11_63 => (intro w q; obtain ⟨c2', gl', gw'⟩ := PR34.out w q; go_simp; try with_reducible rfl)
       refine layy ?_; refine' tkL 12 rfl ?h12_64 ?_
       case h12_64 => (intro w q; obtain ⟨c2', gl', gw'⟩ := PR34.out w q; go_simp; try with_reducible rfl)
       refine layy ?_; refine' tkL 13 rfl ?h13_65 ?_
       case h13_65 => (intro w q; obtain ⟨c2', gl', gw'⟩ := PR34.out w q; go_simp; try with_reducible rfl)
       refine layy ?_; refine' tkL 14 rfl ?h14_66 ?_
       case h14_66 => (intro w q; obtain ⟨c2', gl', gw'⟩ := PR34.out w q; go_simp; try with_reducible rfl)
       refine layy ?_; refine' tkL 15 rfl ?h15_67 ?_
       case h15_67 => (intro w q; obtain ⟨c2', gl', gw'⟩ := PR34.out w q; go_simp; try with_reducible rfl)
       refine layy ?_; refine' tkL 16 rfl ?h16_68 ?_
       case h16_68 => (intro w q; obtain ⟨c2', gl', gw'⟩ := PR34.out w q; go_simp; try with_reducible rfl)
       refine layy ?_; refine wpAnyR_done (by kernel_rfl) ?_ _; intro x1 _ Ex1; have N := Lib.hid (H.out.ext (Ew.trans Ex1)); clear c2w zb zg gw gl i1 i2 i3 i4; have c2x := N.out.c2; rw [EN.out] at c2x; have za := N.out.toRW.lt
       go_wp2_with fail
       obtain ⟨p1, p2, p3, p4⟩ : IntKind.i64.wrap (((a : Nat) : Int) + ((wd : Nat) : Int)) = ((a : Nat) : Int) + ((wd : Nat) : Int) ∧ (0 : Int) ≤ ((a : Nat) : Int) + ((wd : Nat) : Int) ∧ ((a : Nat) : Int) + ((wd : Nat) : Int) < ((n : Nat) : Int) ∧ (((a : Nat) : Int) + ((wd : Nat) : Int)).toNat = a + wd := ⟨IntWalk.i64_in _ (by omega), by omega, by omega, by omega⟩
       obtain ⟨q1, q2, q3, q4⟩ : IntKind.i64.wrap (((a : Nat) : Int) + ((wd : Nat) : Int) + 1) = ((a : Nat) : Int) + ((wd : Nat) : Int) + 1 ∧ (0 : Int) ≤ ((a : Nat) : Int) + ((wd : Nat) : Int) + 1 ∧ ((a : Nat) : Int) + ((wd : Nat) : Int) + 1 < ((n : Nat) : Int) ∧ (((a : Nat) : Int) + ((wd : Nat) : Int) + 1).toNat = a + wd + 1 := ⟨IntWalk.i64_in _ (by omega), by omega, by omega, by omega⟩
       have ws : IntKind.i64.wrap ((k : Int) - (wd : Int)) = (k : Int) - (wd : Int) := IntWalk.i64_in _ (by omega); refine wp_region_any (by kernel_rfl) ?_; refine' tkA 11 rfl ?hy11_69 ?_
       case hy11_69 => (intro w; go_simp; try with_reducible rfl)
       refine layy ?_; refine' tkA 12 rfl ?hy12_70 ?_
       case hy12_70 => (intro w; go_simp; try with_reducible rfl)
       refine layy ?_; refine' tkA 13 rfl ?hy13_71 ?_
       case hy13_71 => (intro w; go_simp; try with_reducible rfl)
       refine layy ?_; refine' tkA 14 rfl ?hy14_72 ?_
       case hy14_72 => (intro w; go_simp; try with_reducible rfl)
       refine layy ?_; refine' tkA 15 rfl ?hy15_73 ?_
       case hy15_73 => (intro w; go_simp; try with_reducible rfl)
       refine layy ?_; refine' tkA 16 rfl ?hy16_74 ?_
       case hy16_74 => (intro w; go_simp; try with_reducible rfl)
       refine layy ?_; refine' tkA 17 rfl ?hy17_75 ?_
       case hy17_75 => (intro w; go_simp; try with_reducible rfl)
       refine layy ?_; have PR35 := Lib.hid (fun (ww : World) (hSw : Ext x1 ww) => (hSw.cell za 2).trans c2x); refine wpAny_to_X (S := fun W => Ext x1 W) (R := Ext) 18 11 Ext.refl ?_ ?_ (by rfl)
       · exact Ext.drew exx
       refine' tkY 0 rfl ?h0_76 ?_
       case h0_76 => (intro w q; obtain c2' := PR35.out w q; go_simp; try with_reducible rfl)
       refine layy ?_; refine' tkY 1 rfl ?h1_77 ?_
       case h1_77 => (intro w q; obtain c2' := PR35.out w q; go_simp; try with_reducible rfl)
       refine layy ?_; refine' tkY 2 rfl ?h2_78 ?_
       case h2_78 => (intro w q; obtain c2' := PR35.out w q; go_simp; try with_reducible rfl)
       refine layy ?_; refine' tkY 3 rfl ?h3_79 ?_
       case h3_79 => (intro w q; obtain c2' := PR35.out w q; go_simp; try with_reducible rfl)
       refine layy ?_; refine' tkY 4 rfl ?h4_80 ?_
       case h4_80 => (intro w q; obtain c2' := PR35.out w q; go_simp; try with_reducible rfl)
       refine layy ?_; refine' tkY 5 rfl ?h5_81 ?_
       case h5_81 => (intro w q; obtain c2' := PR35.out w q; go_simp; try with_reducible rfl)
       refine layy ?_; refine' tkY 6 rfl ?h6_82 ?_
       case h6_82 => (intro w q; obtain c2' := PR35.out w q; go_simp; try with_reducible rfl)
       refine layy ?_; refine' tkY 7 rfl ?h7_83 ?_
       case h7_83 => (intro w q; obtain c2' := PR35.out w q; go_simp; try with_reducible rfl)
       refine layy ?_; refine' tkY 8 rfl ?h8_84 ?_
       case h8_84 => (intro w q; obtain c2' := PR35.out w q; go_simp; try with_reducible rfl)
       refine layy ?_; refine' tkY 9 rfl ?h9_85 ?_
       case h9_85 => (intro w q; obtain c2' := PR35.out w q; go_simp; try with_reducible rfl)
       refine layy ?_; refine' tkY 10 rfl ?h10_86 ?_
       case h10_86 => (intro w q; obtain c2' := PR35.out w q; go_simp; try with_reducible rfl)
       refine layy ?_; refine wpAnyX_done (by kernel_rfl) ?_; intro xd _ Exd; simp only [List.drop_succ_cons, List.drop_zero]; clear c2x za; have ND := Lib.hid (N.out.ext Exd); have c2x := ND.out.c2; rw [EN.out] at c2x; have za := ND.out.toRW.lt; have zc := ND.out.words.lt; have g3 := ND.out.toRW.get (j := a + wd) E1'.out; have g4 := ND.out.toRW.get (j := a + wd + 1) (by rw [EN.out]; omega); have fr3 := ND.out.words.froz (a + wd); have fr4 := ND.out.words.froz (a + wd + 1); have H1 := Lib.hid (ND.out.set (j := a + wd) (v := 0) E1'.out (by omega) (by omega)); have H2 := Lib.hid (H1.out.set (j := a + wd + 1) (v := (k : Int) - (wd : Int)) E2'.out (by omega) (by omega)); clear p1 p2 p3 p4 q1 q2 q3 q4 ws; go_upto_region 9 with (fail)
       refine RNow.cut H2.out ?_; intro w3 N3'; have N3 := Lib.hid N3'; clear N3' fr3 fr4 g3 g4 c2x za zc H1 H2 ND Exd; have c2x := N3.out.len (n := n) (by simp; exact EN.out); have za := N3.out.toRW.lt; have zc := N3.out.words.lt; have g0 := N3.out.word (j := a) (x := _) E3.out rfl; have fr := N3.out.words.froz a; have N4 := Lib.hid (N3.out.set (j := a) (v := -1) E3.out (by omega) (by omega))
       go_wp2_with fail
       go_returns; exact ⟨_, rfl, TK.out, N4.out⟩
set_option maxRecDepth 100000 in
set_option maxHeartbeats 4000000 in
theorem rSame_no {w : World} {r : Rd} {S : Hp.Hs} {B : Nat} {L : List Hp.Tl} {ch : Nat → List Nat} (h : RAt w r S) (hw : Hp.Wf S B L ch) {t : Int} {fs : List Int} {q : Option Addr} {qc : Nat} (hq : SliceAt w q qc fs) (hmiss : ∀ b ∈ S.taken, ¬ (Hp.ow S.words b = t ∧ Hp.fz (Hp.ow S.words) S.sizes b = fs)) :
    Calls Tryz.prog 133 #[.pointer (some ⟨r.rb, 0, none⟩), .int .i64 t, .slice q fs.length qc] w fun e w' => e = .returned (.int .i64 0) ∧ Ext w w' := by
  have CELLS := Lib.hid (rCells_ h hw); have FLD := Lib.hid (fun b (hb : b ∈ S.taken) W (hW : Ext w W) => rField (h.ext hW) hw hb); have FAT := Lib.hid (fun b (hb : b ∈ S.taken) W (hW : Ext w W) => fieldAt (h.ext hW) hw hb); have HQ := Lib.hid hq; have H := Lib.hid h; have HW := Lib.hid hw; have few := hw.few; have hhi := hw.hi; have hle := h.words.le; have hcap := h.words.cap; have hlt := h.lt; have qcap := hq.cap; obtain ⟨gbb, o', hp', hbb, _⟩ := h.words.cells (by have := hw.lo; omega)
  cases hp'
  have HM := Lib.hid hmiss; have c2 := h.c2; obtain ⟨n, hn⟩ : ∃ n, S.words.length = n := ⟨_, rfl⟩
  have EN := Lib.hid hn; rw [hn] at c2 hle few hhi; have qle := hq.le; clear h hw hq hn hmiss; obtain ⟨m, hm⟩ : ∃ m, S.taken.length = m := ⟨_, rfl⟩
  have EM := Lib.hid hm; rw [hm] at few; clear hm; go_enter Tryz.func133, Tryz.ntmps133
  go_wp2_with (go_at_call 82; refine CELLS.out.mono ?_; rintro e w1 ⟨p, c, rfl, hR, hE⟩; rw [cellsI_len, EM.out]; have RR := Lib.hid hR.at_; have E1 := Lib.hid hE)
  clear hR hE CELLS; have lle := RR.out.le; have lcap := RR.out.cap; rw [cellsI_len, EM.out] at lle
  go_loopg [8] m (fun g i wr => ∃ j : Nat, j ≤ m ∧ m - j ≤ g ∧ i = .int .i64 j ∧ Hid (Ext w1 wr))
  case atStart => exact ⟨0, Nat.zero_le _, by omega, rfl, Lib.hid (Ext.refl _)⟩
  case round =>
   obtain ⟨j, hj, hg, rfl, E⟩ := hrel
   by_cases hlt2 : j < m
   · obtain ⟨b, hb, hbj, hrd⟩ := cellsI_rd (S := S) (j := j) (by rw [EM.out]; exact hlt2); obtain ⟨lb, lo, hlp, hlbb, hlc⟩ := (RR.out.ext E.out).cells (by rw [cellsI_len, EM.out]; omega); have gl := hlc j _ hrd; have Ew := E1.out.trans E.out; have c2w := (Ew.cell hlt 2).trans c2; have gw := (H.out.ext Ew).get (j := b) (by have := HW.out.part hb; omega); have pb := HW.out.part hb; rw [EN.out] at pb; have zb : r.rb < wr.heap.size := Nat.lt_of_lt_of_le hlt Ew.le; have zg : r.gb < wr.heap.size := Nat.lt_of_lt_of_le hbb Ew.le; have b1 : b < n := by omega
     have EW := Lib.hid Ew; have HB := Lib.hid hb; have HBJ := Lib.hid hbj; have FLB := Lib.hid (fun W (hW : Ext w W) => FLD.out b hb W hW); have FAB := Lib.hid (fun W (hW : Ext w W) => FAT.out b hb W hW); obtain ⟨fl, hfl⟩ : ∃ fl, (Hp.fz (Hp.ow S.words) S.sizes b).length = fl := ⟨_, rfl⟩
     have EFL := Lib.hid hfl; have tk : decide ((j : Int) < (m : Int)) = true := decide_eq_true (by omega); clear hrd hlc hbj hb pb hfl; subst hlp
     · by_cases hbt : Hp.ow S.words b = t
       · rw [hbt] at gw; have t0 : (t == t) = true := by simp
         have FLB2 : Hid (∀ W, Ext w W → Calls Tryz.prog 88 #[.pointer (some ⟨r.rb, 0, none⟩), .int .i64 b] W fun e w' => e = .returned (.slice (some ⟨r.gb, r.go + (b + 4), none⟩) fl (r.wc - (b + 4))) ∧ Ext W w') := Lib.hid (fun W hW => by rw [← EFL.out]; exact FLB.out W hW); have SM : Hid (∀ W, Ext w W → Calls Tryz.prog 24 #[.slice (some ⟨r.gb, r.go + (b + 4), none⟩) fl (r.wc - (b + 4)), .slice q fs.length qc] W fun e w' => e = .returned (.bool false) ∧ Ext W w') := Lib.hid (fun W hW => by
          have := dSame_is (b := false) (decide_eq_false (fun e => HM.out b HB.out ⟨hbt, e⟩)) (FAB.out W hW) (HQ.out.ext hW); rw [EFL.out] at this; exact this)
         clear hbt
         go_wp2_with fail
         have PR36 := Lib.hid (fun (ww : World) (hSw : Ext wr ww) => And.intro ((hSw.cell zb 2).trans c2w) (And.intro ((hSw.cell hlbb (lo + j)).trans gl) ((hSw.cell zg (r.go + b)).trans gw))); refine wp_region_seq (S := fun W => Ext wr W) (R := Ext) (by kernel_rfl) Ext.refl ?_ ?_
         · exact exx
         refine' tkL 0 rfl ?h0_1 ?_
         case h0_1 => (intro w q; obtain ⟨c2', gl', gw'⟩ := PR36.out w q; go_simp; try with_reducible rfl)
         refine layy ?_; refine' tkL 1 rfl ?h1_2 ?_
         case h1_2 => (intro w q; obtain ⟨c2', gl', gw'⟩ := PR36.out w q; go_simp; try with_reducible rfl)
         refine layy ?_; refine' tkL 2 rfl ?h2_3 ?_
         case h2_3 => (intro w q; obtain ⟨c2', gl', gw'⟩ := PR36.out w q; go_simp; try with_reducible rfl)
         refine layy ?_; refine' tkL 3 rfl ?h3_4 ?_
         case h3_4 => (intro w q; obtain ⟨c2', gl', gw'⟩ := PR36.out w q; go_simp; try with_reducible rfl)
         refine layy ?_; refine' tkL 4 rfl ?h4_5 ?_
         case h4_5 => (intro w q; obtain ⟨c2', gl', gw'⟩ := PR36.out w q; go_simp; try with_reducible rfl)
         refine layy ?_; refine' tkL 5 rfl ?h5_6 ?_
         case h5_6 => (intro w q; obtain ⟨c2', gl', gw'⟩ := PR36.out w q; go_simp; try with_reducible rfl)
         refine layy ?_; refine' tkL 6 rfl ?h6_7 ?_
         case h6_7 => (intro w q; obtain ⟨c2', gl', gw'⟩ := PR36.out w q; go_simp; try with_reducible rfl)
         refine layy ?_; refine' tkL 7 rfl ?h7_8 ?_
         case h7_8 => (intro w q; obtain ⟨c2', gl', gw'⟩ := PR36.out w q; go_simp; try with_reducible rfl)
         refine layy ?_; refine' tkL 8 rfl ?h8_9 ?_
         case h8_9 => (intro w q; obtain ⟨c2', gl', gw'⟩ := PR36.out w q; go_simp; try with_reducible rfl)
         refine layy ?_; refine' tkL 9 rfl ?h9_10 ?_
         case h9_10 => (intro w q; obtain ⟨c2', gl', gw'⟩ := PR36.out w q; go_simp; try with_reducible rfl)
         refine layy ?_; refine' tkL 10 rfl ?h10_11 ?_
         case h10_11 => (intro w q; obtain ⟨c2', gl', gw'⟩ := PR36.out w q; go_simp; try with_reducible rfl)
         refine layy ?_; refine' tkL 11 rfl ?h11_12 ?_
         case h11_12 => (intro w q; obtain ⟨c2', gl', gw'⟩ := PR36.out w q; go_simp; try with_reducible rfl)
         refine layy ?_; refine' tkL 12 rfl ?h12_13 ?_
         case h12_13 => (intro w q; obtain ⟨c2', gl', gw'⟩ := PR36.out w q; go_simp; try with_reducible rfl)
         refine layy ?_; refine' tkL 13 rfl ?h13_14 ?_
         case h13_14 => (intro w q; obtain ⟨c2', gl', gw'⟩ := PR36.out w q; go_simp; try with_reducible rfl)
         refine layy ?_; refine' tkL 14 rfl ?h14_15 ?_
         case h14_15 => (intro w q; obtain ⟨c2', gl', gw'⟩ := PR36.out w q; go_simp; try with_reducible rfl)
         refine layy ?_; refine' tkL 15 rfl ?h15_16 ?_
         case h15_16 => (intro w q; obtain ⟨c2', gl', gw'⟩ := PR36.out w q; go_simp; try with_reducible rfl)
         refine layy ?_; refine' tkL 16 rfl ?h16_17 ?_
         case h16_17 => (intro w q; obtain ⟨c2', gl', gw'⟩ := PR36.out w q; go_simp; try with_reducible rfl)
         refine layy ?_; refine' tkL 17 rfl ?h17_18 ?_
         case h17_18 => (intro w q; obtain ⟨c2', gl', gw'⟩ := PR36.out w q; go_simp; try with_reducible rfl)
         refine layy ?_; refine' tkR 18 (v := .slice (some ⟨r.gb, r.go + (b + 4), none⟩) fl (r.wc - (b + 4))) rfl (Or.inr ⟨by rfl, 88, _, ?hx18_19, ?hy18_19⟩) ?rest18_19
         case hx18_19 => (intro w hSw; go_simp; try with_reducible rfl)
         case hy18_19 => exact fun w hE => (FLB2.out _ (EW.out.trans hE)).mono (fun _ _ h => ⟨h.1, h.2, Ext.trans hE h.2⟩)
         refine layy ?_; refine' tkL 19 rfl ?h19_20 ?_
         case h19_20 => (intro w q; obtain ⟨c2', gl', gw'⟩ := PR36.out w q; go_simp; try with_reducible rfl)
         refine layy ?_; refine' tkR 20 (v := .bool false) rfl (Or.inr ⟨by rfl, 24, _, ?hx20_21, ?hy20_21⟩) ?rest20_21
         case hx20_21 => (intro w hSw; go_simp; try with_reducible rfl)
         case hy20_21 => exact fun w hE => (SM.out _ (EW.out.trans hE)).mono (fun _ _ h => ⟨h.1, h.2, Ext.trans hE h.2⟩)
         refine layy ?_; refine' tkL 21 rfl ?h21_22 ?_
         case h21_22 => (intro w q; obtain ⟨c2', gl', gw'⟩ := PR36.out w q; go_simp; try with_reducible rfl)
         refine layy ?_; refine wpAnyR_done (by kernel_rfl) ?_ _; intro x1 _ Ex1; have E2 := Lib.hid (E.out.trans Ex1)
         go_wp2_with fail
         go_roundg (m - (j + 1))
         case measure => omega
         case rel => exact ⟨j + 1, by omega, Nat.le_refl _, by go_num, E2⟩
       · have t0 : (Hp.ow S.words b == t) = false := by simpa using hbt
         clear hbt; generalize Hp.ow S.words b = y at *
         go_wp2_with fail
         have PR37 := Lib.hid (fun (ww : World) (hSw : Ext wr ww) => And.intro ((hSw.cell zb 2).trans c2w) (And.intro ((hSw.cell hlbb (lo + j)).trans gl) ((hSw.cell zg (r.go + b)).trans gw))); refine wp_region_seq (S := fun W => Ext wr W) (R := Ext) (by kernel_rfl) Ext.refl ?_ ?_
         · exact exx
         refine' tkL 0 rfl ?h0_23 ?_
         case h0_23 => (intro w q; obtain ⟨c2', gl', gw'⟩ := PR37.out w q; go_simp; try with_reducible rfl)
         refine layy ?_; refine' tkL 1 rfl ?h1_24 ?_
         case h1_24 => (intro w q; obtain ⟨c2', gl', gw'⟩ := PR37.out w q; go_simp; try with_reducible rfl)
         refine layy ?_; refine' tkL 2 rfl ?h2_25 ?_
         case h2_25 => (intro w q; obtain ⟨c2', gl', gw'⟩ := PR37.out w q; go_simp; try with_reducible rfl)
         refine layy ?_; refine' tkL 3 rfl ?h3_26 ?_
         case h3_26 => (intro w q; obtain ⟨c2', gl', gw'⟩ := PR37.out w q; go_simp; try with_reducible rfl)
         refine layy ?_; refine' tkL 4 rfl ?h4_27 ?_
         case h4_27 => (intro w q; obtain ⟨c2', gl', gw'⟩ := PR37.out w q; go_simp; try with_reducible rfl)
         refine layy ?_; refine' tkL 5 rfl ?h5_28 ?_
         case h5_28 => (intro w q; obtain ⟨c2', gl', gw'⟩ := PR37.out w q; go_simp; try with_reducible rfl)
         refine layy ?_; refine' tkL 6 rfl ?h6_29 ?_
         case h6_29 => (intro w q; obtain ⟨c2', gl', gw'⟩ := PR37.out w q; go_simp; try with_reducible rfl)
         refine layy ?_; refine' tkL 7 rfl ?h7_30 ?_
         case h7_30 => (intro w q; obtain ⟨c2', gl', gw'⟩ := PR37.out w q; go_simp; try with_reducible rfl)
         refine layy ?_; refine' tkL 8 rfl ?h8_31 ?_
         case h8_31 => (intro w q; obtain ⟨c2', gl', gw'⟩ := PR37.out w q; go_simp; try with_reducible rfl)
         refine layy ?_; refine' tkL 9 rfl ?h9_32 ?_
         case h9_32 => (intro w q; obtain ⟨c2', gl', gw'⟩ := PR37.out w q; go_simp; try with_reducible rfl)
         refine layy ?_; refine' tkL 10 rfl ?h10_33 ?_
         case h10_33 => (intro w q; obtain ⟨c2', gl', gw'⟩ := PR37.out w q; go_simp; try with_reducible rfl)
         refine layy ?_; refine' tkL 11 rfl ?h11_34 ?_
         case h11_34 => (intro w q; obtain ⟨c2', gl', gw'⟩ := PR37.out w q; go_simp; try with_reducible rfl)
         refine layy ?_; refine' tkL 12 rfl ?h12_35 ?_
         case h12_35 => (intro w q; obtain ⟨c2', gl', gw'⟩ := PR37.out w q; go_simp; try with_reducible rfl)
         refine layy ?_; refine' tkR 13 (v := undef) rfl (Or.inl (Or.inr ⟨by rfl, rfl⟩)) ?rest13_36; refine layy ?_; refine' tkR 14 (v := undef) rfl (Or.inl (Or.inr ⟨by rfl, rfl⟩)) ?rest14_37; refine layy ?_; refine' tkR 15 (v := undef) rfl (Or.inl (Or.inr ⟨by rfl, rfl⟩)) ?rest15_38; refine layy ?_; refine' tkR 16 (v := undef) rfl (Or.inl (Or.inr ⟨by rfl, rfl⟩)) ?rest16_39; refine layy ?_; refine' tkR 17 (v := undef) rfl (Or.inl (Or.inr ⟨by rfl, rfl⟩)) ?rest17_40; refine layy ?_; refine' tkR 18 (v := undef) rfl (Or.inl (Or.inr ⟨by rfl, rfl⟩)) ?rest18_41; refine layy ?_; refine' tkR 19 (v := undef) rfl (Or.inl (Or.inr ⟨by rfl, rfl⟩)) ?rest19_42; refine layy ?_; refine' tkR 20 (v := undef) rfl (Or.inl (Or.inr ⟨by rfl, rfl⟩)) ?rest20_43; refine layy ?_; refine' tkL 21 rfl ?h21_44 ?_
         case h21_44 => (intro w q; obtain ⟨c2', gl', gw'⟩ := PR37.out w q; go_simp; try with_reducible rfl)
         refine layy ?_; refine wpAnyR_done (by kernel_rfl) ?_ _; intro x1 _ Ex1; have E2 := Lib.hid (E.out.trans Ex1)
         go_wp2_with fail
         go_roundg (m - (j + 1))
         case measure => omega
         case rel => exact ⟨j + 1, by omega, Nat.le_refl _, by go_num, E2⟩
   · have : j = m := by omega
     subst this; have tk : decide ((j : Int) < (j : Int)) = false := decide_eq_false (by omega)
     go_wp2_with fail
     go_returns; exact ⟨rfl, E1.out.trans E.out⟩
theorem RW.to {w : World} {r : Rd} {S S' : Hp.Hs} (h : RW w r S) (h1 : S'.sizes = S.sizes) (h2 : S'.order = S.order) (h3 : S'.words = S.words) : RW w r S' := by
 obtain ⟨s, o, v, t⟩ := S
 obtain ⟨s', o', v', t'⟩ := S'
 simp only at h1 h2 h3
 subst h1 h2 h3
 exact ⟨h.c0, h.c1, h.c2, h.f2, h.sizes, h.order, h.words, h.le, h.cap, h.go, h.apart, h.far1, h.far2⟩
theorem RNow.to {w0 w : World} {r : Rd} {S S' : Hp.Hs} (h : RNow w0 w r S) (h1 : S'.sizes = S.sizes) (h2 : S'.order = S.order) (h3 : S'.words = S.words) : RNow w0 w r S' := ⟨h.toRW.to h1 h2 h3, h.but⟩
set_option maxRecDepth 100000 in
set_option maxHeartbeats 4000000 in
theorem rAdd_hit {w : World} {r : Rd} {S : Hp.Hs} {B : Nat} {L : List Hp.Tl} {ch : Nat → List Nat} (h : RW w r S) (hw : Hp.Wf S B L ch) {a : Nat} (ha : a ∈ S.taken) {q : Option Addr} {qc : Nat} (hq : SliceAt w q qc (Hp.fz (Hp.ow S.words) S.sizes a)) :
    Calls Tryz.prog 162 #[.pointer (some ⟨r.rb, 0, none⟩), .int .i64 (Hp.ow S.words a), .slice q (Hp.fz (Hp.ow S.words) S.sizes a).length qc] w (RTurned r w (.int .i64 a) S) := by
  have SM := Lib.hid (rSame h.at_ hw ha hq); have H := Lib.hid (RNow.refl h); have t0 : decide ((a : Int) > 0) = true := decide_eq_true (by have := hw.part ha; omega); have t1 : decide (0 < a) = true := decide_eq_true (by have := hw.part ha; omega); clear h hw ha hq; generalize (Hp.fz (Hp.ow S.words) S.sizes a).length = m at *; generalize Hp.ow S.words a = t at *; go_enter Tryz.func162, Tryz.ntmps162
  go_wp2_with (go_at_call 133; refine (SM.out).mono ?_; rintro e w1 ⟨rfl, hb1⟩; obtain ⟨hc1, hf1, hs1⟩ := hb1.cells)
  go_returns; exact ⟨rfl, H.out.ext hb1⟩
set_option maxRecDepth 100000 in
set_option maxHeartbeats 4000000 in
theorem rAdd_full {w : World} {r : Rd} {S : Hp.Hs} {B : Nat} {L : List Hp.Tl} {ch : Nat → List Nat} (h : RW w r S) (hw : Hp.Wf S B L ch) {t : Int} {fs : List Int} (hn : Hp.New S t fs) {q : Option Addr} {qc : Nat} (hq : SliceAt w q qc fs)
    (hmiss : ∀ b ∈ S.taken, ¬ (Hp.ow S.words b = t ∧ Hp.fz (Hp.ow S.words) S.sizes b = fs)) (hno : ∀ u ∈ L, u.fr = true → ¬ Hp.Fits (Hp.wz S.sizes t) u) :
    Calls Tryz.prog 162 #[.pointer (some ⟨r.rb, 0, none⟩), .int .i64 t, .slice q fs.length qc] w (RTurned r w (.int .i64 0) S) := by
  have SM := Lib.hid (rSame_no h.at_ hw hq hmiss); have H := Lib.hid (RNow.refl h); have wd := hn.wide hw; rw [wd.1] at hno; have TK := Lib.hid (fun W (hW : Ext w W) => rTake_none (h.ext hW) hw (wd := 4 + fs.length) (by omega) hno); clear h hw hn hq hmiss hno; generalize fs.length = m at *; have e4 : (4 : Int) + (m : Int) = ((4 + m : Nat) : Int) := by omega
  have w4 : IntKind.i64.wrap ((4 : Int) + (m : Int)) = (4 : Int) + (m : Int) := IntWalk.i64_in _ (by omega); have w5 : wrap64 ((4 : Int) + (m : Int)) = (4 : Int) + (m : Int) := IntWalk.wrap64_in _ ⟨by omega, by omega⟩; have TK2 : Hid (∀ W, Ext w W → Calls Tryz.prog 182 #[.pointer (some ⟨r.rb, 0, none⟩), .int .i64 (4 + (m : Int))] W fun e w' => e = .returned (.int .i64 0) ∧ Ext W w') := Lib.hid (fun W hW => by rw [e4]; exact TK.out W hW); clear TK e4; go_enter Tryz.func162, Tryz.ntmps162
  go_wp2_with (first
   | (go_at_call 133; refine (SM.out).mono ?_; rintro e w1 ⟨rfl, hb1⟩; obtain ⟨hc1, hf1, hs1⟩ := hb1.cells)
   | (go_at_call 182; refine (TK2.out _ (exx)).mono ?_; rintro e w2 ⟨rfl, hb2⟩))
  go_returns; exact ⟨rfl, H.out.ext (exx)⟩
end Go.Proofs.YtdokmmhjmclmnaaGreat
