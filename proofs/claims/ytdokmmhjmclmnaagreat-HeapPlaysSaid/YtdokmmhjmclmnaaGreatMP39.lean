/-
  Part 39 of a proof: RP16 RP17.
-/
import Derived.Test.YtdokmmhjmclmnaaGreatMP23
import Derived.Test.YtdokmmhjmclmnaaGreatMP36
import Derived.Test.YtdokmmhjmclmnaaGreatMP38
set_option linter.unusedSimpArgs false
set_option linter.unusedVariables false
set_option linter.unusedSectionVars false
set_option linter.unnecessarySimpa false
namespace Go.Proofs.YtdokmmhjmclmnaaGreat
open Go.RowKit Go.Maps
structure PlAt (wb w : World) (r : Rd) (s : Hp.Sc) (p1 : Option Addr) (k1 : Nat) (p2 : Option Addr) (k2 : Nat) : Prop extends RW w r s.S where
 own0 : ∀ b ∈ r.own, wb.heap.size ≤ b
 ext0 : Ext wb w
 r1 : Row w 0 p1 k1 s.res
 r2 : Row w 0 p2 k2 s.ats
 n1 : ∀ b o, p1 = some ⟨b, o, none⟩ → wb.heap.size ≤ b ∧ b ∉ r.own
 n2 : ∀ b o, p2 = some ⟨b, o, none⟩ → wb.heap.size ≤ b ∧ b ∉ r.own
 n12 : ∀ b o b' o', p1 = some ⟨b, o, none⟩ → p2 = some ⟨b', o', none⟩ → b ≠ b'
 sp0 : 0 < s.S.sizes.length → ∀ b o, r.sp = some ⟨b, o, none⟩ → b < wb.heap.size
 op0 : 0 < s.S.order.length → ∀ b o, r.op = some ⟨b, o, none⟩ → b < wb.heap.size
theorem Row.base0 {w : World} {base c : Nat} {p : Option Addr} {l : List Int} (h : Row w base p c l) : Row w 0 p c l := by
 refine ⟨⟨h.1.1, ?_⟩, h.2⟩
 rcases h.1.2 with e | ⟨g, cap, cur, e, h1, r⟩
 · exact .inl e
 · exact .inr ⟨g, cap, cur, e, Nat.zero_le _, r⟩
theorem RW.but' {w w' : World} {r : Rd} {S : Hp.Hs} (h : RW w r S) {l : List Nat} (k : But l w w') (h0 : r.rb ∉ l) (h1 : r.gb ∉ l) (h3 : 0 < S.sizes.length → ∀ b o, r.sp = some ⟨b, o, none⟩ → b ∉ l) (h4 : 0 < S.order.length → ∀ b o, r.op = some ⟨b, o, none⟩ → b ∉ l) : RW w' r S :=
 { h with
   c0 := (k.cell h.lt h0 0).trans h.c0
   c1 := (k.cell h.lt h0 1).trans h.c1
   c2 := (k.cell h.lt h0 2).trans h.c2
   f2 := (k.frozen h.lt h0 2).trans h.f2
   sizes := h.sizes.but1 k h3
   order := h.order.but1 k h4
   words := h.words.but k h1 }
namespace PlAt
variable {wb w w' : World} {r r' : Rd} {s : Hp.Sc} {p1 p2 : Option Addr} {k1 k2 : Nat}
theorem ext (h : PlAt wb w r s p1 k1 p2 k2) (k : Ext w w') : PlAt wb w' r s p1 k1 p2 k2 :=
 { h with
   toRW := h.toRW.ext k
   ext0 := h.ext0.trans k
   r1 := h.r1.ext k
   r2 := h.r2.ext k }
theorem le0 (h : PlAt wb w r s p1 k1 p2 k2) : wb.heap.size ≤ w.heap.size := h.ext0.le
theorem turn (h : PlAt wb w r s p1 k1 p2 k2) {S' : Hp.Hs} (k : But r.own w w') (h' : RW w' r' S') (hr : r'.rb = r.rb) (hg : r'.gb = r.gb ∨ w.heap.size ≤ r'.gb) (hp : r'.sp = r.sp) (ho : r'.op = r.op) (es : S'.sizes = s.S.sizes) (eo : S'.order = s.S.order) : PlAt wb w' r' { s with S := S' } p1 k1 p2 k2 := by
 have e0 := h.le0
 have own : ∀ b ∈ r'.own, b ∈ r.own ∨ w.heap.size ≤ b := fun b hb => by
  simp only [Rd.own, List.mem_cons, List.not_mem_nil, or_false] at hb ⊢
  rcases hb with rfl | rfl
  · exact .inl (.inl hr)
  · rcases hg with hg | hg
    · exact .inl (.inr hg)
    · exact .inr hg
 have f1 : ∀ {p : Option Addr} {c : Nat} {l : List Int}, Row w 0 p c l → ∀ b o, p = some ⟨b, o, none⟩ → b ∉ r.own → b ∉ r'.own := fun hR b o e hn hm => by
  rcases own b hm with hm | hm
  · exact hn hm
  · have := hR.lt e; omega
 exact
  { toRW := h'
    own0 := fun b hb => by
     rcases own b hb with hm | hm
     · exact h.own0 b hm
     · omega
    ext0 := But.toExt h.ext0 k h.own0
    r1 := h.r1.but_ k (fun b o e => (h.n1 b o e).2)
    r2 := h.r2.but_ k (fun b o e => (h.n2 b o e).2)
    n1 := fun b o e => ⟨(h.n1 b o e).1, f1 h.r1 b o e (h.n1 b o e).2⟩
    n2 := fun b o e => ⟨(h.n2 b o e).1, f1 h.r2 b o e (h.n2 b o e).2⟩
    n12 := h.n12
    sp0 := by rw [hp]; show 0 < S'.sizes.length → _; rw [es]; exact h.sp0
    op0 := by rw [ho]; show 0 < S'.order.length → _; rw [eo]; exact h.op0 }
theorem turned (h : PlAt wb w r s p1 k1 p2 k2) {S' : Hp.Hs} (k : RNow w w' r S') (es : S'.sizes = s.S.sizes) (eo : S'.order = s.S.order) : PlAt wb w' r { s with S := S' } p1 k1 p2 k2 :=
 h.turn k.but k.toRW rfl (.inl rfl) rfl rfl es eo
theorem ats_ (h : PlAt wb w r s p1 k1 p2 k2) {p : Option Addr} {c base : Nat} {l : List Int} (hb : ∀ b o, p1 = some ⟨b, o, none⟩ → b < base) (ho : ∀ b ∈ r.own, b < base) (hB : wb.heap.size ≤ base) (hR : Row w base p c l) : PlAt wb w r { s with ats := l } p1 k1 p c :=
 { h with
   r2 := hR.base0
   n2 := fun b o e => by
    have := hR.far e; exact ⟨by omega, fun hm => by have := ho b hm; omega⟩
   n12 := fun b o b' o' e e' => by
    have := hb b o e; have := hR.far e'; omega }
theorem grow_ (h : PlAt wb w r s p1 k1 p2 k2) {g : Nat} {row : Option Nat} (hG : w.grownBy w' row) (hrow : ∀ q, row = some q → p1 = some ⟨q, 0, none⟩ ∨ p2 = some ⟨q, 0, none⟩) : RW w' r s.S ∧ Ext wb w' := by
 have kb : But row.toList w w' := ⟨hG.os, hG.tape, hG.output, hG.size, fun i hi hn => hG.block i hi (fun e => hn (by rw [← e]; simp))⟩
 have mem : ∀ b ∈ row.toList, wb.heap.size ≤ b ∧ b ∉ r.own := fun b hm => by
  have e : row = some b := by simpa using hm
  rcases hrow b e with e | e
  · exact h.n1 b 0 e
  · exact h.n2 b 0 e
 refine ⟨h.toRW.but' kb (fun hm => (mem _ hm).2 r.rb_own) (fun hm => (mem _ hm).2 r.gb_own) (fun h0 b o e hm => by have := (mem b hm).1; have := h.sp0 h0 b o e; omega) (fun h0 b o e hm => by have := (mem b hm).1; have := h.op0 h0 b o e; omega), ?_⟩
 exact But.toExt h.ext0 kb fun b hb => (mem b hb).1
theorem grow1 (h : PlAt wb w r s p1 k1 p2 k2) {g cap : Nat} {row : Option Nat} {l : List Int} (hR : Row w' 0 (some ⟨g, 0, none⟩) cap l) (hG : w.grownBy w' row) (hrow : ∀ q, row = some q → p1 = some ⟨q, 0, none⟩) (hg : p1 = some ⟨g, 0, none⟩ ∨ g = w.heap.size) :
    PlAt wb w' r { s with res := l } (some ⟨g, 0, none⟩) cap p2 k2 := by
  obtain ⟨a1, a2⟩ := h.grow_ (g := g) hG (fun q e => .inl (hrow q e)); have own := h.toRW.own_lt; have e0 := h.le0; have kb : But row.toList w w' := ⟨hG.os, hG.tape, hG.output, hG.size, fun i hi hn => hG.block i hi (fun e => hn (by rw [← e]; simp))⟩
  exact
   { toRW := a1, own0 := h.own0, ext0 := a2, r1 := hR
     r2 := h.r2.but_ kb (fun b o e hm => by
      have e' : row = some b := by simpa using hm
      exact h.n12 b 0 b o (hrow b e') e rfl)
     n1 := fun b o e => by
      cases e
      rcases hg with hg | hg
      · exact h.n1 g 0 hg
      · exact ⟨by omega, fun hm => by have := own g hm; omega⟩
     n2 := h.n2
     n12 := fun b o b' o' e e' => by
      cases e
      rcases hg with hg | hg
      · exact h.n12 g 0 b' o' hg e'
      · have := h.r2.lt e'; omega
     sp0 := h.sp0, op0 := h.op0 }
theorem grow2 (h : PlAt wb w r s p1 k1 p2 k2) {g cap : Nat} {row : Option Nat} {l : List Int} (hR : Row w' 0 (some ⟨g, 0, none⟩) cap l) (hG : w.grownBy w' row) (hrow : ∀ q, row = some q → p2 = some ⟨q, 0, none⟩) (hg : p2 = some ⟨g, 0, none⟩ ∨ g = w.heap.size) :
    PlAt wb w' r { s with ats := l } p1 k1 (some ⟨g, 0, none⟩) cap := by
  obtain ⟨a1, a2⟩ := h.grow_ (g := g) hG (fun q e => .inr (hrow q e)); have own := h.toRW.own_lt; have e0 := h.le0; have kb : But row.toList w w' := ⟨hG.os, hG.tape, hG.output, hG.size, fun i hi hn => hG.block i hi (fun e => hn (by rw [← e]; simp))⟩
  exact
   { toRW := a1, own0 := h.own0, ext0 := a2, r2 := hR
     r1 := h.r1.but_ kb (fun b o e hm => by
      have e' : row = some b := by simpa using hm
      exact h.n12 b o b 0 e (hrow b e') rfl)
     n2 := fun b o e => by
      cases e
      rcases hg with hg | hg
      · exact h.n2 g 0 hg
      · exact ⟨by omega, fun hm => by have := own g hm; omega⟩
     n1 := h.n1
     n12 := fun b o b' o' e e' => by
      cases e'
      rcases hg with hg | hg
      · exact h.n12 b o g 0 e hg
      · have := h.r1.lt e; omega
     sp0 := h.sp0, op0 := h.op0 }
end PlAt
theorem wpList_append_row {w : World} {ops : Array Oper} {rest : List Oper} {o : Oper} {a : Act} {Q : Exit → Act → World → Prop} (hgd : o.guard = none) (s x : Operand)
    (ho : o.op = .call { callee := .builtin .append, args := #[s, x], argTypes := #[22, 22] }) {c b : Nat} {p : Option Addr} {l : List Int} {y : Int} (hs : a.eval s = .slice p l.length c) (hx : a.eval x = .slice (some ⟨b, 0, none⟩) 1 1)
    (hrow : Row w 0 p c l) (hy : w.cell? ⟨b, 0, none⟩ = some (.int .i64 y)) (hy1 : -9223372036854775808 ≤ y) (hy2 : y ≤ 9223372036854775807) (hlen : l.length < 10000000)
    (h : ∀ g cap w' row, Row w' 0 (some ⟨g, 0, none⟩) cap (l ++ [y]) → w.grownBy w' row → (∀ r, row = some r → p = some ⟨r, 0, none⟩) → (p = some ⟨g, 0, none⟩ ∨ g = w.heap.size) → wpList Tryz.prog ops Q rest (a.put o.dst (.slice (some ⟨g, 0, none⟩) (l.length + 1) cap)) w') : wpList Tryz.prog ops Q (o :: rest) a w := by
  obtain ⟨i0, hi, hz0, hz1, hz2⟩ := info_parts (show (Tryz.prog.info? 3).map (fun i => (i.zero, i.size, i.bytes)) = some (some (.int .i64 0), 1, 8) from by kernel_rfl); refine wpList_append_lies w hgd s x 22 ho 0 3 i0 (.int .i64 0) 1 8 Tryz.underlying22 hi hz0 hz1 hz2 rfl (by decide) _ _ _ hs hrow.1 ⟨b, 0, none⟩ 1 1 [.int .i64 y] hx (by simp) (fun j u hj => ?_) (by simp [Value.oneCell']) (by omega) (by unfold maxLen; omega) (by omega) (Nat.zero_le _) _ rfl ?_
  · cases j with
    | zero =>
     simp at hj; subst hj; rw [Addr.add_lit]; exact hy
    | succ j => simp at hj
  · intro g cap w' hown hgrow hor _; have own := row_own hrow; refine h g cap w' _ ⟨by simpa [ints] using hown, fun z hz => ?_⟩ hgrow own (hor.imp (own g) id)
    rcases List.mem_append.1 hz with hz | hz
    · exact hrow.2 z hz
    · have : z = y := by simpa using hz
      subst this; exact ⟨hy1, hy2⟩
open Go.RowKit Go.Maps
theorem wpList_append_rowN {w : World} {ops : Array Oper} {rest : List Oper} {o : Oper} {a : Act} {Q : Exit → Act → World → Prop} (hgd : o.guard = none) (s x : Operand)
    (ho : o.op = .call { callee := .builtin .append, args := #[s, x], argTypes := #[22, 22] }) {c b n : Nat} {p : Option Addr} {l : List Int} {y : Int} (hn : l.length = n) (hs : a.eval s = .slice p n c) (hx : a.eval x = .slice (some ⟨b, 0, none⟩) 1 1)
    (hrow : Row w 0 p c l) (hy : w.cell? ⟨b, 0, none⟩ = some (.int .i64 y)) (hy1 : -9223372036854775808 ≤ y) (hy2 : y ≤ 9223372036854775807) (hlen : n < 10000000)
    (h : ∀ g cap w' row, Row w' 0 (some ⟨g, 0, none⟩) cap (l ++ [y]) → w.grownBy w' row → (∀ r, row = some r → p = some ⟨r, 0, none⟩) → (p = some ⟨g, 0, none⟩ ∨ g = w.heap.size) → wpList Tryz.prog ops Q rest (a.put o.dst (.slice (some ⟨g, 0, none⟩) (n + 1) cap)) w') : wpList Tryz.prog ops Q (o :: rest) a w := by
  subst hn; exact wpList_append_row hgd s x ho hs hx hrow hy hy1 hy2 hlen h
def RPlayPost (wb : World) (rb : Nat) (s' : Hp.Sc) (e : Ending) (w' : World) : Prop :=
 ∃ p c, ∃ r : Rd, e = .returned (.slice p s'.res.length c) ∧ SliceAt w' p c s'.res ∧ RW w' r s'.S ∧ r.rb = rb ∧ (∀ b ∈ r.own, wb.heap.size ≤ b) ∧ Ext wb w'
theorem good_of {s s1 : Hp.Sc} {B : Nat} {x : Hp.Act'} (h : Hp.Good s.S B) (hB : B < 100000) (hf : 0 ≤ x.fault) (hd : s.do' x = some s1) : Hp.Good s1.S (B + 1) ∧ Hp.Grown s.S s1.S := by
 obtain ⟨s2, e, h1, h2⟩ := Hp.do_good h hB x hf
 rw [hd] at e
 cases e
 exact ⟨h1, h2⟩
theorem rKept_at {w : World} {p1 p2 p3 : Option Addr} {c1 c2 c3 j yl pl : Nat} {A Y P AT : List Int} (h1 : SliceAt w p1 c1 A) (h2 : SliceAt w p2 c2 Y) (h3 : SliceAt w p3 c3 P) (hA : A.length = j) (hj : j ≤ 1000000) (hY : Y.length = yl) (hP : P.length = pl) (hpl : pl ≤ 1000000) (hAT : A.map (Hp.keptF Y P) = AT) :
    Calls Tryz.prog 95 #[.slice p1 j c1, .slice p2 yl c2, .slice p3 pl c3] w fun e w' => ∃ p c, e = .returned (.slice p j c) ∧ Row w' w.heap.size p c AT ∧ Ext w w' := by
  have K := rKept h1 h2 h3 (by omega) (by omega); rw [hA, hY, hP, hAT] at K; refine K.mono ?_; rintro e w' ⟨p, c, rfl, hR, hE⟩; exact ⟨p, c, by rw [← hAT, List.length_map, hA], hR, hE⟩
theorem collected_small {S S1 : Hp.Hs} {B cm : Nat} {L : List Hp.Tl} {ch : Nat → List Nat} {T : List Nat} (hw : Hp.Wf S B L ch) (hT : S.live = some T) (hco : S.collect = some (cm, S1)) : cm ≤ 100000 := by
 obtain ⟨S', L', e, _⟩ := Hp.collect_wf hw hT
 rw [hco] at e
 simp only [Option.some.injEq, Prod.mk.injEq] at e
 have := List.length_filter_le (fun a => !T.contains a) S.taken
 have := hw.few
 have := hw.hi
 omega
theorem collected_wf {S S1 : Hp.Hs} {B cm : Nat} {L : List Hp.Tl} {ch : Nat → List Nat} {T : List Nat} (hw : Hp.Wf S B L ch) (hT : S.live = some T) (hco : S.collect = some (cm, S1)) : ∃ L1 ch1, Hp.Wf S1 B L1 ch1 := by
 obtain ⟨S', L', e, _, hw'⟩ := Hp.collect_wf hw hT
 rw [hco] at e
 simp only [Option.some.injEq, Prod.mk.injEq] at e
 obtain ⟨_, rfl⟩ := e
 exact ⟨_, _, hw'⟩
theorem natsI_length (Y : List Nat) : (Hp.natsI Y).length = Y.length := Hp.natsI_len Y
theorem slice_nil (w : World) : SliceAt w none 0 [] := (Row.nil w 0).at_
set_option maxRecDepth 100000 in
set_option maxHeartbeats 16000000 in
theorem rPlay {wb w : World} {r : Rd} {S : Hp.Hs} {B0 : Nat} (h : RW w r S) (hg : Hp.Good S B0) (hB : B0 ≤ 90000) (own : ∀ b ∈ r.own, wb.heap.size ≤ b) (ext : Ext wb w) (sp0 : 0 < S.sizes.length → ∀ b o, r.sp = some ⟨b, o, none⟩ → b < wb.heap.size) (op0 : 0 < S.order.length → ∀ b o, r.op = some ⟨b, o, none⟩ → b < wb.heap.size)
    {pa : Option Addr} {ca : Nat} {acts : List Hp.Act'} (ha : ActsAt wb pa ca acts) (hal : acts.length ≤ 300) {s' : Hp.Sc} (hr : Hp.Sc.play ⟨S, [], []⟩ acts = some s') :
    Calls Tryz.prog 33 #[.pointer (some ⟨r.rb, 0, none⟩), .slice pa acts.length ca] w (RPlayPost wb r.rb s') := by
  have N0 : Hid (PlAt wb w r ⟨S, [], []⟩ none 0 none 0) := Lib.hid
   { toRW := h, own0 := own, ext0 := ext, r1 := (Row.nil w 0).base0, r2 := (Row.nil w 0).base0
     n1 := fun b o e => by cases e
     n2 := fun b o e => by cases e
     n12 := fun b o b' o' e => by cases e
     sp0 := sp0, op0 := op0 }
  have HA := Lib.hid ha; have le := ha.le; have cap := ha.cap; have OK0 := Lib.hid (show ScOk ⟨S, [], []⟩ 0 from ⟨rfl, rfl, by simp⟩); have HR0 := Lib.hid (show Hp.Sc.play ⟨S, [], []⟩ (acts.drop 0) = some s' from hr); have GD0 := Lib.hid (show Hp.Good S (B0 + 0) from hg); obtain ⟨m, hm⟩ : ∃ m, acts.length = m := ⟨_, rfl⟩
  have HM := Lib.hid hm; obtain ⟨rb, hrb⟩ : ∃ rb, r.rb = rb := ⟨_, rfl⟩
  have RB0 := Lib.hid hrb; rw [hm] at le hal ⊢; rw [hrb]; clear h hg own ext sp0 op0 ha hr hm hrb; go_enter Tryz.func33, Tryz.ntmps33
  go_wp2_with fail
  go_loopg [5, 6, 7] m (fun g' v5 v6 v7 wr => ∃ (j : Nat) (s : Hp.Sc) (rr : Rd) (p1 : Option Addr) (k1 : Nat) (p2 : Option Addr) (k2 : Nat), j ≤ m ∧ m - j ≤ g' ∧ v5 = .slice p1 j k1 ∧ v6 = .slice p2 j k2 ∧ v7 = .int .i64 j ∧ Hid (rr.rb = rb) ∧ Hid (PlAt wb wr rr s p1 k1 p2 k2) ∧ Hid (Hp.Sc.play s (acts.drop j) = some s') ∧ Hid (ScOk s j) ∧ Hid (Hp.Good s.S (B0 + j)))
  case atStart => exact ⟨0, _, r, none, 0, none, 0, Nat.zero_le _, by omega, rfl, rfl, rfl, RB0, N0, HR0, OK0, GD0⟩
  case round =>
   obtain ⟨j, s, rr, p1, k1, p2, k2, hj, hg, rfl, rfl, rfl, HRB, N, HP, OK, GD⟩ := hrel; clear N0 HR0 OK0 GD0 RB0; have hrb := HRB.out; clear HRB; subst hrb
   by_cases hlt : j < m
   · obtain ⟨x, hx⟩ : ∃ x, acts[j]? = some x := ⟨acts[j]'(by rw [HM.out]; exact hlt), List.getElem?_eq_getElem _⟩
     obtain ⟨b, o, rfl, hb, hc⟩ := HA.out.cells (by rw [HM.out]; omega); obtain ⟨q', c', f, ok, d0, d1, d2, d3, d4, hs⟩ := hc j x hx; have hs := hs.ext N.out.ext0; have a0 := (N.out.ext0.cell hb _).trans d0; have a1 := (N.out.ext0.cell hb _).trans d1; have a2 := (N.out.ext0.cell hb _).trans d2; have a3 := (N.out.ext0.cell hb _).trans d3; have a4 := (N.out.ext0.cell hb _).trans d4; have D0 := Lib.hid d0; clear d0 d1 d2 d3 d4; have tk : decide ((j : Int) < (m : Int)) = true := decide_eq_true (by omega); have HOK := Lib.hid ok; have HS := Lib.hid hs; have hp2 := HP.out; rw [List.drop_eq_getElem_cons (by rw [HM.out]; exact hlt)] at hp2; have hxe : acts[j]'(by rw [HM.out]; exact hlt) = x := by
      have := hx; rw [List.getElem?_eq_getElem (by rw [HM.out]; exact hlt)] at this; exact Option.some.inj this
     rw [hxe] at hp2; simp only [Hp.Sc.play, Option.bind_eq_bind, Option.bind_eq_some_iff] at hp2; obtain ⟨s1, hdo, hrest⟩ := hp2; have HREST := Lib.hid hrest; have OK1 := Lib.hid (OK.out.do' hdo); obtain ⟨gd1, gr1⟩ := good_of GD.out (by omega) (show 0 ≤ x.fault by have := ok.fault; omega) hdo; have GD1 := Lib.hid (show Hp.Good s1.S (B0 + (j + 1)) from gd1); clear hc hx ok hs hrest hxe HP gd1; obtain ⟨L, ch, hw⟩ := GD.out; have SA := Lib.hid N.out.r2.at_; have ba1 : (-9223372036854775808 : Int) ≤ 0 := by decide
     have ba2 : (0 : Int) ≤ 9223372036854775807 := by decide
     by_cases h6 : x.kind = 6
     · obtain ⟨cm, S1, hco, rfl⟩ := Hp.do_six hdo h6; obtain ⟨TL, hT⟩ := Hp.live_total hw; have es : s.S.sizes = s.S.sizes := rfl; have eo : s.S.order = s.S.order := rfl; have E1 := Lib.hid (show S1.sizes = s.S.sizes from gr1.sizes); have E2 := Lib.hid (show S1.order = s.S.order from gr1.order); have hll := Hp.live_left hw hT hco; have LL := Lib.hid hll; have CD := rdo_any N.out.toRW hw HOK.out SA.out HS.out (Hp.rdo_67 (S := s.S) (A := s.ats) (.inl h6)); unfold actV at CD; rw [OK.out.ats, h6] at CD; rw [h6] at a0 D0; have CD := Lib.hid CD; have LV := Lib.hid (fun W (hW : RAt W rr s.S) => rLive hW hw hT); have CO := Lib.hid (fun W (hW : RW W rr s.S) => rCollect hW hw hco); have cb := collected_small hw hT hco; have bn1 : (-9223372036854775808 : Int) ≤ (cm : Int) := by omega
       have bn2 : (cm : Int) ≤ 9223372036854775807 := by omega
       have LA : ((s.ats.map fun a => if S1.has a then a else 0)).length = j := by rw [List.length_map, OK.out.ats]
       have HLA := Lib.hid LA; have z0 := N.out.le0; clear hdo gr1 hll hT hco cb hw LA
       go_wp2_with (first
        | (go_at_call 94; refine CD.out.mono ?_; rintro e3 w3 ⟨rfl, hN3⟩; have N3 := Lib.hid (N.out.turned hN3 es eo); have a0' := (N3.out.ext0.cell hb _).trans D0.out; clear hN3)
        | (go_at_call 83; refine (LV.out _ N3.out.toRW.at_).mono ?_; rintro e4 w4 ⟨Y, p4, c4, b4, rfl, hb4, hR4, hE4, hY, hYl⟩; have N4 := Lib.hid (N3.out.ext hE4); have HY := Lib.hid (fun a => (hY a).trans (LL.out a)); have R4 := Lib.hid hR4; have B4 := Lib.hid hb4; clear hY hYl hR4 hb4)
        | (go_at_call 95; refine (rKept_at N4.out.r2.at_ R4.out.at_ (slice_nil _) OK.out.ats (by omega) (natsI_length Y) (show ([] : List Int).length = 0 from rfl) (by decide) (Hp.kept_six HY.out s.ats)).mono ?_; rintro e5 w5 ⟨p5, c5, rfl, hR5, hE5⟩; have N5 := Lib.hid (PlAt.ats_ (N4.out.ext hE5) (fun b o e => N4.out.r1.lt e) N4.out.toRW.own_lt N4.out.le0 hR5); clear hR5)
        | (go_at_call 96; refine (CO.out _ N5.out.toRW).mono ?_; rintro e6 w6 ⟨rfl, hN6⟩; have N6 := Lib.hid (N5.out.turned hN6 E1.out E2.out); clear hN6)
        | (at_builtin; refine wpList_append_rowN rfl _ _ rfl (n := j) OK.out.res rfl rfl (N6.out.ext (Ext.alloc (Ext.refl _) _)).r1 (by go_simp) bn1 bn2 (by omega) ?_; intro g7 c7 w7 row7 hR7 hG7 hr7 hg7; have N7 := Lib.hid ((N6.out.ext (Ext.alloc (Ext.refl _) _)).grow1 hR7 hG7 hr7 hg7); clear hR7 hG7 hr7 hg7)
        | (at_builtin; refine wpList_append_rowN rfl _ _ rfl (n := j) HLA.out rfl rfl (N7.out.ext (Ext.alloc (Ext.refl _) _)).r2 (by go_simp) ba1 ba2 (by omega) ?_; intro g8 c8 w8 row8 hR8 hG8 hr8 hg8; have N8 := Lib.hid ((N7.out.ext (Ext.alloc (Ext.refl _) _)).grow2 hR8 hG8 hr8 hg8); clear hR8 hG8 hr8 hg8))
       go_roundg (m - (j + 1))
       case measure => omega
       case rel => exact ⟨j + 1, _, rr, _, _, _, _, by omega, Nat.le_refl _, rfl, rfl, by go_num, Lib.hid rfl, N8, HREST, OK1, GD1⟩
     · by_cases h7 : x.kind = 7
       · obtain ⟨cm, S1, M, S2, hco, hmv, rfl⟩ := Hp.do_seven hdo h7; obtain ⟨TL, hT⟩ := Hp.live_total hw; have es : s.S.sizes = s.S.sizes := rfl; have eo : s.S.order = s.S.order := rfl; have E1 := Lib.hid (show S2.sizes = s.S.sizes from gr1.sizes); have E2 := Lib.hid (show S2.order = s.S.order from gr1.order); have hll := Hp.live_left hw hT hco; have LL := Lib.hid hll; obtain ⟨L1, ch1, hw1⟩ := collected_wf hw hT hco; have few1 := hw1.few; have hi1 := hw1.hi; have HW1 := Lib.hid hw1; have CD := rdo_any N.out.toRW hw HOK.out SA.out HS.out (Hp.rdo_67 (S := s.S) (A := s.ats) (.inr h7)); unfold actV at CD; rw [OK.out.ats, h7] at CD; rw [h7] at a0 D0; have CD := Lib.hid CD; have LV := Lib.hid (fun W (hW : RAt W rr s.S) => rLive hW hw hT); have CO := Lib.hid (fun W (hW : RW W rr s.S) => rCompact hW hw hco hmv); have bn1 := ba1; have bn2 := ba2; have LA : ((s.ats.map fun a => if S1.has a then a else 0).map fun a => if a < 0 then 0 else (getI a.toNat M).getD 0).length = j := by rw [List.length_map, List.length_map, OK.out.ats]
         have HLA := Lib.hid LA; have z0 := N.out.le0; clear hdo gr1 hll hT hco hmv hw hw1 LA
         go_wp2_with (first
          | (go_at_call 94; refine CD.out.mono ?_; rintro e3 w3 ⟨rfl, hN3⟩; have N3 := Lib.hid (N.out.turned hN3 es eo); have a0' := (N3.out.ext0.cell hb _).trans D0.out; clear hN3)
          | (go_at_call 83; refine (LV.out _ N3.out.toRW.at_).mono ?_; rintro e4 w4 ⟨Y, p4, c4, b4, rfl, hb4, hR4, hE4, hY, hYl⟩; have N4 := Lib.hid (N3.out.ext hE4); have HY := Lib.hid (fun a => (hY a).trans (LL.out a)); have R4 := Lib.hid hR4; have B4 := Lib.hid hb4; clear hY hYl hR4 hb4)
          | (go_at_call 97; refine (CO.out _ N4.out.toRW).mono ?_; rintro e6 w6 ⟨mv, p6, c6, b6, g6, rfl, hb6, hR6, hg6, hW6, hK6, hM6⟩; have R6 := Lib.hid hR6.at_; have Y6 := Lib.hid (R4.out.at_.but hK6 (fun b o e hm => by have h1 := R4.out.far e; have h2 := N3.out.toRW.own_lt b hm; have h3 := B4.out; omega)); have N6 := Lib.hid (N4.out.turn hK6 hW6 rfl (.inr hg6) rfl rfl E1.out E2.out); have M6 := Lib.hid hM6; clear hb6 hR6 hg6 hW6 hK6 hM6)
          | (go_at_call 95; refine (rKept_at N6.out.r2.at_ Y6.out R6.out OK.out.ats (by omega) (natsI_length Y) rfl (by have := Hp.pairs_len (m := mv) (T := S1.taken); omega) (Hp.kept_seven HW1.out M6.out HY.out s.ats)).mono ?_; rintro e5 w5 ⟨p5, c5, rfl, hR5, hE5⟩; have N5 := Lib.hid (PlAt.ats_ (N6.out.ext hE5) (fun b o e => N6.out.r1.lt e) N6.out.toRW.own_lt N6.out.le0 hR5); clear hR5)
          | (at_builtin; refine wpList_append_rowN rfl _ _ rfl (n := j) OK.out.res rfl rfl (N5.out.ext (Ext.alloc (Ext.refl _) _)).r1 (by go_simp) bn1 bn2 (by omega) ?_; intro g7 c7 w7 row7 hR7 hG7 hr7 hg7; have N7 := Lib.hid ((N5.out.ext (Ext.alloc (Ext.refl _) _)).grow1 hR7 hG7 hr7 hg7); clear hR7 hG7 hr7 hg7)
          | (at_builtin; refine wpList_append_rowN rfl _ _ rfl (n := j) HLA.out rfl rfl (N7.out.ext (Ext.alloc (Ext.refl _) _)).r2 (by go_simp) ba1 ba2 (by omega) ?_; intro g8 c8 w8 row8 hR8 hG8 hr8 hg8; have N8 := Lib.hid ((N7.out.ext (Ext.alloc (Ext.refl _) _)).grow2 hR8 hG8 hr8 hg8); clear hR8 hG8 hr8 hg8))
         go_roundg (m - (j + 1))
         case measure => omega
         case rel => exact ⟨j + 1, _, { rr with gb := g6, wc := S2.words.length }, _, _, _, _, by omega, Nat.le_refl _, rfl, rfl, by go_num, Lib.hid rfl, N8, HREST, OK1, GD1⟩
       · obtain ⟨n, na, e0, S1, hrd, rfl⟩ := Hp.rdo_of hdo h6 h7; have es : S1.sizes = s.S.sizes := gr1.sizes; have eo : S1.order = s.S.order := gr1.order; have hbd := rdo_bound (by have := hw.hi; omega) SA.out.wf hrd; have CD := rdo_any N.out.toRW hw HOK.out SA.out HS.out hrd; unfold actV at CD; rw [OK.out.ats] at CD; have CD := Lib.hid CD; have LA := OK.out.ats; have HLA := Lib.hid LA; clear hdo gr1 hrd hw LA
         by_cases he0 : e0 = 0
         · subst he0; have bn1 := hbd.1.1; have bn2 := hbd.1.2; have ba1 := hbd.2.1.1; have ba2 := hbd.2.1.2; have OK1 := Lib.hid (show ScOk ⟨S1, s.res ++ [n], s.ats ++ [na]⟩ (j + 1) from OK1.out); have HREST := Lib.hid (show Hp.Sc.play ⟨S1, s.res ++ [n], s.ats ++ [na]⟩ (acts.drop (j + 1)) = some s' from HREST.out); have t6 : (x.kind == 6) = false := by simpa using h6
           have t7 : (x.kind == 7) = false := by simpa using h7
           clear hbd
           go_wp2_with (first
            | (go_at_call 94; refine CD.out.mono ?_; rintro e3 w3 ⟨rfl, hN3⟩; have N3 := Lib.hid (N.out.turned hN3 es eo); have a0' := (N3.out.ext0.cell hb _).trans D0.out; clear hN3)
            | (at_builtin; refine wpList_append_rowN rfl _ _ rfl (n := j) OK.out.res rfl rfl (N3.out.ext (Ext.alloc (Ext.refl _) _)).r1 (by go_simp) bn1 bn2 (by omega) ?_; intro g7 c7 w7 row7 hR7 hG7 hr7 hg7; have N7 := Lib.hid ((N3.out.ext (Ext.alloc (Ext.refl _) _)).grow1 hR7 hG7 hr7 hg7); clear hR7 hG7 hr7 hg7)
            | (at_builtin; refine wpList_append_rowN rfl _ _ rfl (n := j) HLA.out rfl rfl (N7.out.ext (Ext.alloc (Ext.refl _) _)).r2 (by go_simp) ba1 ba2 (by omega) ?_; intro g8 c8 w8 row8 hR8 hG8 hr8 hg8; have N8 := Lib.hid ((N7.out.ext (Ext.alloc (Ext.refl _) _)).grow2 hR8 hG8 hr8 hg8); clear hR8 hG8 hr8 hg8))
           go_roundg (m - (j + 1))
           case measure => omega
           case rel => exact ⟨j + 1, _, rr, _, _, _, _, by omega, Nat.le_refl _, rfl, rfl, by go_num, Lib.hid rfl, N8, HREST, OK1, GD1⟩
         · have bn1 : (-9223372036854775808 : Int) ≤ -e0 := by omega
           have bn2 : -e0 ≤ 9223372036854775807 := by omega
           have OK1 := Lib.hid (show ScOk ⟨S1, s.res ++ [-e0], s.ats ++ [0]⟩ (j + 1) by have := OK1.out; rw [if_pos he0, if_pos he0] at this; exact this); have HREST := Lib.hid (show Hp.Sc.play ⟨S1, s.res ++ [-e0], s.ats ++ [0]⟩ (acts.drop (j + 1)) = some s' by have := HREST.out; rw [if_pos he0, if_pos he0] at this; exact this); have t8 : (e0 != 0) = true := by simpa using he0
           have t9 : (e0 == 0) = false := by simpa using he0
           have wn : IntKind.i64.wrap (-e0) = -e0 := IntWalk.i64_in _ (by omega); clear hbd
           go_wp2_with (first
            | (go_at_call 94; refine CD.out.mono ?_; rintro e3 w3 ⟨rfl, hN3⟩; have N3 := Lib.hid (N.out.turned hN3 es eo); have a0' := (N3.out.ext0.cell hb _).trans D0.out; clear hN3)
            | (at_builtin; refine wpList_append_rowN rfl _ _ rfl (n := j) OK.out.res rfl rfl (N3.out.ext (Ext.alloc (Ext.refl _) _)).r1 (by go_simp) bn1 bn2 (by omega) ?_; intro g7 c7 w7 row7 hR7 hG7 hr7 hg7; have N7 := Lib.hid ((N3.out.ext (Ext.alloc (Ext.refl _) _)).grow1 hR7 hG7 hr7 hg7); clear hR7 hG7 hr7 hg7)
            | (at_builtin; refine wpList_append_rowN rfl _ _ rfl (n := j) HLA.out rfl rfl (N7.out.ext (Ext.alloc (Ext.refl _) _)).r2 (by go_simp) ba1 ba2 (by omega) ?_; intro g8 c8 w8 row8 hR8 hG8 hr8 hg8; have N8 := Lib.hid ((N7.out.ext (Ext.alloc (Ext.refl _) _)).grow2 hR8 hG8 hr8 hg8); clear hR8 hG8 hr8 hg8))
           go_roundg (m - (j + 1))
           case measure => omega
           case rel => exact ⟨j + 1, _, rr, _, _, _, _, by omega, Nat.le_refl _, rfl, rfl, by go_num, Lib.hid rfl, N8, HREST, OK1, GD1⟩
   · have : j = m := by omega
     subst this; have tk : decide ((j : Int) < (j : Int)) = false := decide_eq_false (by omega); have hp2 := HP.out; rw [List.drop_of_length_le (by rw [HM.out]; exact Nat.le_refl _)] at hp2; obtain rfl : s = s' := by simpa [Hp.Sc.play] using hp2
     go_wp2_with fail
     go_returns; exact ⟨p1, k1, rr, by rw [OK.out.res]; rfl, N.out.r1.at_.ext exx, N.out.toRW.ext exx, rfl, N.out.own0, N.out.ext0.trans exx⟩
end Go.Proofs.YtdokmmhjmclmnaaGreat
