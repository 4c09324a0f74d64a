/-
  Part 10 of a proof: HFn31 HPlayM HFn35 HFn36 RegFork HFn37.
-/
import Derived.Test.YtdokmmhjmclmnaaGreatMP02
import Derived.Test.YtdokmmhjmclmnaaGreatMP07
import Derived.Test.YtdokmmhjmclmnaaGreatMP09
set_option linter.unusedSimpArgs false
set_option linter.unusedVariables false
set_option linter.unusedSectionVars false
set_option linter.unnecessarySimpa false
namespace Go.Proofs.YtdokmmhjmclmnaaGreat
open Go.RowKit Go.Maps
section
open Go.Sort Go.Shelf
def keysI (M : List (Nat × Int)) : List Nat := M.map fun p => p.1
end
theorem wpList_append_ints {w : World} {ops : Array Oper} {rest : List Oper} {o : Oper} {a : Act} {Q : Exit → Act → World → Prop} (hgd : o.guard = none) (s x : Operand)
    (ho : o.op = .call { callee := .builtin .append, args := #[s, x], argTypes := #[22, 22] }) {base c b : Nat} {p : Option Addr} {l ys : List Int} (hs : a.eval s = .slice p l.length c) (hx : a.eval x = .slice (some ⟨b, 0, none⟩) ys.length ys.length) (hys0 : 0 < ys.length)
    (hrow : Row w base p c l) (hy : ∀ j y, Hp.rd ys j = some y → w.cell? ⟨b, j, none⟩ = some (.int .i64 y)) (hyb : ∀ y ∈ ys, -9223372036854775808 ≤ y ∧ y ≤ 9223372036854775807) (hlen : l.length + ys.length < 10000000) (hbase : base ≤ w.heap.size)
    (h : ∀ g cap w', Row w' base (some ⟨g, 0, none⟩) cap (l ++ ys) → (∃ row, w.grownBy w' row ∧ ∀ r, row = some r → base ≤ r) → wpList Tryz.prog ops Q rest (a.put o.dst (.slice (some ⟨g, 0, none⟩) (l.length + ys.length) cap)) w') : wpList Tryz.prog ops Q (o :: rest) a w := by
  obtain ⟨i0, hi, hz0, hz1, hz2⟩ := info_parts (show (Tryz.prog.info? 3).map (fun i => (i.zero, i.size, i.bytes)) = some (some (.int .i64 0), 1, 8) from by kernel_rfl)
  refine wpList_append_lies w hgd s x 22 ho base 3 i0 (.int .i64 0) 1 8 Tryz.underlying22 hi hz0 hz1 hz2 rfl (by decide) _ _ _ hs hrow.1 ⟨b, 0, none⟩ ys.length ys.length (ints ys) hx (by simp [ints]) (fun j u hj => ?_) (by
      intro v hv; obtain ⟨y, _, rfl⟩ := List.mem_map.1 hv; rfl) (by omega) (by unfold maxLen; omega) (by omega) hbase _ rfl ?_
  · unfold ints at hj; rw [List.getElem?_map] at hj
    cases hq : ys[j]? with
    | none => rw [hq] at hj; cases hj
    | some y =>
     rw [hq] at hj
     cases hj
     rw [Addr.add_lit]; have := hy j y hq
     simpa using this
  · intro g cap w' hown hgrow hor _; have hown' := hown; have e1 : (l ++ ys).length = l.length + ys.length := by simp
    refine h g cap w' ⟨by rw [e1]; simpa [ints] using hown', fun z hz => ?_⟩ ⟨_, hgrow, fun r hr => ?_⟩
    · rcases List.mem_append.1 hz with hz | hz
      · exact hrow.2 z hz
      · exact hyb z hz
    · cases p with
      | none => simp [Value.ownBlock] at hr
      | some q =>
       have hr' : q.block = r := by simpa [Value.ownBlock] using hr
       subst hr'
       rcases hrow.1.2 with ⟨e, _⟩ | ⟨g', cap', cur, e, h1, _⟩
       · injection e with e1
         cases e1
       · injection e with e1
         cases e1
         exact h1
structure Cp (w W : World) (B : Nat) (own : List Nat) (d : Hd) (S : Hp.Hs) (gm : Nat) (M : List (Nat × Int)) (ps : Option Addr) (cs : Nat) : Prop where
 at_ : HAt W d S
 but : But own w W
 moved : MapIAt Tryz.prog W gm M
 cells : SliceAt W ps cs (natInts (keysI M))
 b1 : ∀ b ∈ d.own, b < B
 b2 : ∀ b o, d.sp = some ⟨b, o, none⟩ → b < B
 b3 : ∀ b o, d.op = some ⟨b, o, none⟩ → b < B
 b4 : gm < B
 b5 : ∀ b o, ps = some ⟨b, o, none⟩ → 0 < M.length → b < B
 b6 : w.heap.size ≤ B
 b7 : B ≤ W.heap.size
theorem SliceAt.below_ {w w' : World} {p : Option Addr} {c B : Nat} {l : List Int} (h : SliceAt w p c l) (k : Below B w w') (hp : ∀ b o, p = some ⟨b, o, none⟩ → 0 < l.length → b < B) : SliceAt w' p c l := by
 refine ⟨h.le, h.cap, h.wf, fun h0 => ?_⟩
 obtain ⟨b, o, rfl, hb, hc⟩ := h.cells h0
 exact ⟨b, o, rfl, Nat.lt_of_lt_of_le hb k.size, fun j x hx => (k.cell (p := ⟨b, o + j, none⟩) (hp b o rfl h0)).trans (hc j x hx)⟩
theorem Cp.below {w W W' : World} {B : Nat} {own : List Nat} {d : Hd} {S : Hp.Hs} {gm : Nat} {M : List (Nat × Int)} {ps : Option Addr} {cs : Nat} (h : Cp w W B own d S gm M ps cs) (k : Below B W W') : Cp w W' B own d S gm M ps cs :=
 { at_ := h.at_.below_ k h.b1 h.b2 h.b3
   but := ⟨k.os.trans h.but.os, k.tape.trans h.but.tape, k.output.trans h.but.output, Nat.le_trans h.but.size k.size, fun i hi hn => (k.block i (Nat.lt_of_lt_of_le hi h.b6)).trans (h.but.block i hi hn)⟩
   moved := h.moved.ofBlock (k.block _ h.b4)
   cells := h.cells.below_ k (fun b o e h0 => h.b5 b o e (by simpa [natInts, keysI] using h0))
   b1 := h.b1
   b2 := h.b2
   b3 := h.b3
   b4 := h.b4
   b5 := h.b5
   b6 := h.b6
   b7 := Nat.le_trans h.b7 k.size }
theorem moves_spec {S : Hp.Hs} : ∀ {L : List Nat} {V V' : List Int} {next nf : Nat} {M M' : List (Nat × Int)}, Hp.Hs.moves S L V next M = some (V', nf, M') → V'.length = V.length ∧ ∀ p ∈ M', p ∈ M ∨ (p.1 ∈ L ∧ 0 ≤ p.2 ∧ p.2 ≤ V.length)
 | [], V, V', next, nf, M, M', h => by
  obtain ⟨rfl, rfl, rfl⟩ : V = V' ∧ next = nf ∧ M = M' := by simpa [Hp.Hs.moves] using h
  exact ⟨rfl, fun p hp => .inl hp⟩
 | a :: r, V, V', next, nf, M, M', h => by
  obtain ⟨t, k, l, V1, _, _, _, hV, h⟩ := moves_cons h; obtain ⟨h1, h2⟩ := moves_spec h; have h3 := HAt.lay_len hV; refine ⟨h1.trans h3.1, fun p hp => ?_⟩
  rcases h2 p hp with h | ⟨h, h4, h5⟩
  · rcases mem_putI h with rfl | h
    · exact .inr ⟨by simp, by simp, by simp only; omega⟩
    · exact .inl h
  · exact .inr ⟨by simp [h], h4, by rw [h3.1] at h5; exact h5⟩
open Go.RowKit
namespace Hp
def nameOf (L : List Int) (a : Int) : Int := if 0 ≤ a then L.getD a.toNat 0 else 0
structure Act' where
 kind : Int
 a : Int
 list : List Int
 fault : Int
 n : Int
structure Sc where
 S : Hs
 res : List Int
 ats : List Int
def Sc.note (s : Sc) (r e : Int) (isA : Bool) : Sc := { s with res := s.res ++ [if e ≠ 0 then -e else r], ats := s.ats ++ [if e ≠ 0 then 0 else if isA then r else 0] }
def Sc.forget (s : Sc) : Sc := { s with ats := s.ats.map fun a => if s.S.has a then a else 0 }
def Sc.do' (s : Sc) (x : Act') : Option Sc :=
 if x.kind = 1 then do
  let (r, e, S) ← s.S.end' x.fault x.n
  some ({ s with S := S }.note r e true)
 else if x.kind = 2 ∨ x.kind = 3 then
  let kids := x.list.map (nameOf s.ats)
  if kids.contains 0 then some (s.note 0 7 false) else
  if x.kind = 2 then do
   let (r, e, S) ← s.S.make x.a kids
   some ({ s with S := S }.note r e true)
  else do
   let (r, e) ← s.S.find x.a kids
   some (s.note r e true)
 else if x.kind = 4 ∨ x.kind = 5 then
  if nameOf s.ats x.a = 0 then some (s.note 0 7 false) else
  if x.kind = 4 then do
   let (e, S) ← s.S.hold (nameOf s.ats x.a)
   some ({ s with S := S }.note 0 e false)
  else do
   let (e, S) ← s.S.drop (nameOf s.ats x.a)
   some ({ s with S := S }.note 0 e false)
 else if x.kind = 6 then do
  let (m, S) ← s.S.collect
  some (({ s with S := S }.forget).note m 0 false)
 else if x.kind = 7 then do
  let (_, S) ← s.S.collect
  let s := ({ s with S := S } : Sc).forget
  let (M, S) ← s.S.moved
  some (({ s with S := S, ats := s.ats.map fun a => if a < 0 then 0 else (getI a.toNat M).getD 0 } : Sc).note 0 0 false)
 else some (s.note 0 7 false)
def Sc.play (s : Sc) : List Act' → Option Sc
 | [] => some s
 | x :: r => do (← s.do' x).play r
end Hp
structure ScAt (w0 w : World) (sb : Nat) (d : Hd) (s : Hp.Sc) (p1 : Option Addr) (k1 : Nat) (p2 : Option Addr) (k2 : Nat) : Prop extends HAt w d s.S where
 ext0 : Ext w0 w
 h0 : w.cell? ⟨sb, 0, none⟩ = some (.pointer (some ⟨d.hb, 0, none⟩))
 h1 : w.cell? ⟨sb, 1, none⟩ = some (.slice p1 s.res.length k1)
 h2 : w.cell? ⟨sb, 2, none⟩ = some (.slice p2 s.ats.length k2)
 fz : ∀ k, w.frozen? ⟨sb, k, none⟩ = false
 r1 : Row w 0 p1 k1 s.res
 r2 : Row w 0 p2 k2 s.ats
 sb0 : w0.heap.size ≤ sb
 own0 : ∀ b ∈ d.own, w0.heap.size ≤ b
 sbn : sb ∉ d.own
 n1 : ∀ b o, p1 = some ⟨b, o, none⟩ → w0.heap.size ≤ b ∧ b ∉ d.own ∧ b ≠ sb
 n2 : ∀ b o, p2 = some ⟨b, o, none⟩ → w0.heap.size ≤ b ∧ b ∉ d.own ∧ b ≠ sb
 n12 : ∀ b o b' o', p1 = some ⟨b, o, none⟩ → p2 = some ⟨b', o', none⟩ → b ≠ b'
 spn : ∀ b o, d.sp = some ⟨b, o, none⟩ → b ≠ sb ∧ (∀ o', p1 ≠ some ⟨b, o', none⟩) ∧ ∀ o', p2 ≠ some ⟨b, o', none⟩
 opn : ∀ b o, d.op = some ⟨b, o, none⟩ → b ≠ sb ∧ (∀ o', p1 ≠ some ⟨b, o', none⟩) ∧ ∀ o', p2 ≠ some ⟨b, o', none⟩
theorem Row.but_ {w w' : World} {base c : Nat} {p : Option Addr} {l : List Int} (h : Row w base p c l) {bs : List Nat} (k : But bs w w') (hb : ∀ b o, p = some ⟨b, o, none⟩ → b ∉ bs) : Row w' base p c l := by
 refine ⟨⟨h.1.1, ?_⟩, h.2⟩
 rcases h.1.2 with e | ⟨g, cap, cur, e, h1, hg, r⟩
 · exact .inl e
 · refine .inr ⟨g, cap, cur, e, h1, ?_, r⟩; have hl := (Array.getElem?_eq_some_iff.1 hg).1; injection e with e1
   rw [k.block g hl (hb g 0 e1)]; exact hg
namespace ScAt
variable {w0 w w' : World} {sb : Nat} {d : Hd} {s : Hp.Sc} {p1 p2 : Option Addr} {k1 k2 : Nat}
theorem lt1 (h : ScAt w0 w sb d s p1 k1 p2 k2) : sb < w.heap.size := cell_lt h.h0
theorem ext (h : ScAt w0 w sb d s p1 k1 p2 k2) (k : Ext w w') : ScAt w0 w' sb d s p1 k1 p2 k2 :=
 { h with
   toHAt := h.toHAt.ext k
   ext0 := h.ext0.trans k
   h0 := (k.cell h.lt1 0).trans h.h0
   h1 := (k.cell h.lt1 1).trans h.h1
   h2 := (k.cell h.lt1 2).trans h.h2
   fz := fun j => (k.frozen h.lt1 j).trans (h.fz j)
   r1 := h.r1.ext k
   r2 := h.r2.ext k }
theorem turn (h : ScAt w0 w sb d s p1 k1 p2 k2) {S' : Hp.Hs} {g cap : Nat} (k : But d.own w w') (h' : HAt w' { d with gw := g, cap := cap } S') (hg : g = d.gw ∨ w.heap.size ≤ g) : ScAt w0 w' sb { d with gw := g, cap := cap } { s with S := S' } p1 k1 p2 k2 := by
 have hl := h.lt1
 have hlt : ∀ b o, (p1 = some ⟨b, o, none⟩ → b < w.heap.size) ∧ (p2 = some ⟨b, o, none⟩ → b < w.heap.size) := fun b o => ⟨fun e => by
  rcases h.r1.1.2 with ⟨e', _⟩ | ⟨g', _, _, e', _, hg', _⟩
  · injection e' with e1
    rw [e] at e1
    cases e1
  · injection e' with e1
    rw [e] at e1
    cases e1
    exact (Array.getElem?_eq_some_iff.1 hg').1, fun e => by
  rcases h.r2.1.2 with ⟨e', _⟩ | ⟨g', _, _, e', _, hg', _⟩
  · injection e' with e1
    rw [e] at e1
    cases e1
  · injection e' with e1
    rw [e] at e1
    cases e1
    exact (Array.getElem?_eq_some_iff.1 hg').1⟩
 have own : ∀ b, b ∈ Hd.own { d with gw := g, cap := cap } → b ∈ d.own ∨ b = g := fun b hb => by
  simp only [Hd.own, List.mem_cons, List.not_mem_nil, or_false] at hb ⊢
  rcases hb with rfl | rfl | rfl
  · exact .inl (.inl rfl)
  · exact .inr rfl
  · exact .inl (.inr (.inr rfl))
 have fresh : ∀ b, b < w.heap.size → b ∉ d.own → b ∉ Hd.own { d with gw := g, cap := cap } := fun b hb hn hm => by
  rcases own b hm with h1 | rfl
  · exact hn h1
  · rcases hg with rfl | hg
    · exact hn d.gw_own
    · omega
 have e0 := h.ext0.le
 exact
 { toHAt := h'
   ext0 := But.toExt h.ext0 k h.own0
   h0 := (k.cell hl h.sbn 0).trans h.h0
   h1 := (k.cell hl h.sbn 1).trans h.h1
   h2 := (k.cell hl h.sbn 2).trans h.h2
   fz := fun j => (k.frozen hl h.sbn j).trans (h.fz j)
   r1 := h.r1.but_ k (fun b o e => (h.n1 b o e).2.1)
   r2 := h.r2.but_ k (fun b o e => (h.n2 b o e).2.1)
   sb0 := h.sb0
   own0 := fun b hb => by
    rcases own b hb with h1 | rfl
    · exact h.own0 b h1
    · rcases hg with rfl | hg
      · exact h.own0 _ d.gw_own
      · omega
   sbn := fresh _ hl h.sbn
   n1 := fun b o e => ⟨(h.n1 b o e).1, fresh _ ((hlt b o).1 e) (h.n1 b o e).2.1, (h.n1 b o e).2.2⟩
   n2 := fun b o e => ⟨(h.n2 b o e).1, fresh _ ((hlt b o).2 e) (h.n2 b o e).2.1, (h.n2 b o e).2.2⟩
   n12 := h.n12
   spn := h.spn
   opn := h.opn }
end ScAt
open Go.RowKit
theorem name_any {w0 w : World} {sb : Nat} {d : Hd} {s : Hp.Sc} {p1 p2 : Option Addr} {k1 k2 : Nat} {a : Int} (h : ScAt w0 w sb d s p1 k1 p2 k2) (hl : s.ats.length ≤ 1000000) (h1 : -9223372036854775808 ≤ a) (h2 : a ≤ 9223372036854775807) :
    Calls Tryz.prog 144 #[.pointer (some ⟨sb, 0, none⟩), .int .i64 a] w fun e w' => e = .returned (.int .i64 (Hp.nameOf s.ats a)) ∧ Ext w w' := by
  have c2 := h.h2; have z1 := h.lt1; have H := Lib.hid h; have le := h.r2.at_.le; have cap := h.r2.at_.cap; clear h; obtain ⟨n, hn⟩ : ∃ n, s.ats.length = n := ⟨_, rfl⟩
  rw [hn] at c2 hl le
  by_cases hin : 0 ≤ a ∧ a < n
  · obtain ⟨k, rfl⟩ : ∃ k : Nat, a = k := ⟨a.toNat, by omega⟩
    obtain ⟨x, hx⟩ := rd_get (l := s.ats) (j := k) (by rw [hn]; omega); have e : Hp.nameOf s.ats k = x := by
     unfold Hp.nameOf; rw [if_pos (by omega)]; unfold Hp.rd at hx; simp [hx]
    have hw : Hp.within 0 ((n : Int) - 1) k = true := by
     simp only [Hp.within, Bool.and_eq_true, decide_eq_true_eq]; omega
    obtain ⟨b, o, hp, hb, hc⟩ := H.out.r2.at_.cells (by rw [hn]; omega); have g := hc k x hx; have hkn : k < n := by omega
    rw [e]; clear hc hx e; subst hp; have wi : Calls Tryz.prog 105 #[.int .i64 0, .int .i64 ((n : Int) - 1), .int .i64 k] w fun e w' => e = .returned (.bool true) ∧ Ext w w' := hw ▸ within_any 0 ((n : Int) - 1) k w
    clear hw H hn; go_enter Tryz.func144, Tryz.ntmps144
    go_wp2_with (go_at_call 105; refine wi.mono ?_; rintro e w1 ⟨rfl, hb1⟩; have c2' := (hb1.cell z1 2).trans c2; have g' := (hb1.cell hb (o + k)).trans g)
    go_returns; exact ⟨rfl, hb1⟩
  · have e : Hp.nameOf s.ats a = 0 := by
      unfold Hp.nameOf
      split
      · rw [List.getD_eq_getElem?_getD, List.getElem?_eq_none (by omega)]; rfl
      · rfl
    have hw : Hp.within 0 ((n : Int) - 1) a = false := by
     rw [Bool.eq_false_iff]; intro hw; simp only [Hp.within, Bool.and_eq_true, decide_eq_true_eq] at hw; omega
    rw [e]; have wi : Calls Tryz.prog 105 #[.int .i64 0, .int .i64 ((n : Int) - 1), .int .i64 a] w fun e w' => e = .returned (.bool false) ∧ Ext w w' := hw ▸ within_any 0 ((n : Int) - 1) a w
    clear hw H hn e; go_enter Tryz.func144, Tryz.ntmps144
    go_wp2_with (go_at_call 105; refine wi.mono ?_; rintro e w1 ⟨rfl, hb1⟩)
    go_returns; exact ⟨rfl, hb1⟩
theorem sContains_any {w : World} {p : Option Addr} {c : Nat} {x : Int} {l : List Int} (h : SliceAt w p c l) :
    Calls Tryz.prog 175 #[.slice p l.length c, .int .i64 x] w fun e w' => e = .returned (.bool (l.contains x)) ∧ Ext w w' := by
  have e : l.contains x = decide (Hp.index l x ≥ 0) := by
   unfold Hp.index
   cases hf : l.findIdx? (· == x) with
   | none =>
    simp only; rw [List.findIdx?_eq_none_iff] at hf; have : ¬ x ∈ l := fun hm => by have := hf x hm; simp at this
    simp [this]
   | some i =>
    simp only; have hi := List.findIdx?_eq_some_iff_getElem.1 hf; obtain ⟨h1, h2, _⟩ := hi; have : x ∈ l := by
     have h3 : l[i] = x := by simpa using h2
     rw [← h3]; exact List.getElem_mem h1
    simp [this]
  rw [e]; obtain ⟨b, hb⟩ : ∃ b, decide (Hp.index l x ≥ 0) = b := ⟨_, rfl⟩
  have HB : decide ((0 : Int) ≤ Hp.index l x) = b := hb; rw [hb]; clear e hb; have H := Lib.hid h; clear h; generalize hix : Hp.index l x = ix at HB; have HI := Lib.hid hix; clear hix; go_enter Tryz.func175, Tryz.ntmps175
  go_wp2_with (go_at_call 169; refine (sIndex_any H.out).mono ?_; rintro e w1 ⟨rfl, hb1⟩; rw [HI.out])
  go_returns; exact ⟨rfl, hb1⟩
theorem nameOf_wf {L : List Int} (h : ∀ x ∈ L, -9223372036854775808 ≤ x ∧ x ≤ 9223372036854775807) (a : Int) : -9223372036854775808 ≤ Hp.nameOf L a ∧ Hp.nameOf L a ≤ 9223372036854775807 := by
 unfold Hp.nameOf
 split
 · rw [List.getD_eq_getElem?_getD]
   cases e : L[a.toNat]? with
   | none => simp
   | some x => simpa using h x (List.mem_of_getElem? e)
 · omega
def NamesPost (w : World) (ks : List Int) (e : Ending) (w' : World) : Prop := ∃ q c, e = .returned (.tuple #[.slice q ks.length c, .bool (!ks.contains 0)]) ∧ Row w' w.heap.size q c ks ∧ Ext w w'
theorem Ext.grown {w0 w w' : World} {row : Option Nat} (h : Ext w0 w) (k : w.grownBy w' row) (hr : ∀ r, row = some r → w0.heap.size ≤ r) : Ext w0 w' :=
 ⟨k.os.trans h.os, k.tape.trans h.tape, k.output.trans h.output, Nat.le_trans h.le k.size, fun i hi => (k.block i (Nat.lt_of_lt_of_le hi h.le) (fun e => by have := hr i e.symm; omega)).trans (h.block i hi)⟩
set_option maxRecDepth 100000 in
set_option maxHeartbeats 4000000 in
theorem names_any {w0 w : World} {sb : Nat} {d : Hd} {s : Hp.Sc} {p1 p2 p : Option Addr} {k1 k2 c : Nat} {l : List Int} (h : ScAt w0 w sb d s p1 k1 p2 k2) (hl : s.ats.length ≤ 1000000) (hs : SliceAt w p c l) (hll : l.length ≤ 1000) :
    Calls Tryz.prog 143 #[.pointer (some ⟨sb, 0, none⟩), .slice p l.length c] w (NamesPost w (l.map (Hp.nameOf s.ats))) := by
  have H := Lib.hid h; have HS := Lib.hid hs; have cap := hs.cap; have le := hs.le; clear h hs; go_enter Tryz.func143, Tryz.ntmps143
  go_wp2_with fail
  go_loopg [4, 10] l.length (fun g s4 i wr => ∃ (j : Nat) (q : Option Addr) (c' : Nat) (acc : List Int), j ≤ l.length ∧ l.length - j ≤ g ∧ i = .int .i64 j ∧ s4 = .slice q acc.length c' ∧ Hid (acc = (l.take j).map (Hp.nameOf s.ats)) ∧ Hid (Row wr w.heap.size q c' acc) ∧ Hid (Ext w wr))
  case atStart => exact ⟨0, none, 0, [], Nat.zero_le _, by omega, rfl, rfl, Lib.hid rfl, Lib.hid (Row.nil _ _), Lib.hid (Ext.refl _)⟩
  case round =>
   obtain ⟨j, q, c', acc, hj, hg, rfl, rfl, HA, R, E⟩ := hrel; have hal : acc.length ≤ 1000 := by
    rw [HA.out, List.length_map]; have := List.length_take_le j l; omega
   have zw := E.out.le
   by_cases hlt : j < l.length
   · obtain ⟨x, hx⟩ := rd_get (l := l) (j := j) hlt; obtain ⟨b, o, rfl, hb, hc⟩ := (HS.out.ext E.out).cells (by omega); have gx := hc j x hx; have bx := HS.out.wf x (List.mem_of_getElem? hx); have HX := Lib.hid hx; have ny := nameOf_wf H.out.r2.2 x; have tk : decide ((j : Int) < (l.length : Int)) = true := by simpa using (by omega : (j : Int) < (l.length : Int))
     have nm := name_any (H.out.ext E.out) hl bx.1 bx.2; obtain ⟨y, hy⟩ : ∃ y, Hp.nameOf s.ats x = y := ⟨_, rfl⟩
     rw [hy] at nm ny; have HY := Lib.hid hy; clear hx hc hy
     go_wp2_with (first
      | (go_at_call 144; refine nm.mono ?_; rintro e w1 ⟨rfl, hb1⟩; have RA := Lib.hid ((R.out.ext hb1).ext (Ext.alloc (Ext.refl _) (.cells #[.int .i64 y] 3))); have zl := hb1.le)
      | (at_builtin; refine wpList_append_int rfl _ _ rfl (y := y) rfl rfl RA.out (by go_simp) (by omega) (by omega) (by omega) (by simp; omega) ?_; intro g8 c8 x8 hR8 hG8))
     obtain ⟨row, hgr, hrow⟩ := id hG8
     go_roundg (l.length - (j + 1))
     case measure => omega
     case rel =>
      refine ⟨j + 1, _, c8, acc ++ [y], by omega, Nat.le_refl _, by go_num, by simp, Lib.hid ?_, Lib.hid hR8, Lib.hid (((E.out.trans hb1).alloc _).grown hgr hrow)⟩; rw [take_snocI HX.out, List.map_append, ← HA.out, List.map_singleton, HY.out]
   · have : j = l.length := by omega
     subst this; have ha := HA.out; rw [List.take_length] at ha; have HA2 := Lib.hid ha; clear ha; have RX := R.out.at_; have sc := sContains_any (x := 0) RX; obtain ⟨bb, hbb⟩ : ∃ bb, acc.contains 0 = bb := ⟨_, rfl⟩
     rw [hbb] at sc; have HBB := Lib.hid hbb; clear hbb RX
     go_wp2_with (go_at_call 175; refine sc.mono ?_; rintro e w1 ⟨rfl, hb1⟩)
     go_returns; rw [← HA2.out]; exact ⟨q, c', by rw [HBB.out]; rfl, R.out.ext hb1, E.out.trans hb1⟩
open Go.RowKit Go.Maps
theorem Row.set {w : World} {base c b j : Nat} {p : Option Addr} {l l' : List Int} {v : Int} (h : Row w base p c l) (hp : p = some ⟨b, 0, none⟩) (hw : Hp.wr l j v = some l') (h1 : -9223372036854775808 ≤ v) (h2 : v ≤ 9223372036854775807) :
    Row (w.setCell ⟨b, j, none⟩ (.int .i64 v)) base p c l' := by
  have hl := (HAt.wr_len hw).1; have hj := (HAt.wr_len hw).2; unfold Hp.wr at hw; rw [if_pos hj] at hw
  cases hw
  refine ⟨⟨by simp [ints], ?_⟩, fun x hx => ?_⟩
  · rcases h.1.2 with ⟨e, _⟩ | ⟨g, cap, cur, e, hb, hg, r1, r2, r3, r4⟩
    · injection e with e1
      rw [hp] at e1
      cases e1
    · injection e with e1 e2 e3
      rw [hp] at e1
      cases e1
      subst e3; refine .inr ⟨b, c, cur.setIfInBounds j (.int .i64 v), by rw [hp, hl], hb, ?_, by rw [hl]; exact r1, r2, by simpa using r3, ?_⟩
      · rw [setCell_eq_setRow w b j cur _ _ _ hg, setRow_heap w b _ _ _ _ hg]
      · rw [hl]; simp only [Array.toList_setIfInBounds, ints, List.map_set, List.take_set]; rw [r4]; rfl
  · rcases List.mem_or_eq_of_mem_set hx with hx | rfl
    · exact h.2 x hx
    · exact ⟨h1, h2⟩
theorem Row.ptr {w : World} {base c : Nat} {p : Option Addr} {l : List Int} (h : Row w base p c l) (h0 : 0 < l.length) : ∃ b, p = some ⟨b, 0, none⟩ ∧ b < w.heap.size := by
 rcases h.1.2 with ⟨e, hz⟩ | ⟨g, cap, cur, e, hb, hg, _⟩
 · omega
 · injection e with e1
   exact ⟨g, e1, (Array.getElem?_eq_some_iff.1 hg).1⟩
theorem ScAt.setAt {w0 w : World} {sb : Nat} {d : Hd} {s : Hp.Sc} {p1 p2 : Option Addr} {k1 k2 b j : Nat} {v : Int} {l' : List Int} (h : ScAt w0 w sb d s p1 k1 p2 k2) (hp : p2 = some ⟨b, 0, none⟩) (hw : Hp.wr s.ats j v = some l') (h1 : -9223372036854775808 ≤ v) (h2 : v ≤ 9223372036854775807) :
    ScAt w0 (w.setCell ⟨b, j, none⟩ (.int .i64 v)) sb d { s with ats := l' } p1 k1 p2 k2 := by
  have n := h.n2 b 0 hp; have k : But [b] w (w.setCell ⟨b, j, none⟩ (.int .i64 v)) := (But.refl _ _).setCell (.inl (by simp)) _; have o : ∀ x ∈ d.own, x ∉ [b] := fun x hx hm => by
   have : x = b := by simpa using hm
   subst this; exact n.2.1 hx
  have hl := (HAt.wr_len hw).1; have sbn : sb ∉ [b] := by simp; exact fun e => n.2.2 e.symm
  exact
  { toHAt := h.toHAt.but k (o _ d.hb_own) (o _ d.gw_own) (o _ d.gm_own) (fun b' o' e hm => by
      have : b' = b := by simpa using hm
      subst this; exact (h.spn b' o' e).2.2 0 hp) (fun b' o' e hm => by
      have : b' = b := by simpa using hm
      subst this; exact (h.opn b' o' e).2.2 0 hp)
    ext0 := But.toExt h.ext0 k (fun x hx => by
     have : x = b := by simpa using hx
     subst this; exact n.1)
    h0 := (k.cell h.lt1 sbn 0).trans h.h0
    h1 := (k.cell h.lt1 sbn 1).trans h.h1
    h2 := by rw [k.cell h.lt1 sbn 2, h.h2, hl]
    fz := fun j => (k.frozen h.lt1 sbn j).trans (h.fz j)
    r1 := h.r1.but_ k (fun b' o' e hm => by
     have : b' = b := by simpa using hm
     subst this; exact h.n12 b' o' b' 0 e hp rfl)
    r2 := h.r2.set hp hw h1 h2
    sb0 := h.sb0
    own0 := h.own0
    sbn := h.sbn
    n1 := h.n1
    n2 := h.n2
    n12 := h.n12
    spn := h.spn
    opn := h.opn }
theorem ScAt.cut {w0 W : World} {sb : Nat} {d : Hd} {s : Hp.Sc} {p1 p2 : Option Addr} {k1 k2 : Nat} {P : Program} {cd : Code} {Q : Exit → Act → World → Prop} {a : Act} (h : ScAt w0 W sb d s p1 k1 p2 k2) (k : ∀ w', ScAt w0 w' sb d s p1 k1 p2 k2 → cd.wp P Q a w') : cd.wp P Q a W := k W h
def mapTo (f : Int → Int) (l : List Int) (j : Nat) : List Int := (l.take j).map f ++ l.drop j
theorem mapTo_len (f : Int → Int) (l : List Int) (j : Nat) : (mapTo f l j).length = l.length := by simp [mapTo]; omega
theorem mapTo_rd {f : Int → Int} {l : List Int} {j : Nat} (hj : j < l.length) : Hp.rd (mapTo f l j) j = Hp.rd l j := by
 unfold Hp.rd mapTo
 rw [List.getElem?_append_right (by simp; omega)]
 simp
 congr 1
 omega
theorem mapTo_step {f : Int → Int} {l : List Int} {j : Nat} {x : Int} (hx : Hp.rd l j = some x) : Hp.wr (mapTo f l j) j (f x) = some (mapTo f l (j + 1)) := by
 have hj := rd_lt hx
 unfold Hp.wr
 rw [if_pos (by rw [mapTo_len]; exact hj)]
 congr 1
 apply List.ext_getElem?
 intro i
 rw [List.getElem?_set]
 unfold mapTo
 unfold Hp.rd at hx
 by_cases h : j = i
 · subst h; rw [if_pos rfl, if_pos (by simp; omega)]; rw [List.getElem?_append_left (by simp; omega), List.getElem?_map, List.getElem?_take, if_pos (by omega), hx]; rfl
 · rw [if_neg h]
   by_cases h2 : i < j
   · rw [List.getElem?_append_left (by simp; omega), List.getElem?_append_left (by simp; omega), List.getElem?_map, List.getElem?_map, List.getElem?_take, List.getElem?_take, if_pos h2, if_pos (by omega)]
   · rw [List.getElem?_append_right (by simp; omega), List.getElem?_append_right (by simp; omega), List.getElem?_drop, List.getElem?_drop]
     congr 1
     simp; omega
theorem mapTo_same {f : Int → Int} {l : List Int} {j : Nat} {x : Int} (hx : Hp.rd l j = some x) (e : f x = x) : mapTo f l (j + 1) = mapTo f l j := by
 have h := mapTo_step (f := f) hx
 rw [e] at h
 have hj := rd_lt hx
 unfold Hp.wr at h
 rw [if_pos (by rw [mapTo_len]; exact hj)] at h
 have h := Option.some.inj h
 rw [← h]
 have h3 : (mapTo f l j)[j]? = some x := by
  have := mapTo_rd (f := f) hj; unfold Hp.rd at this; rw [this]; exact hx
 obtain ⟨h4, h5⟩ := List.getElem?_eq_some_iff.1 h3
 rw [← h5, List.set_getElem_self]
theorem mapTo_all (f : Int → Int) (l : List Int) : mapTo f l l.length = l.map f := by simp [mapTo]
theorem mapTo_zero (f : Int → Int) (l : List Int) : mapTo f l 0 = l := by simp [mapTo]
set_option maxRecDepth 100000 in
set_option maxHeartbeats 4000000 in
theorem forget_any {w0 w : World} {sb : Nat} {d : Hd} {s : Hp.Sc} {p1 p2 : Option Addr} {k1 k2 : Nat} (h : ScAt w0 w sb d s p1 k1 p2 k2) (hl : s.ats.length ≤ 1000000) :
    Calls Tryz.prog 145 #[.pointer (some ⟨sb, 0, none⟩)] w fun e w' => e = .returned (.tuple #[]) ∧ ScAt w0 w' sb d s.forget p1 k1 p2 k2 := by
  have c2 := h.h2; have H := Lib.hid (show ScAt w0 w sb d { s with ats := mapTo (fun a => if s.S.has a then a else 0) s.ats 0 } p1 k1 p2 k2 by rw [mapTo_zero]; exact h); have R2 := Lib.hid h.r2; have le := h.r2.at_.le; have cap := h.r2.at_.cap; clear h; obtain ⟨n, hn⟩ : ∃ n, s.ats.length = n := ⟨_, rfl⟩
  have HN := Lib.hid hn; rw [hn] at c2 hl le; clear hn; go_enter Tryz.func145, Tryz.ntmps145
  go_wp2_with fail
  go_loopg [9] n (fun g i wr => ∃ j : Nat, j ≤ n ∧ n - j ≤ g ∧ i = .int .i64 j ∧ Hid (ScAt w0 wr sb d { s with ats := mapTo (fun a => if s.S.has a then a else 0) s.ats j } p1 k1 p2 k2))
  case atStart => exact ⟨0, Nat.zero_le _, by omega, rfl, H⟩
  case round =>
   obtain ⟨j, hj, hg, rfl, N⟩ := hrel; clear H
   by_cases hlt : j < n
   · obtain ⟨x, hx⟩ := rd_get (l := s.ats) (j := j) (by rw [HN.out]; exact hlt); have hr : Hp.rd (mapTo (fun a => if s.S.has a then a else 0) s.ats j) j = some x := (mapTo_rd (by rw [HN.out]; exact hlt)).trans hx; obtain ⟨b, hp, hb⟩ := N.out.r2.ptr (by simp only [mapTo_len]; rw [HN.out]; omega); obtain ⟨b', o', hp', hb', hc⟩ := N.out.r2.at_.cells (by simp only [mapTo_len]; rw [HN.out]; omega); rw [hp] at hp'
     cases hp'
     have gx := hc j x hr; rw [Nat.zero_add] at gx; have bx := R2.out.2 x (List.mem_of_getElem? hx); have h0 := N.out.h0; have h2 := N.out.h2; simp only [mapTo_len] at h2; rw [HN.out] at h2; have c3 := N.out.c3; have HX := Lib.hid hx; have fb : wr.frozen? ⟨b, j, none⟩ = false := by
      rcases N.out.r2.1.2 with ⟨e, _⟩ | ⟨g, cap', cur, e, _, hgb, _⟩
      · injection e with e1
        rw [hp] at e1
        cases e1
      · injection e with e1
        rw [hp] at e1
        cases e1
        simp [World.frozen?, hgb]
     have tk : decide ((j : Int) < (n : Int)) = true := by simpa using (by omega : (j : Int) < (n : Int))
     obtain ⟨bh, hbh⟩ : ∃ bh, s.S.has x = bh := ⟨_, rfl⟩
     have hlk := run_look N.out.toHAt hbh bx.1 bx.2; have HB := Lib.hid hbh; clear hx hr hc hbh; subst hp
     cases bh with
     | true =>
      go_wp2_with fail
      go_roundg (n - (j + 1))
      case measure => omega
      case rel => exact ⟨j + 1, by omega, Nat.le_refl _, by go_num, Lib.hid (by rw [mapTo_same HX.out (by simp [HB.out])]; exact N.out)⟩
     | false =>
      have N1 := Lib.hid (N.out.setAt rfl (mapTo_step HX.out) (by simp only [HB.out]; simp) (by simp only [HB.out]; simp)); simp only [HB.out, Bool.false_eq_true, if_false] at N1
      go_wp2_with fail
      go_roundg (n - (j + 1))
      case measure => omega
      case rel => exact ⟨j + 1, by omega, Nat.le_refl _, by go_num, N1⟩
   · have : j = n := by omega
     subst this
     go_wp2_with fail
     go_returns; refine ⟨rfl, ?_⟩; have := N.out; rw [← HN.out, mapTo_all] at this; exact this
section
variable {P : Program} {ops : Array Oper} {Q : Exit → Act → World → Prop} {md : Region.Mode} {S : World → Prop} {n G : Nat}
theorem wpAnyX_fork {f : Nat} {listed : Array Bool} {a : Act} {w : World} (is : List Nat) (hr : Region.ready md ops listed = is) (h0 : is ≠ []) (hn : ∀ i ∈ is, i < n)
    (h : ∀ i ∈ is, wpOp P ops Q i (fun a' w'' => S w'' ∧ wpAnyX P md ops Q S Eq n G f (listed.setIfInBounds i true) a' w'') a w) : wpAnyX P md ops Q S Eq n G (f + 1) listed a w := by
  intro w' e _; subst e; subst hr; exact ⟨h0, fun i hi => ⟨hn i hi, h i hi⟩⟩
theorem wpOp_value {i : Nat} {oi : Oper} {v : Value} {K : Act → World → Prop} {a : Act} {w w'' : World} (hi : ops[i]? = some oi) (hw : Region.wanted oi (yielded ops a.tmps) = true)
    (hrun : (execOp a.eval oi).run P w = .ok (.value v) w'') (hk : K (a.put oi.dst v) w'') : wpOp P ops Q i K a w := by
  unfold wpOp; simp only [hi]; rw [if_pos hw]; refine .inl ?_; unfold Oper.wp; rw [hrun]; exact hk
end
theorem row_own {w : World} {base c : Nat} {p : Option Addr} {l : List Int} (hrow : Row w base p c l) : ∀ r, (Value.slice p l.length c).ownBlock = some r → p = some ⟨r, 0, none⟩ := fun r hr => by
 cases p with
 | none => simp [Value.ownBlock] at hr
 | some q =>
  have hr' : q.block = r := by simpa [Value.ownBlock] using hr
  subst hr'
  rcases hrow.1.2 with ⟨e, _⟩ | ⟨g', cap', cur, e, h1, _⟩
  · injection e with e1
    cases e1
  · injection e with e1
    rw [Option.some.inj e1]
theorem wpOp_append {ops : Array Oper} {Q : Exit → Act → World → Prop} {i : Nat} {o : Oper} {K : Act → World → Prop} {a : Act} {w : World} (s x : Operand) (hi : ops[i]? = some o)
    (ho : o.op = .call { callee := .builtin .append, args := #[s, x], argTypes := #[22, 22] }) (hw : Region.wanted o (yielded ops a.tmps) = true) {c b : Nat} {p : Option Addr} {l : List Int} {y : Int} (hs : a.eval s = .slice p l.length c) (hx : a.eval x = .slice (some ⟨b, 0, none⟩) 1 1)
    (hrow : Row w 0 p c l) (hy : w.cell? ⟨b, 0, none⟩ = some (.int .i64 y)) (hy1 : -9223372036854775808 ≤ y) (hy2 : y ≤ 9223372036854775807) (hlen : l.length < 10000000)
    (h : ∀ g cap w' row, Row w' 0 (some ⟨g, 0, none⟩) cap (l ++ [y]) → w.grownBy w' row → (∀ r, row = some r → p = some ⟨r, 0, none⟩) → (p = some ⟨g, 0, none⟩ ∨ g = w.heap.size) → g < w'.heap.size → K (a.put o.dst (.slice (some ⟨g, 0, none⟩) (l.length + 1) cap)) w') : wpOp Tryz.prog ops Q i K a w := by
  unfold wpOp; simp only [hi]; rw [if_pos hw]; refine .inl ?_; obtain ⟨i0, hi0, hz0, hz1, hz2⟩ := info_parts (show (Tryz.prog.info? 3).map (fun i => (i.zero, i.size, i.bytes)) = some (some (.int .i64 0), 1, 8) from by kernel_rfl); refine wp_append_lies w s x 22 ho 0 3 i0 (.int .i64 0) 1 8 Tryz.underlying22 hi0 hz0 hz1 hz2 rfl (by decide) _ _ _ hs hrow.1 ⟨b, 0, none⟩ 1 1 [.int .i64 y] hx (by simp) (fun j u hj => ?_) (by simp [Value.oneCell']) (by omega) (by unfold maxLen; omega) (by omega) (Nat.zero_le _) _ rfl ?_
  · cases j with
    | zero =>
     simp at hj; subst hj; rw [Addr.add_lit]; exact hy
    | succ j => simp at hj
  · intro g cap w' hown hgrow hor hlt; have own := row_own hrow; refine h g cap w' _ ⟨by simpa [ints] using hown, fun z hz => ?_⟩ hgrow own (hor.imp (own g) id) hlt
    rcases List.mem_append.1 hz with hz | hz
    · exact hrow.2 z hz
    · have : z = y := by simpa using hz
      subst this; exact ⟨hy1, hy2⟩
structure ScB (w0 w : World) (sb : Nat) (d : Hd) (S : Hp.Hs) (v1 v2 : Value) (p1 : Option Addr) (k1 : Nat) (res : List Int) (p2 : Option Addr) (k2 : Nat) (ats : List Int) : Prop extends HAt w d S where
 ext0 : Ext w0 w
 h0 : w.cell? ⟨sb, 0, none⟩ = some (.pointer (some ⟨d.hb, 0, none⟩))
 h1 : w.cell? ⟨sb, 1, none⟩ = some v1
 h2 : w.cell? ⟨sb, 2, none⟩ = some v2
 fz : ∀ k, w.frozen? ⟨sb, k, none⟩ = false
 r1 : Row w 0 p1 k1 res
 r2 : Row w 0 p2 k2 ats
 sb0 : w0.heap.size ≤ sb
 own0 : ∀ b ∈ d.own, w0.heap.size ≤ b
 sbn : sb ∉ d.own
 n1 : ∀ b o, p1 = some ⟨b, o, none⟩ → w0.heap.size ≤ b ∧ b ∉ d.own ∧ b ≠ sb
 n2 : ∀ b o, p2 = some ⟨b, o, none⟩ → w0.heap.size ≤ b ∧ b ∉ d.own ∧ b ≠ sb
 n12 : ∀ b o b' o', p1 = some ⟨b, o, none⟩ → p2 = some ⟨b', o', none⟩ → b ≠ b'
 spn : ∀ b o, d.sp = some ⟨b, o, none⟩ → b ≠ sb ∧ (∀ o', p1 ≠ some ⟨b, o', none⟩) ∧ ∀ o', p2 ≠ some ⟨b, o', none⟩
 opn : ∀ b o, d.op = some ⟨b, o, none⟩ → b ≠ sb ∧ (∀ o', p1 ≠ some ⟨b, o', none⟩) ∧ ∀ o', p2 ≠ some ⟨b, o', none⟩
theorem ScAt.toB {w0 w : World} {sb : Nat} {d : Hd} {s : Hp.Sc} {p1 p2 : Option Addr} {k1 k2 : Nat} (h : ScAt w0 w sb d s p1 k1 p2 k2) : ScB w0 w sb d s.S (.slice p1 s.res.length k1) (.slice p2 s.ats.length k2) p1 k1 s.res p2 k2 s.ats :=
 { toHAt := h.toHAt, ext0 := h.ext0, h0 := h.h0, h1 := h.h1, h2 := h.h2, fz := h.fz, r1 := h.r1, r2 := h.r2, sb0 := h.sb0, own0 := h.own0, sbn := h.sbn, n1 := h.n1, n2 := h.n2, n12 := h.n12, spn := h.spn, opn := h.opn }
namespace ScB
variable {w0 w w' : World} {sb : Nat} {d : Hd} {S : Hp.Hs} {v1 v2 : Value} {p1 p2 : Option Addr} {k1 k2 : Nat} {res ats : List Int}
theorem lt1 (h : ScB w0 w sb d S v1 v2 p1 k1 res p2 k2 ats) : sb < w.heap.size := cell_lt h.h0
theorem ext (h : ScB w0 w sb d S v1 v2 p1 k1 res p2 k2 ats) (k : Ext w w') : ScB w0 w' sb d S v1 v2 p1 k1 res p2 k2 ats :=
 { h with
   toHAt := h.toHAt.ext k
   ext0 := h.ext0.trans k
   h0 := (k.cell h.lt1 0).trans h.h0
   h1 := (k.cell h.lt1 1).trans h.h1
   h2 := (k.cell h.lt1 2).trans h.h2
   fz := fun j => (k.frozen h.lt1 j).trans (h.fz j)
   r1 := h.r1.ext k
   r2 := h.r2.ext k }
theorem rlt {c : Nat} {p : Option Addr} {l : List Int} (h : Row w 0 p c l) {b o : Nat} (e : p = some ⟨b, o, none⟩) : b < w.heap.size := by
 rcases h.1.2 with ⟨e', _⟩ | ⟨g', _, _, e', _, hg', _⟩
 · injection e' with e1
   rw [e] at e1
   cases e1
 · injection e' with e1
   rw [e] at e1
   cases e1
   exact (Array.getElem?_eq_some_iff.1 hg').1
theorem grow1 (h : ScB w0 w sb d S v1 v2 p1 k1 res p2 k2 ats) {g cap : Nat} {row : Option Nat} {res' : List Int} (hR : Row w' 0 (some ⟨g, 0, none⟩) cap res') (hG : w.grownBy w' row) (hrow : ∀ r, row = some r → p1 = some ⟨r, 0, none⟩) (hg : p1 = some ⟨g, 0, none⟩ ∨ g = w.heap.size) :
    ScB w0 w' sb d S v1 v2 (some ⟨g, 0, none⟩) cap res' p2 k2 ats := by
  have kb : But row.toList w w' := ⟨hG.os, hG.tape, hG.output, hG.size, fun i hi hn => hG.block i hi (fun e => hn (by rw [← e]; simp))⟩
  have far : ∀ b, (∀ r, p1 = some ⟨r, 0, none⟩ → b ≠ r) → b ∉ row.toList := fun b hb hm => by
   have e : row = some b := by simpa using hm
   exact hb b (hrow b e) rfl
  have own : ∀ b ∈ d.own, b ∉ row.toList := fun b hb => far b fun r e er => (h.n1 r 0 e).2.1 (er ▸ hb)
  have sbf : sb ∉ row.toList := far sb fun r e er => (h.n1 r 0 e).2.2 er.symm
  have e0 := h.ext0.le; have l1 := h.lt1; have og := h.toHAt.own_lt; have new : w0.heap.size ≤ g ∧ g ∉ d.own ∧ g ≠ sb := by
   rcases hg with e | rfl
   · exact h.n1 g 0 e
   · exact ⟨e0, fun hm => by have := og _ hm; omega, by omega⟩
  exact
  { toHAt := h.toHAt.but kb (own _ d.hb_own) (own _ d.gw_own) (own _ d.gm_own) (fun b o e => far b fun r er e2 => (h.spn b o e).2.1 0 (e2 ▸ er)) (fun b o e => far b fun r er e2 => (h.opn b o e).2.1 0 (e2 ▸ er))
    ext0 := h.ext0.grown hG (fun r e => (h.n1 r 0 (hrow r e)).1)
    h0 := (kb.cell l1 sbf 0).trans h.h0
    h1 := (kb.cell l1 sbf 1).trans h.h1
    h2 := (kb.cell l1 sbf 2).trans h.h2
    fz := fun j => (kb.frozen l1 sbf j).trans (h.fz j)
    r1 := hR
    r2 := h.r2.but_ kb (fun b o e => far b fun r er e2 => h.n12 r 0 b o er e e2.symm)
    sb0 := h.sb0
    own0 := h.own0
    sbn := h.sbn
    n1 := fun b o e => by cases e; exact new
    n2 := h.n2
    n12 := fun b o b' o' e e' => by
     cases e
     rcases hg with hg | rfl
     · exact h.n12 g 0 b' o' hg e'
     · have := rlt h.r2 e'; omega
    spn := fun b o e => ⟨(h.spn b o e).1, fun o' e' => by
     cases e'
     rcases hg with hg | rfl
     · exact (h.spn g o e).2.1 0 hg
     · have := h.old1 _ o e; omega, (h.spn b o e).2.2⟩
    opn := fun b o e => ⟨(h.opn b o e).1, fun o' e' => by
     cases e'
     rcases hg with hg | rfl
     · exact (h.opn g o e).2.1 0 hg
     · have := h.old2 _ o e; omega, (h.opn b o e).2.2⟩ }
theorem grow2 (h : ScB w0 w sb d S v1 v2 p1 k1 res p2 k2 ats) {g cap : Nat} {row : Option Nat} {ats' : List Int} (hR : Row w' 0 (some ⟨g, 0, none⟩) cap ats') (hG : w.grownBy w' row) (hrow : ∀ r, row = some r → p2 = some ⟨r, 0, none⟩) (hg : p2 = some ⟨g, 0, none⟩ ∨ g = w.heap.size) :
    ScB w0 w' sb d S v1 v2 p1 k1 res (some ⟨g, 0, none⟩) cap ats' := by
  have kb : But row.toList w w' := ⟨hG.os, hG.tape, hG.output, hG.size, fun i hi hn => hG.block i hi (fun e => hn (by rw [← e]; simp))⟩
  have far : ∀ b, (∀ r, p2 = some ⟨r, 0, none⟩ → b ≠ r) → b ∉ row.toList := fun b hb hm => by
   have e : row = some b := by simpa using hm
   exact hb b (hrow b e) rfl
  have own : ∀ b ∈ d.own, b ∉ row.toList := fun b hb => far b fun r e er => (h.n2 r 0 e).2.1 (er ▸ hb)
  have sbf : sb ∉ row.toList := far sb fun r e er => (h.n2 r 0 e).2.2 er.symm
  have e0 := h.ext0.le; have l1 := h.lt1; have og := h.toHAt.own_lt; have new : w0.heap.size ≤ g ∧ g ∉ d.own ∧ g ≠ sb := by
   rcases hg with e | rfl
   · exact h.n2 g 0 e
   · exact ⟨e0, fun hm => by have := og _ hm; omega, by omega⟩
  exact
  { toHAt := h.toHAt.but kb (own _ d.hb_own) (own _ d.gw_own) (own _ d.gm_own) (fun b o e => far b fun r er e2 => (h.spn b o e).2.2 0 (e2 ▸ er)) (fun b o e => far b fun r er e2 => (h.opn b o e).2.2 0 (e2 ▸ er))
    ext0 := h.ext0.grown hG (fun r e => (h.n2 r 0 (hrow r e)).1)
    h0 := (kb.cell l1 sbf 0).trans h.h0
    h1 := (kb.cell l1 sbf 1).trans h.h1
    h2 := (kb.cell l1 sbf 2).trans h.h2
    fz := fun j => (kb.frozen l1 sbf j).trans (h.fz j)
    r1 := h.r1.but_ kb (fun b o e => far b fun r er e2 => h.n12 b o r 0 e er e2)
    r2 := hR
    sb0 := h.sb0
    own0 := h.own0
    sbn := h.sbn
    n1 := h.n1
    n2 := fun b o e => by cases e; exact new
    n12 := fun b o b' o' e e' => by
     cases e'
     rcases hg with hg | rfl
     · exact h.n12 b o g 0 e hg
     · have := rlt h.r1 e; omega
    spn := fun b o e => ⟨(h.spn b o e).1, (h.spn b o e).2.1, fun o' e' => by
     cases e'
     rcases hg with hg | rfl
     · exact (h.spn g o e).2.2 0 hg
     · have := h.old1 _ o e; omega⟩
    opn := fun b o e => ⟨(h.opn b o e).1, (h.opn b o e).2.1, fun o' e' => by
     cases e'
     rcases hg with hg | rfl
     · exact (h.opn g o e).2.2 0 hg
     · have := h.old2 _ o e; omega⟩ }
theorem stored (h : ScB w0 w sb d S v1 v2 p1 k1 res p2 k2 ats) : ScAt w0 ((w.setCell ⟨sb, 1, none⟩ (.slice p1 res.length k1)).setCell ⟨sb, 2, none⟩ (.slice p2 ats.length k2)) sb d ⟨S, res, ats⟩ p1 k1 p2 k2 := by
 have k : But [sb] w ((w.setCell ⟨sb, 1, none⟩ (.slice p1 res.length k1)).setCell ⟨sb, 2, none⟩ (.slice p2 ats.length k2)) := ((But.refl _ _).setCell (.inl (by simp)) _).setCell (.inl (by simp)) _
 have o : ∀ x ∈ d.own, x ∉ [sb] := fun x hx hm => by
  have : x = sb := by simpa using hm
  subst this; exact h.sbn hx
 exact
 { toHAt := h.toHAt.but k (o _ d.hb_own) (o _ d.gw_own) (o _ d.gm_own) (fun b o e hm => (h.spn b o e).1 (by simpa using hm)) (fun b o e hm => (h.opn b o e).1 (by simpa using hm))
   ext0 := Ext.setCell (Ext.setCell h.ext0 h.sb0 _) h.sb0 _
   h0 := by simpa [go_sem] using h.h0
   h1 := by
    have := World.cell?_setCell_same (w := w) ⟨sb, 1, none⟩ (.slice p1 res.length k1) h.h1
    simpa [go_sem] using this
   h2 := World.cell?_setCell_same _ _ _ (by simpa [go_sem] using h.h2)
   fz := fun j => by simpa [go_sem] using h.fz j
   r1 := h.r1.but_ k (fun b o e hm => (h.n1 b o e).2.2 (by simpa using hm))
   r2 := h.r2.but_ k (fun b o e hm => (h.n2 b o e).2.2 (by simpa using hm))
   sb0 := h.sb0
   own0 := h.own0
   sbn := h.sbn
   n1 := h.n1
   n2 := h.n2
   n12 := h.n12
   spn := h.spn
   opn := h.opn }
end ScB
end Go.Proofs.YtdokmmhjmclmnaaGreat
