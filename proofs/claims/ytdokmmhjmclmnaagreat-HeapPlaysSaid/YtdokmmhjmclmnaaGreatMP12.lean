/-
  Part 12 of a proof: HLoadM HFn46 HFn47 HFn48.
-/
import Derived.BigQuiet
import Derived.Test.YtdokmmhjmclmnaaGreatMP03
import Derived.Test.YtdokmmhjmclmnaaGreatMP07
import Derived.Test.YtdokmmhjmclmnaaGreatMP10
import Derived.Test.YtdokmmhjmclmnaaGreatMP11
set_option linter.unusedSimpArgs false
set_option linter.unusedVariables false
set_option linter.unusedSectionVars false
set_option linter.unnecessarySimpa false
namespace Go.Proofs.YtdokmmhjmclmnaaGreat
open Go.RowKit
structure LdAt (w0 w : World) (lb : Nat) (d : Hd) (S : Hp.Hs) (v : Value) (p : Option Addr) (k : Nat) (G : List Int) : Prop extends HAt w d S where
 ext0 : Ext w0 w
 h0 : w.cell? ⟨lb, 0, none⟩ = some (.pointer (some ⟨d.hb, 0, none⟩))
 h1 : w.cell? ⟨lb, 1, none⟩ = some v
 fz : ∀ k, w.frozen? ⟨lb, k, none⟩ = false
 r : Row w 0 p k G
 lb0 : w0.heap.size ≤ lb
 own0 : ∀ b ∈ d.own, w0.heap.size ≤ b
 lbn : lb ∉ d.own
 n : ∀ b o, p = some ⟨b, o, none⟩ → w0.heap.size ≤ b ∧ b ∉ d.own ∧ b ≠ lb
 spn : ∀ b o, d.sp = some ⟨b, o, none⟩ → b ≠ lb ∧ ∀ o', p ≠ some ⟨b, o', none⟩
 opn : ∀ b o, d.op = some ⟨b, o, none⟩ → b ≠ lb ∧ ∀ o', p ≠ some ⟨b, o', none⟩
namespace LdAt
variable {w0 w w' : World} {lb : Nat} {d : Hd} {S : Hp.Hs} {v : Value} {p : Option Addr} {k : Nat} {G : List Int}
theorem lt1 (h : LdAt w0 w lb d S v p k G) : lb < w.heap.size := cell_lt h.h0
theorem ext (h : LdAt w0 w lb d S v p k G) (e : Ext w w') : LdAt w0 w' lb d S v p k G :=
 { h with
   toHAt := h.toHAt.ext e
   ext0 := h.ext0.trans e
   h0 := (e.cell h.lt1 0).trans h.h0
   h1 := (e.cell h.lt1 1).trans h.h1
   fz := fun j => (e.frozen h.lt1 j).trans (h.fz j)
   r := h.r.ext e }
theorem turn (h : LdAt w0 w lb d S v p k G) {S' : Hp.Hs} (e : But d.own w w') (h' : HAt w' d S') : LdAt w0 w' lb d S' v p k G :=
 { toHAt := h'
   ext0 := But.toExt h.ext0 e h.own0
   h0 := (e.cell h.lt1 h.lbn 0).trans h.h0
   h1 := (e.cell h.lt1 h.lbn 1).trans h.h1
   fz := fun j => (e.frozen h.lt1 h.lbn j).trans (h.fz j)
   r := h.r.but_ e (fun b o q => (h.n b o q).2.1)
   lb0 := h.lb0
   own0 := h.own0
   lbn := h.lbn
   n := h.n
   spn := h.spn
   opn := h.opn }
theorem mapped (h : LdAt w0 w lb d S v p k G) {T : List Nat} (e : w.mapTurned w' d.gm) (hm : MapAt Tryz.prog w' d.gm T) (hb : ∀ a ∈ T, a < S.words.length) : LdAt w0 w' lb d { S with taken := T } v p k G :=
 h.turn ((But.refl _ _).turned e (.inl d.gm_own)) (h.toHAt.mapped e hm hb)
theorem grow (h : LdAt w0 w lb d S v p k G) {g cap : Nat} {row : Option Nat} {G' : List Int} (hR : Row w' 0 (some ⟨g, 0, none⟩) cap G') (hG : w.grownBy w' row) (hrow : ∀ r, row = some r → p = some ⟨r, 0, none⟩) (hg : p = some ⟨g, 0, none⟩ ∨ g = w.heap.size) :
    LdAt w0 w' lb d S v (some ⟨g, 0, none⟩) cap G' := by
  have kb : But row.toList w w' := ⟨hG.os, hG.tape, hG.output, hG.size, fun i hi hn => hG.block i hi (fun e => hn (by rw [← e]; simp))⟩
  have far : ∀ b, (∀ r, p = some ⟨r, 0, none⟩ → b ≠ r) → b ∉ row.toList := fun b hb hm => by
   have e : row = some b := by simpa using hm
   exact hb b (hrow b e) rfl
  have own : ∀ b ∈ d.own, b ∉ row.toList := fun b hb => far b fun r e er => (h.n r 0 e).2.1 (er ▸ hb)
  have sbf : lb ∉ row.toList := far lb fun r e er => (h.n r 0 e).2.2 er.symm
  have e0 := h.ext0.le; have l1 := h.lt1; have og := h.toHAt.own_lt; have new : w0.heap.size ≤ g ∧ g ∉ d.own ∧ g ≠ lb := by
   rcases hg with e | rfl
   · exact h.n g 0 e
   · exact ⟨e0, fun hm => by have := og _ hm; omega, by omega⟩
  exact
  { toHAt := h.toHAt.but kb (own _ d.hb_own) (own _ d.gw_own) (own _ d.gm_own) (fun b o e => far b fun r er e2 => (h.spn b o e).2 0 (e2 ▸ er)) (fun b o e => far b fun r er e2 => (h.opn b o e).2 0 (e2 ▸ er))
    ext0 := h.ext0.grown hG (fun r e => (h.n r 0 (hrow r e)).1)
    h0 := (kb.cell l1 sbf 0).trans h.h0
    h1 := (kb.cell l1 sbf 1).trans h.h1
    fz := fun j => (kb.frozen l1 sbf j).trans (h.fz j)
    r := hR
    lb0 := h.lb0
    own0 := h.own0
    lbn := h.lbn
    n := fun b o e => by cases e; exact new
    spn := fun b o e => ⟨(h.spn b o e).1, fun o' e' => by
     cases e'
     rcases hg with hg | rfl
     · exact (h.spn g o e).2 0 hg
     · have := h.old1 _ o e; omega⟩
    opn := fun b o e => ⟨(h.opn b o e).1, fun o' e' => by
     cases e'
     rcases hg with hg | rfl
     · exact (h.opn g o e).2 0 hg
     · have := h.old2 _ o e; omega⟩ }
theorem stored (h : LdAt w0 w lb d S v p k G) : LdAt w0 (w.setCell ⟨lb, 1, none⟩ (.slice p G.length k)) lb d S (.slice p G.length k) p k G := by
 have e : But [lb] w (w.setCell ⟨lb, 1, none⟩ (.slice p G.length k)) := (But.refl _ _).setCell (.inl (by simp)) _
 have o : ∀ x ∈ d.own, x ∉ [lb] := fun x hx hm => by
  have : x = lb := by simpa using hm
  subst this; exact h.lbn hx
 exact
 { toHAt := h.toHAt.but e (o _ d.hb_own) (o _ d.gw_own) (o _ d.gm_own) (fun b o' q hm => (h.spn b o' q).1 (by simpa using hm)) (fun b o' q hm => (h.opn b o' q).1 (by simpa using hm))
   ext0 := Ext.setCell h.ext0 h.lb0 _
   h0 := by simpa [go_sem] using h.h0
   h1 := World.cell?_setCell_same _ _ _ h.h1
   fz := fun j => by simpa [go_sem] using h.fz j
   r := h.r.but_ e (fun b o' q hm => (h.n b o' q).2.2 (by simpa using hm))
   lb0 := h.lb0
   own0 := h.own0
   lbn := h.lbn
   n := h.n
   spn := h.spn
   opn := h.opn }
theorem cut {P : Program} {cd : Code} {Q : Exit → Act → World → Prop} {a : Act} (h : LdAt w0 w lb d S v p k G) (hk : ∀ w', LdAt w0 w' lb d S v p k G → cd.wp P Q a w') : cd.wp P Q a w := hk w h
end LdAt
open Go.RowKit Go.Maps
theorem wpList_append_own {w : World} {ops : Array Oper} {rest : List Oper} {o : Oper} {a : Act} {Q : Exit → Act → World → Prop} (hgd : o.guard = none) (s x : Operand)
    (ho : o.op = .call { callee := .builtin .append, args := #[s, x], argTypes := #[22, 22] }) {c b : Nat} {p : Option Addr} {l : List Int} {y : Int} (hs : a.eval s = .slice p l.length c) (hx : a.eval x = .slice (some ⟨b, 0, none⟩) 1 1)
    (hrow : Row w 0 p c l) (hy : w.cell? ⟨b, 0, none⟩ = some (.int .i64 y)) (hy1 : -9223372036854775808 ≤ y) (hy2 : y ≤ 9223372036854775807) (hlen : l.length < 10000000)
    (h : ∀ g cap w' row, Row w' 0 (some ⟨g, 0, none⟩) cap (l ++ [y]) → w.grownBy w' row → (∀ r, row = some r → p = some ⟨r, 0, none⟩) → (p = some ⟨g, 0, none⟩ ∨ g = w.heap.size) → g < w'.heap.size → wpList Tryz.prog ops Q rest (a.put o.dst (.slice (some ⟨g, 0, none⟩) (l.length + 1) cap)) w') : wpList Tryz.prog ops Q (o :: rest) a w := by
  obtain ⟨i0, hi, hz0, hz1, hz2⟩ := info_parts (show (Tryz.prog.info? 3).map (fun i => (i.zero, i.size, i.bytes)) = some (some (.int .i64 0), 1, 8) from by kernel_rfl); refine wpList_append_lies w hgd s x 22 ho 0 3 i0 (.int .i64 0) 1 8 Tryz.underlying22 hi hz0 hz1 hz2 rfl (by decide) _ _ _ hs hrow.1 ⟨b, 0, none⟩ 1 1 [.int .i64 y] hx (by simp) (fun j u hj => ?_) (by simp [Value.oneCell']) (by omega) (by unfold maxLen; omega) (by omega) (Nat.zero_le _) _ rfl ?_
  · cases j with
    | zero =>
     simp at hj; subst hj; rw [Addr.add_lit]; exact hy
    | succ j => simp at hj
  · intro g cap w' hown hgrow hor hlt; have own := row_own hrow; refine h g cap w' _ ⟨by simpa [ints] using hown, fun z hz => ?_⟩ hgrow own (hor.imp (own g) id) hlt
    rcases List.mem_append.1 hz with hz | hz
    · exact hrow.2 z hz
    · have : z = y := by simpa using hz
      subst this; exact ⟨hy1, hy2⟩
def Hp.rest (W : List Int) (a v : Nat) : List Int := (W.drop (a + 3)).take (v - 3)
end Go.Proofs.YtdokmmhjmclmnaaGreat
