/-
  Part 14 of a proof: HLoadM HFn46 HFn47 HFn48.
-/
import Derived.BigQuiet
import Derived.Test.YtdokmmhjmclmnaaGreatM03
import Derived.Test.YtdokmmhjmclmnaaGreatM04
import Derived.Test.YtdokmmhjmclmnaaGreatM08
import Derived.Test.YtdokmmhjmclmnaaGreatM12
import Derived.Test.YtdokmmhjmclmnaaGreatM13
set_option linter.unusedSimpArgs false
set_option linter.unusedVariables false
set_option linter.unusedSectionVars false
set_option linter.unnecessarySimpa false
namespace Go.Proofs.YtdokmmhjmclmnaaGreat
open Go.RowKit
def Hp.Hs.walkFrom (S : Hp.Hs) : Nat → Nat → List Nat → List Int → Option (Option (List Nat × List Int))
 | 0, _, _, _ => none
 | n + 1, a, T, G =>
  if S.words.length ≤ a then some (some (T, G)) else do
  let t ← Hp.rd S.words a
  if t = 0 then
   if S.words.length < a + 3 then some none else do
   let v ← Hp.rd S.words (a + 1)
   if 3 ≤ v ∧ a + v ≤ S.words.length then S.walkFrom n (a + v.toNat) T (G ++ [(a : Int)]) else some none
  else if Hp.within 1 S.sizes.length t || Hp.isEnd t then do
   let k ← Hp.wide S.sizes t
   if a + k ≤ S.words.length then S.walkFrom n (a + k) (Hp.Hs.insert a T) G else some none
  else some none
structure LdAt (w0 w : World) (lb : Nat) (d : Hd) (S : Hp.Hs) (v : Value) (p : Option Addr) (k : Nat) (G : List Int) : Prop extends HAt w d S where
 ext0 : Ext w0 w
 h0 : w.cell? ⟨lb, 0, none⟩ = some (.pointer (some ⟨d.hb, 0, none⟩))
 h1 : w.cell? ⟨lb, 1, none⟩ = some v
 fz : ∀ k, w.frozen? ⟨lb, k, none⟩ = false
 r : Row w 0 p k G
 lb0 : w0.heap.size ≤ lb
 own0 : ∀ b ∈ d.own, w0.heap.size ≤ b
 lbn : lb ∉ d.own
 n : ∀ b o, p = some ⟨b, o, none⟩ → w0.heap.size ≤ b ∧ b ∉ d.own ∧ b ≠ lb
 spn : ∀ b o, d.sp = some ⟨b, o, none⟩ → b ≠ lb ∧ ∀ o', p ≠ some ⟨b, o', none⟩
 opn : ∀ b o, d.op = some ⟨b, o, none⟩ → b ≠ lb ∧ ∀ o', p ≠ some ⟨b, o', none⟩
namespace LdAt
variable {w0 w w' : World} {lb : Nat} {d : Hd} {S : Hp.Hs} {v : Value} {p : Option Addr} {k : Nat} {G : List Int}
theorem lt1 (h : LdAt w0 w lb d S v p k G) : lb < w.heap.size := cell_lt h.h0
theorem ext (h : LdAt w0 w lb d S v p k G) (e : Ext w w') : LdAt w0 w' lb d S v p k G :=
 { h with
   toHAt := h.toHAt.ext e
   ext0 := h.ext0.trans e
   h0 := (e.cell h.lt1 0).trans h.h0
   h1 := (e.cell h.lt1 1).trans h.h1
   fz := fun j => (e.frozen h.lt1 j).trans (h.fz j)
   r := h.r.ext e }
theorem turn (h : LdAt w0 w lb d S v p k G) {S' : Hp.Hs} (e : But d.own w w') (h' : HAt w' d S') : LdAt w0 w' lb d S' v p k G :=
 { toHAt := h'
   ext0 := But.toExt h.ext0 e h.own0
   h0 := (e.cell h.lt1 h.lbn 0).trans h.h0
   h1 := (e.cell h.lt1 h.lbn 1).trans h.h1
   fz := fun j => (e.frozen h.lt1 h.lbn j).trans (h.fz j)
   r := h.r.but_ e (fun b o q => (h.n b o q).2.1)
   lb0 := h.lb0
   own0 := h.own0
   lbn := h.lbn
   n := h.n
   spn := h.spn
   opn := h.opn }
theorem mapped (h : LdAt w0 w lb d S v p k G) {T : List Nat} (e : w.mapTurned w' d.gm) (hm : MapAt Tryz.prog w' d.gm T) (hb : ∀ a ∈ T, a < S.words.length) : LdAt w0 w' lb d { S with taken := T } v p k G :=
 h.turn ((But.refl _ _).turned e (.inl d.gm_own)) (h.toHAt.mapped e hm hb)
theorem grow (h : LdAt w0 w lb d S v p k G) {g cap : Nat} {row : Option Nat} {G' : List Int} (hR : Row w' 0 (some ⟨g, 0, none⟩) cap G') (hG : w.grownBy w' row) (hrow : ∀ r, row = some r → p = some ⟨r, 0, none⟩) (hg : p = some ⟨g, 0, none⟩ ∨ g = w.heap.size) :
    LdAt w0 w' lb d S v (some ⟨g, 0, none⟩) cap G' := by
  have kb : But row.toList w w' := ⟨hG.os, hG.tape, hG.output, hG.size, fun i hi hn => hG.block i hi (fun e => hn (by rw [← e]; simp))⟩
  have far : ∀ b, (∀ r, p = some ⟨r, 0, none⟩ → b ≠ r) → b ∉ row.toList := fun b hb hm => by
   have e : row = some b := by simpa using hm
   exact hb b (hrow b e) rfl
  have own : ∀ b ∈ d.own, b ∉ row.toList := fun b hb => far b fun r e er => (h.n r 0 e).2.1 (er ▸ hb)
  have sbf : lb ∉ row.toList := far lb fun r e er => (h.n r 0 e).2.2 er.symm
  have e0 := h.ext0.le
  have l1 := h.lt1
  have og := h.toHAt.own_lt
  have new : w0.heap.size ≤ g ∧ g ∉ d.own ∧ g ≠ lb := by
   rcases hg with e | rfl
   · exact h.n g 0 e
   · exact ⟨e0, fun hm => by have := og _ hm; omega, by omega⟩
  exact
  { toHAt := h.toHAt.but kb (own _ d.hb_own) (own _ d.gw_own) (own _ d.gm_own) (fun b o e => far b fun r er e2 => (h.spn b o e).2 0 (e2 ▸ er)) (fun b o e => far b fun r er e2 => (h.opn b o e).2 0 (e2 ▸ er))
    ext0 := h.ext0.grown hG (fun r e => (h.n r 0 (hrow r e)).1)
    h0 := (kb.cell l1 sbf 0).trans h.h0
    h1 := (kb.cell l1 sbf 1).trans h.h1
    fz := fun j => (kb.frozen l1 sbf j).trans (h.fz j)
    r := hR
    lb0 := h.lb0
    own0 := h.own0
    lbn := h.lbn
    n := fun b o e => by cases e; exact new
    spn := fun b o e => ⟨(h.spn b o e).1, fun o' e' => by
     cases e'
     rcases hg with hg | rfl
     · exact (h.spn g o e).2 0 hg
     · have := h.old1 _ o e
       omega⟩
    opn := fun b o e => ⟨(h.opn b o e).1, fun o' e' => by
     cases e'
     rcases hg with hg | rfl
     · exact (h.opn g o e).2 0 hg
     · have := h.old2 _ o e
       omega⟩ }
theorem stored (h : LdAt w0 w lb d S v p k G) : LdAt w0 (w.setCell ⟨lb, 1, none⟩ (.slice p G.length k)) lb d S (.slice p G.length k) p k G := by
 have e : But [lb] w (w.setCell ⟨lb, 1, none⟩ (.slice p G.length k)) := (But.refl _ _).setCell (.inl (by simp)) _
 have o : ∀ x ∈ d.own, x ∉ [lb] := fun x hx hm => by
  have : x = lb := by simpa using hm
  subst this
  exact h.lbn hx
 exact
 { toHAt := h.toHAt.but e (o _ d.hb_own) (o _ d.gw_own) (o _ d.gm_own) (fun b o' q hm => (h.spn b o' q).1 (by simpa using hm)) (fun b o' q hm => (h.opn b o' q).1 (by simpa using hm))
   ext0 := Ext.setCell h.ext0 h.lb0 _
   h0 := by simpa [go_sem] using h.h0
   h1 := World.cell?_setCell_same _ _ _ h.h1
   fz := fun j => by simpa [go_sem] using h.fz j
   r := h.r.but_ e (fun b o' q hm => (h.n b o' q).2.2 (by simpa using hm))
   lb0 := h.lb0
   own0 := h.own0
   lbn := h.lbn
   n := h.n
   spn := h.spn
   opn := h.opn }
theorem cut {P : Program} {cd : Code} {Q : Exit → Act → World → Prop} {a : Act} (h : LdAt w0 w lb d S v p k G) (hk : ∀ w', LdAt w0 w' lb d S v p k G → cd.wp P Q a w') : cd.wp P Q a w := hk w h
end LdAt
theorem walkFrom_succ {S : Hp.Hs} {n a : Nat} {T : List Nat} {G : List Int} {R : Option (List Nat × List Int)} (h : S.walkFrom n a T G = some R) :
    (S.words.length ≤ a ∧ R = some (T, G)) ∨ (a < S.words.length ∧ ∃ n' t, n = n' + 1 ∧ Hp.rd S.words a = some t ∧
     ((t = 0 ∧ S.words.length < a + 3 ∧ R = none) ∨
      (t = 0 ∧ a + 3 ≤ S.words.length ∧ ∃ v, Hp.rd S.words (a + 1) = some v ∧ ((3 ≤ v ∧ a + v ≤ S.words.length ∧ S.walkFrom n' (a + v.toNat) T (G ++ [(a : Int)]) = some R) ∨ (¬ (3 ≤ v ∧ a + v ≤ S.words.length) ∧ R = none))) ∨
      (t ≠ 0 ∧ (Hp.within 1 S.sizes.length t = true ∨ Hp.isEnd t = true) ∧ ∃ k, Hp.wide S.sizes t = some k ∧ ((a + k ≤ S.words.length ∧ S.walkFrom n' (a + k) (Hp.Hs.insert a T) G = some R) ∨ (¬ a + k ≤ S.words.length ∧ R = none))) ∨
      (t ≠ 0 ∧ Hp.within 1 S.sizes.length t = false ∧ Hp.isEnd t = false ∧ R = none))) := by
  cases n with
  | zero => simp [Hp.Hs.walkFrom] at h
  | succ n =>
   unfold Hp.Hs.walkFrom at h
   split at h
   · rename_i hge
     exact .inl ⟨hge, by simpa using h.symm⟩
   · rename_i hlt
     simp only [Option.bind_eq_bind, Option.bind_eq_some_iff] at h
     obtain ⟨t, ht, h⟩ := h
     refine .inr ⟨by omega, n, t, rfl, ht, ?_⟩
     split at h
     · rename_i h0
       split at h
       · rename_i h3
         exact .inl ⟨h0, h3, by simpa using h.symm⟩
       · rename_i h3
         simp only [Option.bind_eq_some_iff] at h
         obtain ⟨v, hv, h⟩ := h
         refine .inr (.inl ⟨h0, by omega, v, hv, ?_⟩)
         split at h
         · rename_i h4
           exact .inl ⟨h4.1, h4.2, h⟩
         · rename_i h4
           exact .inr ⟨h4, by simpa using h.symm⟩
     · rename_i h0
       split at h
       · rename_i h1
         simp only [Option.bind_eq_some_iff] at h
         obtain ⟨k, hk, h⟩ := h
         refine .inr (.inr (.inl ⟨h0, by simpa using h1, k, hk, ?_⟩))
         split at h
         · rename_i h4
           exact .inl ⟨h4, h⟩
         · rename_i h4
           exact .inr ⟨h4, by simpa using h.symm⟩
       · rename_i h1
         simp only [Bool.or_eq_true, not_or, Bool.not_eq_true] at h1
         exact .inr (.inr (.inr ⟨h0, h1.1, h1.2, by simpa using h.symm⟩))
end Go.Proofs.YtdokmmhjmclmnaaGreat
namespace Go.Proofs.YtdokmmhjmclmnaaGreat
open Go.RowKit Go.Maps
theorem wpList_append_own {w : World} {ops : Array Oper} {rest : List Oper} {o : Oper} {a : Act} {Q : Exit → Act → World → Prop} (hgd : o.guard = none) (s x : Operand)
    (ho : o.op = .call { callee := .builtin .append, args := #[s, x], argTypes := #[22, 22] }) {c b : Nat} {p : Option Addr} {l : List Int} {y : Int} (hs : a.eval s = .slice p l.length c) (hx : a.eval x = .slice (some ⟨b, 0, none⟩) 1 1)
    (hrow : Row w 0 p c l) (hy : w.cell? ⟨b, 0, none⟩ = some (.int .i64 y)) (hy1 : -9223372036854775808 ≤ y) (hy2 : y ≤ 9223372036854775807) (hlen : l.length < 10000000)
    (h : ∀ g cap w' row, Row w' 0 (some ⟨g, 0, none⟩) cap (l ++ [y]) → w.grownBy w' row → (∀ r, row = some r → p = some ⟨r, 0, none⟩) → (p = some ⟨g, 0, none⟩ ∨ g = w.heap.size) → g < w'.heap.size → wpList Tryz.prog ops Q rest (a.put o.dst (.slice (some ⟨g, 0, none⟩) (l.length + 1) cap)) w') : wpList Tryz.prog ops Q (o :: rest) a w := by
  obtain ⟨i0, hi, hz0, hz1, hz2⟩ := info_parts (show (Tryz.prog.info? 3).map (fun i => (i.zero, i.size, i.bytes)) = some (some (.int .i64 0), 1, 8) from by kernel_rfl)
  refine wpList_append_lies w hgd s x 22 ho 0 3 i0 (.int .i64 0) 1 8 Tryz.underlying22 hi hz0 hz1 hz2 rfl (by decide) _ _ _ hs hrow.1 ⟨b, 0, none⟩ 1 1 [.int .i64 y] hx (by simp) (fun j u hj => ?_) (by simp [Value.oneCell']) (by omega) (by unfold maxLen; omega) (by omega) (Nat.zero_le _) _ rfl ?_
  · cases j with
    | zero =>
     simp at hj
     subst hj
     rw [Addr.add_lit]
     exact hy
    | succ j => simp at hj
  · intro g cap w' hown hgrow hor hlt
    have own := row_own hrow
    refine h g cap w' _ ⟨by simpa [ints] using hown, fun z hz => ?_⟩ hgrow own (hor.imp (own g) id) hlt
    rcases List.mem_append.1 hz with hz | hz
    · exact hrow.2 z hz
    · have : z = y := by simpa using hz
      subst this
      exact ⟨hy1, hy2⟩
def LwPost (w0 : World) (lb : Nat) (d : Hd) (S : Hp.Hs) (R : Option (List Nat × List Int)) (e : Ending) (w' : World) : Prop :=
 Ext w0 w' ∧ ((R = none ∧ e = .returned (.bool false)) ∨ ∃ T G p k, R = some (T, G) ∧ e = .returned (.bool true) ∧ LdAt w0 w' lb d { S with taken := T } (.slice p G.length k) p k G)
set_option maxRecDepth 100000 in
set_option maxHeartbeats 16000000 in
theorem lwalk_any {w0 w : World} {lb : Nat} {d : Hd} {S : Hp.Hs} {R : Option (List Nat × List Int)} (h : LdAt w0 w lb d { S with taken := [] } (.slice none 0 0) none 0 []) (hr : S.walkFrom S.fuel 17 [] [] = some R) :
    Calls Tryz.prog 61 #[.pointer (some ⟨lb, 0, none⟩)] w (LwPost w0 lb d S R) := by
  have sm := h.small
  obtain ⟨n, hn⟩ : ∃ n, S.words.length = n := ⟨_, rfl⟩
  have EN := Lib.hid hn
  simp only at sm
  rw [hn] at sm
  have H := Lib.hid h
  have HR := Lib.hid hr
  clear h hr hn
  go_enter Tryz.func61, Tryz.ntmps61
  go_wp2_with fail
  go_loopg [3] (S.fuel + 1) (fun g i wr => ∃ (a m : Nat) (T : List Nat) (G : List Int) (p : Option Addr) (k : Nat), m + 1 ≤ g ∧ i = .int .i64 a ∧ a ≤ 2000000 ∧ G.length ≤ a ∧ Hid (LdAt w0 wr lb d { S with taken := T } (.slice p G.length k) p k G) ∧ Hid (S.walkFrom m a T G = some R))
  case atStart => exact ⟨17, S.fuel, [], [], none, 0, Nat.le_refl _, rfl, by omega, by simp, H, HR⟩
  case round =>
   obtain ⟨a, m, T, G, p, k, hg, rfl, ha, hgl, N, HW⟩ := hrel
   clear H HR
   have h0 := N.out.h0
   have c2 := N.out.c2
   simp only at c2
   rw [EN.out] at c2
   have z0 := N.out.lt1
   have zh := N.out.lt
   rcases walkFrom_succ HW.out with ⟨hge, rfl⟩ | ⟨hlt, m', t, hm, ht, hq⟩
   · rw [EN.out] at hge
     have tk : decide ((a : Int) < (n : Int)) = false := decide_eq_false (by omega)
     go_wp2_with fail
     go_returns
     exact ⟨N.out.ext0, .inr ⟨T, G, p, k, rfl, rfl, N.out⟩⟩
   · rw [EN.out] at hlt hq
     have tk : decide ((a : Int) < (n : Int)) = true := decide_eq_true (by omega)
     have HT := Lib.hid ht
     have HQ := Lib.hid hq
     have hle := N.out.le
     have hcap := N.out.cap
     simp only at hle
     rw [EN.out] at hle
     have bt := N.out.words.bound ht
     clear ht hq HW
     have wl : IntKind.i64.wrap ((n : Int) - (a : Int)) = (n : Int) - (a : Int) := IntWalk.i64_in _ (by omega)
     go_upto_region 3 with (fail)
     have PR22 := Lib.hid (fun (ww : World) (hSw : Ext wr ww) => And.intro ((hSw.cell z0 0).trans h0) ((hSw.cell zh 2).trans c2))
     refine wp_region_seq (S := fun W => Ext wr W) (R := Ext) (by kernel_rfl) Ext.refl ?_ ?_
     · exact exx
     refine' tkL (i := 0) (v := ?v0_1) rfl ?h0_1 ?r0_1
     case h0_1 => (intro w q; obtain ⟨h0', c2'⟩ := PR22.out w q; go_simp; try with_reducible rfl)
     refine layy ?_
     refine' tkL (i := 1) (v := ?v1_2) rfl ?h1_2 ?r1_2
     case h1_2 => (intro w q; obtain ⟨h0', c2'⟩ := PR22.out w q; go_simp; try with_reducible rfl)
     refine layy ?_
     refine' tkL (i := 2) (v := ?v2_3) rfl ?h2_3 ?r2_3
     case h2_3 => (intro w q; obtain ⟨h0', c2'⟩ := PR22.out w q; go_simp; try with_reducible rfl)
     refine layy ?_
     refine' tkL (i := 3) (v := ?v3_4) rfl ?h3_4 ?r3_4
     case h3_4 => (intro w q; obtain ⟨h0', c2'⟩ := PR22.out w q; go_simp; try with_reducible rfl)
     refine layy ?_
     refine' tkL (i := 4) (v := ?v4_5) rfl ?h4_5 ?r4_5
     case h4_5 => (intro w q; obtain ⟨h0', c2'⟩ := PR22.out w q; go_simp; try with_reducible rfl)
     refine layy ?_
     refine' tkL (i := 5) (v := ?v5_6) rfl ?h5_6 ?r5_6
     case h5_6 => (intro w q; obtain ⟨h0', c2'⟩ := PR22.out w q; go_simp; try with_reducible rfl)
     refine layy ?_
     refine' tkL (i := 6) (v := ?v6_7) rfl ?h6_7 ?r6_7
     case h6_7 => (intro w q; obtain ⟨h0', c2'⟩ := PR22.out w q; go_simp; try with_reducible rfl)
     refine layy ?_
     refine' tkL (i := 7) (v := ?v7_8) rfl ?h7_8 ?r7_8
     case h7_8 => (intro w q; obtain ⟨h0', c2'⟩ := PR22.out w q; go_simp; try with_reducible rfl)
     refine layy ?_
     refine' tkL (i := 8) (v := ?v8_9) rfl ?h8_9 ?r8_9
     case h8_9 => (intro w q; obtain ⟨h0', c2'⟩ := PR22.out w q; go_simp; try with_reducible rfl)
     refine layy ?_
     refine' tkL (i := 9) (v := ?v9_10) rfl ?h9_10 ?r9_10
     case h9_10 => (intro w q; obtain ⟨h0', c2'⟩ := PR22.out w q; go_simp; try with_reducible rfl)
     refine layy ?_
     refine' tkL (i := 10) (v := ?v10_11) rfl ?h10_11 ?r10_11
     case h10_11 => (intro w q; obtain ⟨h0', c2'⟩ := PR22.out w q; go_simp; try with_reducible rfl)
     refine layy ?_
     refine' tkL (i := 11) (v := ?v11_12) rfl ?h11_12 ?r11_12
     case h11_12 => (intro w q; obtain ⟨h0', c2'⟩ := PR22.out w q; go_simp; try with_reducible rfl)
     refine layy ?_
     refine' tkL (i := 12) (v := ?v12_13) rfl ?h12_13 ?r12_13
     case h12_13 => (intro w q; obtain ⟨h0', c2'⟩ := PR22.out w q; go_simp; try with_reducible rfl)
     refine layy ?_
     refine' tkL (i := 13) (v := ?v13_14) rfl ?h13_14 ?r13_14
     case h13_14 => (intro w q; obtain ⟨h0', c2'⟩ := PR22.out w q; go_simp; try with_reducible rfl)
     refine layy ?_
     refine' tkL (i := 14) (v := ?v14_15) rfl ?h14_15 ?r14_15
     case h14_15 => (intro w q; obtain ⟨h0', c2'⟩ := PR22.out w q; go_simp; try with_reducible rfl)
     refine layy ?_
     refine' tkR (i := 15) (v := .int .i64 t) rfl (Or.inr ⟨by rfl, 76, _, ?hx15_16, ?hy15_16⟩) ?rest15_16
     case hx15_16 => (intro w hSw; go_simp; (try with_reducible rfl))
     case hy15_16 => exact fun w hE => (tag_any (N.out.ext hE).c2 rfl N.out.le N.out.cap (N.out.ext hE).words HT.out).mono (fun _ _ h => ⟨h.1, h.2, Ext.trans hE h.2⟩)
     refine layy ?_
     refine' tkL (i := 16) (v := ?v16_17) rfl ?h16_17 ?r16_17
     case h16_17 => (intro w q; obtain ⟨h0', c2'⟩ := PR22.out w q; go_simp; try with_reducible rfl)
     refine layy ?_
     refine' tkL (i := 17) (v := ?v17_18) rfl ?h17_18 ?r17_18
     case h17_18 => (intro w q; obtain ⟨h0', c2'⟩ := PR22.out w q; go_simp; try with_reducible rfl)
     refine layy ?_
     refine wpAnyR_done (by kernel_rfl) ?_ _
     intro x1 _ Ex1
     have N1 := Lib.hid (N.out.ext Ex1)
     clear h0 c2 z0 zh tk N Ex1
     rcases HQ.out with ⟨rfl, h3, rfl⟩ | ⟨rfl, h3, v, hv, hq⟩ | ⟨ht0, hor, kk, hkk, hq⟩ | ⟨ht0, hw, he, rfl⟩
     · have t1 : decide ((n : Int) - (a : Int) < 3) = true := decide_eq_true (by omega)
       go_wp2_with fail
       go_returns
       exact ⟨N1.out.ext0, .inl ⟨rfl, rfl⟩⟩
     · have bv := N1.out.words.bound hv
       have gv := N1.out.words.get hv
       have lv := rd_lt hv
       rw [EN.out] at lv
       have h0 := N1.out.h0
       have h1 := N1.out.h1
       have f1 := N1.out.fz 1
       have c2 := N1.out.c2
       simp only at c2
       rw [EN.out] at c2
       have t1 : decide ((n : Int) - (a : Int) < 3) = false := decide_eq_false (by omega)
       have N2 := Lib.hid (N1.out.ext (Ext.alloc (Ext.refl x1) (.cells #[.int .i64 (a : Int)] 3)))
       obtain ⟨bw, hbw⟩ : ∃ bw, Hp.within 3 ((n : Int) - (a : Int)) v = bw := ⟨_, rfl⟩
       have wi : ∀ W : World, Calls Tryz.prog 105 #[.int .i64 3, .int .i64 ((n : Int) - (a : Int)), .int .i64 v] W fun e w' => e = .returned (.bool bw) ∧ Ext W w' := fun W => hbw ▸ within_any 3 ((n : Int) - (a : Int)) v W
       have HBW := Lib.hid hbw
       have HQ2 := Lib.hid hq
       clear hv hq hbw HQ
       go_upto_region 14 with (at_builtin; refine wpList_append_own rfl _ _ rfl (y := (a : Int)) rfl rfl N2.out.r (by go_simp) (by omega) (by omega) (by omega) ?_; intro g8 c8 x8 row8 hR8 hG8 hrow8 hg8 hl8; have N3 := Lib.hid (N2.out.grow hR8 hG8 hrow8 hg8); clear hR8 hG8 hrow8 hg8; have h03 := N3.out.h0; have h13 := N3.out.h1; have f13 := N3.out.fz 1)
       have N4 := Lib.hid N3.out.stored
       simp only [List.length_append, List.length_singleton] at N4
       refine LdAt.cut N4.out ?_
       clear N4 N3 N2 h03 h13 f13 h0 h1 f1 c2 gv
       intro w5 N5'
       have N5 := Lib.hid N5'
       clear N5'
       rcases HQ2.out with ⟨hv3, hvn, hrest⟩ | ⟨hno, rfl⟩
       · have hb : bw = true := by
           rw [← HBW.out]
           simp only [Hp.within, Bool.and_eq_true, decide_eq_true_eq]
           omega
         have HRE := Lib.hid hrest
         clear hrest HQ2
         subst hb
         obtain ⟨vn, rfl⟩ : ∃ vn : Nat, v = vn := ⟨v.toNat, by omega⟩
         go_wp2_with (go_at_call 105; refine (wi _).mono ?_; rintro e w6 ⟨rfl, E6⟩; have N6 := Lib.hid (N5.out.ext E6))
         go_roundg (m' + 1)
         case measure => omega
         case rel => exact ⟨a + vn, m', T, G ++ [(a : Int)], some ⟨g8, 0, none⟩, c8, Nat.le_refl _, by go_num, by omega, by simp; omega, Lib.hid (by simpa using N6.out), Lib.hid (by simpa using HRE.out)⟩
       · have hb : bw = false := by
           rw [← HBW.out, Bool.eq_false_iff]
           intro h
           simp only [Hp.within, Bool.and_eq_true, decide_eq_true_eq] at h
           omega
         subst hb
         go_wp2_with (go_at_call 105; refine (wi _).mono ?_; rintro e w6 ⟨rfl, E6⟩; have N6 := Lib.hid (N5.out.ext E6))
         go_returns
         exact ⟨N6.out.ext0, .inl ⟨rfl, rfl⟩⟩
     · have t0 : (t == 0) = false := by simpa using ht0
       have wk := wide_le N1.out.toHAt hkk
       have HK := Lib.hid hkk
       have HQ2 := Lib.hid hq
       have h0 := N1.out.h0
       have c0 := N1.out.c0
       have c1 := N1.out.c1
       have c3 := N1.out.c3
       have zl := N1.out.lt1
       have zh := N1.out.lt
       have HOR := Lib.hid hor
       obtain ⟨bn, hbn⟩ : ∃ bn, Hp.within 1 S.sizes.length t = bn := ⟨_, rfl⟩
       have IN : ∀ W : World, Calls Tryz.prog 122 #[.agg #[.slice d.sp S.sizes.length d.sc, .slice d.op S.order.length d.oc], .int .i64 t] W fun e w' => e = .returned (.bool bn) ∧ Ext W w' := fun W => hbn ▸ isNode_any d.sp d.op S.sizes.length d.sc S.order.length d.oc t W
       have HE : bn = false → Hp.isEnd t = true := fun e => by
        rcases hor with h | h
        · rw [hbn, e] at h
          cases h
        · exact h
       have HEH := Lib.hid HE
       simp only at c0 c1
       clear hkk hq hor HQ HE hbn
       cases bn
       case' true => go_upto_region 12 with (go_at_call 122; refine (IN _).mono ?_; rintro e w6 ⟨rfl, E6⟩; have NX := Lib.hid (N1.out.ext E6); have EX := E6)
       case' false =>
        have HE2 := Lib.hid (HEH.out rfl)
        go_upto_region 12 with (first
         | (go_at_call 122; refine (IN _).mono ?_; rintro e w6 ⟨rfl, E6⟩)
         | (go_at_call 78; refine (isEnd_is HE2.out _).mono ?_; rintro e w7 ⟨rfl, E7⟩; have NX := Lib.hid ((N1.out.ext E6).ext E7); have EX := E6.trans E7))
       all_goals
        have h0' := NX.out.h0
        have c0' := NX.out.c0
        have c1' := NX.out.c1
        simp only at c0' c1'
        clear h0 c0 c1 c3 IN
        go_upto_region 13 with (go_at_call 123; refine (wide_any NX.out.sizes HK.out (by omega)).mono ?_; rintro e w8 ⟨rfl, E8⟩; have N8 := Lib.hid (NX.out.ext E8); have h08 := N8.out.h0; have c38 := N8.out.c3)
        obtain ⟨w9, hup, hm9, ht9⟩ := N8.out.map.put (t := 102) Tryz.underlying3 Tryz.underlying4 Tryz.underlying102 (by have := N8.out.taken_len; have := N8.out.small; unfold maxLen; omega) (a := a) (by omega)
        have N9 := Lib.hid (N8.out.mapped ht9 hm9 (fun a' ha' => by
         rcases (mem_ins a a' T).1 ha' with rfl | h'
         · simp only
           rw [EN.out]
           exact hlt
         · exact N8.out.below a' h'))
        clear hm9 ht9 h0' c0' c1'
        obtain ⟨bw, hbw⟩ : ∃ bw, Hp.within 3 ((n : Int) - (a : Int)) kk = bw := ⟨_, rfl⟩
        have wi : ∀ W : World, Calls Tryz.prog 105 #[.int .i64 3, .int .i64 ((n : Int) - (a : Int)), .int .i64 kk] W fun e w' => e = .returned (.bool bw) ∧ Ext W w' := fun W => hbw ▸ within_any 3 ((n : Int) - (a : Int)) kk W
        have HBW := Lib.hid hbw
        clear hbw
        rcases HQ2.out with ⟨hvn, hrest⟩ | ⟨hno, rfl⟩
        · have hb : bw = true := by
            rw [← HBW.out]
            simp only [Hp.within, Bool.and_eq_true, decide_eq_true_eq]
            omega
          have HRE := Lib.hid hrest
          clear hrest HQ2
          subst hb
          go_wp2_with (go_at_call 105; refine (wi _).mono ?_; rintro e w11 ⟨rfl, E11⟩; have N11 := Lib.hid (N9.out.ext E11))
          go_roundg (m' + 1)
          case measure => omega
          case rel => exact ⟨a + kk, m', Hp.Hs.insert a T, G, p, k, Nat.le_refl _, by go_num, by omega, by omega, N11, HRE⟩
        · have hb : bw = false := by
            rw [← HBW.out, Bool.eq_false_iff]
            intro h
            simp only [Hp.within, Bool.and_eq_true, decide_eq_true_eq] at h
            omega
          subst hb
          go_wp2_with (go_at_call 105; refine (wi _).mono ?_; rintro e w11 ⟨rfl, E11⟩; have N11 := Lib.hid (N9.out.ext E11))
          go_returns
          exact ⟨N11.out.ext0, .inl ⟨rfl, rfl⟩⟩
     · have t0 : (t == 0) = false := by simpa using ht0
       have IN : ∀ W : World, Calls Tryz.prog 122 #[.agg #[.slice d.sp S.sizes.length d.sc, .slice d.op S.order.length d.oc], .int .i64 t] W fun e w' => e = .returned (.bool false) ∧ Ext W w' := fun W => hw ▸ isNode_any d.sp d.op S.sizes.length d.sc S.order.length d.oc t W
       have h0 := N1.out.h0
       have c0 := N1.out.c0
       have c1 := N1.out.c1
       simp only at c0 c1
       have HE2 := Lib.hid he
       clear hw he
       go_wp2_with (first
        | (go_at_call 122; refine (IN _).mono ?_; rintro e w6 ⟨rfl, E6⟩)
        | (go_at_call 78; refine (isEnd_is HE2.out _).mono ?_; rintro e w7 ⟨rfl, E7⟩; have NX := Lib.hid ((N1.out.ext E6).ext E7)))
       go_returns
       exact ⟨NX.out.ext0, .inl ⟨rfl, rfl⟩⟩
end Go.Proofs.YtdokmmhjmclmnaaGreat
namespace Go.Proofs.YtdokmmhjmclmnaaGreat
open Go.RowKit Go.Maps
def Hp.rest (W : List Int) (a v : Nat) : List Int := (W.drop (a + 3)).take (v - 3)
def Hp.linkedB (W : List Int) : List Int → Nat → Bool
 | [], link => Hp.rd W link == some 0
 | x :: r, link =>
  let a := x.toNat
  let v := ((Hp.rd W (a + 1)).getD 0).toNat
  Hp.rd W link == some x && ((Hp.rest W a v).all (· == 0) && ((match r with | b :: _ => b != ((a + v : Nat) : Int) | [] => true) && Hp.linkedB W r (a + 2)))
def Gap (W : List Int) (x : Int) : Prop := ∃ a v : Nat, x = a ∧ Hp.rd W (a + 1) = some (v : Int) ∧ 3 ≤ v ∧ a + v ≤ W.length
theorem isZero_any (x : Int) (w : World) : Calls Tryz.prog 125 #[.int .i64 x] w fun e w' => e = .returned (.bool (x == 0)) ∧ Ext w w' := by
 go_enter Tryz.func125, Tryz.ntmps125
 go_wp2
 go_returns
 exact ⟨rfl, exx⟩
theorem zeros_says {w : World} {l : List Int} : SaysAll w 125 #[] #[] l (fun x => x == 0) := by
 intro j x _ _ W _
 have := isZero_any x W
 simpa using this
theorem zeros_any {w : World} {d : Hd} {S : Hp.Hs} {a v : Nat} {b : Bool} {q : Option Addr} (h : HAt w d S) (h3 : 3 ≤ v) (hl : a + v ≤ S.words.length) (hq : q = some ⟨d.gw, a + 3, none⟩ ∨ v = 3) (c : Nat) (hc : v - 3 ≤ c) (hc2 : c ≤ 9223372036854775807) (hb : (Hp.rest S.words a v).all (fun x => x == 0) = b) :
    Calls Tryz.prog 124 #[.slice q (v - 3) c, .func (.func 125) #[] #[]] w fun e w' => e = .returned (.bool b) ∧ Ext w w' := by
  have hs : Hp.sub S.words (a + 3) (v - 3) = some (Hp.rest S.words a v) := by
   unfold Hp.sub Hp.rest
   rw [if_pos (by omega)]
  obtain ⟨qq, ql, _⟩ := sub_at h hs c hc hc2
  have qa : SliceAt w q c (Hp.rest S.words a v) := by
   rcases hq with rfl | rfl
   · exact qq
   · have : Hp.rest S.words a 3 = [] := List.eq_nil_of_length_eq_zero ql
     rw [this]
     exact ⟨by simp, hc2, by simp, fun h => by simp at h⟩
  have := every_any (enters_of Tryz.func125 (by kernel_rfl) rfl) qa zeros_says hb
  rw [ql] at this
  exact this
set_option maxRecDepth 100000 in
set_option maxHeartbeats 8000000 in
theorem isLinked_any {w0 w : World} {lb : Nat} {d : Hd} {S : Hp.Hs} {p : Option Addr} {k : Nat} {G : List Int} (h : LdAt w0 w lb d S (.slice p G.length k) p k G) (hG : ∀ x ∈ G, Gap S.words x) (hgl : G.length ≤ 1000000) (h17 : 17 ≤ S.words.length) {bb : Bool} (hbb : Hp.linkedB S.words G 16 = bb) :
    Calls Tryz.prog 62 #[.pointer (some ⟨lb, 0, none⟩)] w fun e w' => e = .returned (.bool bb) ∧ Ext w w' := by
  have sm := h.small
  obtain ⟨n, hn⟩ : ∃ n, S.words.length = n := ⟨_, rfl⟩
  obtain ⟨m, hm⟩ : ∃ m, G.length = m := ⟨_, rfl⟩
  have EN := Lib.hid hn
  have EM := Lib.hid hm
  have h1 := h.h1
  have H := Lib.hid h
  have GH := Lib.hid hG
  have HB := Lib.hid (show Hp.linkedB S.words (G.drop 0) 16 = bb from hbb)
  have le := h.r.at_.le
  have cap := h.r.at_.cap
  rw [hn] at sm h17
  rw [hm] at h1 hgl le
  clear h hG hbb hn hm
  go_enter Tryz.func62, Tryz.ntmps62
  go_wp2_with fail
  go_loopg [3, 12] m (fun g l i wr => ∃ (j link : Nat), j ≤ m ∧ m - j ≤ g ∧ i = .int .i64 j ∧ l = .int .i64 link ∧ link < n ∧ Hid (Hp.linkedB S.words (G.drop j) link = bb) ∧ Hid (Ext w wr))
  case atStart => exact ⟨0, 16, Nat.zero_le _, by omega, rfl, rfl, by omega, HB, Lib.hid (Ext.refl w)⟩
  case round =>
   obtain ⟨j, link, hj, hg, rfl, rfl, hlk, HL, E⟩ := hrel
   clear HB
   have N := Lib.hid (H.out.ext E.out)
   have h0 := N.out.h0
   have c2 := N.out.c2
   rw [EN.out] at c2
   obtain ⟨y, hy⟩ := rd_get (l := S.words) (j := link) (by rw [EN.out]; exact hlk)
   have gy := N.out.words.get hy
   have hle := N.out.le
   have hcap := N.out.cap
   rw [EN.out] at hle
   by_cases hlt : j < m
   · obtain ⟨x, hx⟩ := rd_get (l := G) (j := j) (by rw [EM.out]; exact hlt)
     obtain ⟨a, v, rfl, hv, h3, hav⟩ := GH.out x (List.mem_of_getElem? hx)
     rw [EN.out] at hav
     obtain ⟨b, o, hp, hb, hc⟩ := N.out.r.at_.cells (by rw [EM.out]; omega)
     have gx := hc j _ hx
     have gv := N.out.words.get hv
     have tk : decide ((j : Int) < (m : Int)) = true := decide_eq_true (by omega)
     have hl := HL.out
     rw [List.drop_eq_getElem_cons (by rw [EM.out]; exact hlt)] at hl
     have hxe : G[j]'(by rw [EM.out]; exact hlt) = a := by
      have := hx
      unfold Hp.rd at this
      rw [List.getElem?_eq_getElem (by rw [EM.out]; exact hlt)] at this
      exact Option.some.inj this
     rw [hxe] at hl
     simp only [Hp.linkedB, Int.toNat_natCast, hv, hy, Option.getD_some] at hl
     have HLL := Lib.hid hl
     have HX := Lib.hid hx
     obtain ⟨bz, hbz⟩ : ∃ bz, (Hp.rest S.words a v).all (fun x => x == 0) = bz := ⟨_, rfl⟩
     have ze : ∀ W, Ext wr W → Calls Tryz.prog 124 #[.slice (if d.cap = a + 3 then some ⟨d.gw, 0, none⟩ else some ⟨d.gw, a + 3, none⟩) (v - 3) (d.cap - (a + 3)), .func (.func 125) #[] #[]] W fun e w' => e = .returned (.bool bz) ∧ Ext W w' := fun W hW =>
      zeros_any (N.out.ext hW).toHAt h3 (by rw [EN.out]; omega) (by
       split
       · right; omega
       · left; rfl) _ (by omega) (by omega) hbz
     have HBZ := Lib.hid hbz
     clear hc hx hl hxe hv hy hbz HL
     subst hp
     by_cases hya : y = (a : Int)
     · have t0 : (y != (a : Int)) = false := by simpa using hya
       have s1 : (a : Int) + 3 ≤ (a : Int) + (v : Int) := by omega
       have s2 : (a : Int) + (v : Int) ≤ (d.cap : Int) := by omega
       have s3 : ((a : Int) + (v : Int)).toNat - ((a : Int) + 3).toNat = v - 3 := by omega
       have s4 : ((a : Int) + 3).toNat = a + 3 := by omega
       have s5 : a + v - (a + 3) = v - 3 := by omega
       cases bz with
       | false =>
        have hbf : bb = false := by
         rw [← HLL.out]
         have : (Hp.rest S.words a v).all (· == 0) = false := HBZ.out
         rw [this]
         simp
        subst hbf
        go_wp2_with (go_at_call 124; (try rw [s5]); refine (ze _ (Ext.refl _)).mono ?_; rintro e w6 ⟨rfl, E6⟩)
        all_goals
         go_returns
         exact ⟨rfl, E.out.trans E6⟩
       | true =>
        have hz : (Hp.rest S.words a v).all (· == 0) = true := HBZ.out
        have hl2 := HLL.out
        rw [hz, hya] at hl2
        simp only [beq_self_eq_true, Bool.true_and] at hl2
        by_cases hj1 : j + 1 < m
        · obtain ⟨z, hzr⟩ := rd_get (l := G) (j := j + 1) (by rw [EM.out]; exact hj1)
          obtain ⟨b', o', hp', hb', hc'⟩ := N.out.r.at_.cells (by rw [EM.out]; omega)
          cases hp'
          have gz := hc' (j + 1) _ hzr
          have hd : G.drop (j + 1) = z :: G.drop (j + 2) := by
           rw [List.drop_eq_getElem_cons (by rw [EM.out]; exact hj1)]
           unfold Hp.rd at hzr
           rw [List.getElem?_eq_getElem (by rw [EM.out]; exact hj1)] at hzr
           rw [Option.some.inj hzr]
          have t1 : decide ((j : Int) + 1 < (m : Int)) = true := decide_eq_true (by omega)
          rw [hd] at hl2
          simp only at hl2
          by_cases hzv : z = (a : Int) + (v : Int)
          · have t2 : (z == (a : Int) + (v : Int)) = true := by simpa using hzv
            have hbf : bb = false := by
             rw [← hl2, hzv]
             simp
            subst hbf
            clear hl2 hd hzr hc' hz
            go_wp2_with (go_at_call 124; (try rw [s5]); refine (ze _ (Ext.refl _)).mono ?_; rintro e w6 ⟨rfl, E6⟩; have N6 := Lib.hid (N.out.ext E6); have h06 := N6.out.h0; have h16 := N6.out.h1; rw [EM.out] at h16; have gz6 := (E6.cell hb' (o + (j + 1))).trans gz)
            all_goals
             go_returns
             exact ⟨rfl, E.out.trans E6⟩
          · have t2 : (z == (a : Int) + (v : Int)) = false := by simpa using hzv
            have hne : (z != ((a + v : Nat) : Int)) = true := by
             simp
             omega
            rw [hne, Bool.true_and, ← hd] at hl2
            have HL2 := Lib.hid hl2
            clear hl2 hd hzr hc' hz hne
            go_wp2_with (go_at_call 124; (try rw [s5]); refine (ze _ (Ext.refl _)).mono ?_; rintro e w6 ⟨rfl, E6⟩; have N6 := Lib.hid (N.out.ext E6); have h06 := N6.out.h0; have h16 := N6.out.h1; rw [EM.out] at h16; have gz6 := (E6.cell hb' (o + (j + 1))).trans gz)
            all_goals
             go_roundg (m - (j + 1))
             case measure => omega
             case rel => exact ⟨j + 1, a + 2, by omega, Nat.le_refl _, by go_num, by go_num, by omega, HL2, Lib.hid (E.out.trans E6)⟩
        · have hd : G.drop (j + 1) = [] := List.drop_of_length_le (by rw [EM.out]; omega)
          have t1 : decide ((j : Int) + 1 < (m : Int)) = false := decide_eq_false (by omega)
          have hl3 : Hp.linkedB S.words (G.drop (j + 1)) (a + 2) = bb := by
           rw [hd] at hl2 ⊢
           simpa using hl2
          have HL3 := Lib.hid hl3
          clear hl2 hl3 hd hz
          go_wp2_with (go_at_call 124; (try rw [s5]); refine (ze _ (Ext.refl _)).mono ?_; rintro e w6 ⟨rfl, E6⟩; have N6 := Lib.hid (N.out.ext E6); have h06 := N6.out.h0; have h16 := N6.out.h1; rw [EM.out] at h16)
          all_goals
           go_roundg (m - (j + 1))
           case measure => omega
           case rel => exact ⟨j + 1, a + 2, by omega, Nat.le_refl _, by go_num, by go_num, by omega, HL3, Lib.hid (E.out.trans E6)⟩
     · have t0 : (y != (a : Int)) = true := by simpa using hya
       have hbf : bb = false := by
        rw [← HLL.out]
        have : (some y == some (a : Int)) = false := by simpa using hya
        rw [this]
        rfl
       subst hbf
       go_wp2_with fail
       go_returns
       exact ⟨rfl, E.out⟩
   · have : j = m := by omega
     subst this
     have hl := HL.out
     rw [List.drop_of_length_le (by rw [EM.out]; exact Nat.le_refl _)] at hl
     simp only [Hp.linkedB, hy] at hl
     have tk : decide ((j : Int) < (j : Int)) = false := decide_eq_false (by omega)
     have hbe : (y == 0) = bb := by
      rw [← hl]
      simp
     clear hl hy
     go_wp2_with fail
     go_returns
     exact ⟨by rw [← hbe]; rfl, E.out⟩
end Go.Proofs.YtdokmmhjmclmnaaGreat
namespace Go.Proofs.YtdokmmhjmclmnaaGreat
open Go.RowKit Go.Maps
def Hp.usedB (W : List Int) (M : List (Nat × Int)) (x : Int) : Bool := match Hp.rd W (x.toNat + 1), Hp.rd W (x.toNat + 2) with
 | some u, some q => u == (getI x.toNat M).getD 0 && decide (0 ≤ q)
 | _, _ => false
set_option maxHeartbeats 4000000 in
theorem areUsed1_any {w0 w : World} {lb bx bu mu a : Nat} {d : Hd} {S : Hp.Hs} {v : Value} {p : Option Addr} {k : Nat} {G : List Int} {M : List (Nat × Int)} (h : LdAt w0 w lb d S v p k G)
    (hx : w.cell? ⟨bx, 0, none⟩ = some (.pointer (some ⟨lb, 0, none⟩))) (hu : w.cell? ⟨bu, 0, none⟩ = some (.map (some mu))) (hm : MapIAt Tryz.prog w mu M) (ha : a + 2 < S.words.length) :
    Calls Tryz.prog 131 #[.int .i64 a, .pointer (some ⟨bx, 0, none⟩), .pointer (some ⟨bu, 0, none⟩)] w fun e w' => e = .returned (.bool (Hp.usedB S.words M a)) ∧ Ext w w' := by
  have sm := h.small
  have h0 := h.h0
  have c2 := h.c2
  have le := h.le
  have cap := h.cap
  obtain ⟨y, hy⟩ := rd_get (l := S.words) (j := a + 1) (by omega)
  obtain ⟨q, hq⟩ := rd_get (l := S.words) (j := a + 2) ha
  have gy := h.words.get hy
  have gq := h.words.get hq
  obtain ⟨u, hue⟩ : ∃ u, (getI a M).getD 0 = u := ⟨_, rfl⟩
  have HLK := Lib.hid (fun W (hW : Ext w W) => hue ▸ (hm.ext hW).look (t := 119) Tryz.underlying3 Tryz.underlying119 (Tryz.zeroValue3 W) (k := a) (by omega))
  have hr : Hp.usedB S.words M a = (y == u && decide (0 ≤ q)) := by
   have e1 : ((a : Int)).toNat = a := rfl
   simp only [Hp.usedB, e1, hy, hq, hue]
  have e1 : IntKind.i64.wrap ((a : Int) + 1) = (a : Int) + 1 := IntWalk.i64_in _ (by omega)
  have e2 : IntKind.i64.wrap ((a : Int) + 2) = (a : Int) + 2 := IntWalk.i64_in _ (by omega)
  have f1 : ((a : Int) + 1).toNat = a + 1 := by omega
  have f2 : ((a : Int) + 2).toNat = a + 2 := by omega
  have zx := cell_lt hx
  have zu := cell_lt hu
  have zl := cell_lt h0
  have zh := cell_lt c2
  have zg := cell_lt gy
  rw [hr]
  generalize S.words.length = n at *
  clear h hm hy hq hr hue
  have b1 : (0 : Int) ≤ (a : Int) + 1 := by omega
  have b2 : (a : Int) + 1 < (n : Int) := by omega
  have b3 : (0 : Int) ≤ (a : Int) + 2 := by omega
  have b4 : (a : Int) + 2 < (n : Int) := by omega
  by_cases hyu : y = u
  · have t0 : (y == u) = true := by simpa using hyu
    rw [t0, Bool.true_and]
    by_cases hq0 : 0 ≤ q
    · have t1 : decide (q ≥ 0) = true := decide_eq_true hq0
      rw [decide_eq_true hq0]
      go_enter Tryz.func131, Tryz.ntmps131
      go_wp2_with fail
      have PR23 := Lib.hid (fun (ww : World) (hSw : Ext w ww) => And.intro ((hSw.cell zx 0).trans hx) (And.intro ((hSw.cell zu 0).trans hu) (And.intro ((hSw.cell zl 0).trans h0) (And.intro ((hSw.cell zh 2).trans c2) (And.intro ((hSw.cell zg (a + 1)).trans gy) (And.intro ((hSw.cell zg (a + 2)).trans gq) (HLK.out _ hSw)))))))
      refine wp_region_seq (S := fun W => Ext w W) (R := Ext) (by kernel_rfl) Ext.refl ?_ ?_
      · exact exx
      refine' tkL (i := 0) (v := ?v0_1) rfl ?h0_1 ?r0_1
      case h0_1 => (intro w q; obtain ⟨hx', hu', h0', c2', gy', gq', hlk'⟩ := PR23.out w q; go_simp; try with_reducible rfl)
      refine layy ?_
      refine' tkL (i := 1) (v := ?v1_2) rfl ?h1_2 ?r1_2
      case h1_2 => (intro w q; obtain ⟨hx', hu', h0', c2', gy', gq', hlk'⟩ := PR23.out w q; go_simp; try with_reducible rfl)
      refine layy ?_
      refine' tkL (i := 2) (v := ?v2_3) rfl ?h2_3 ?r2_3
      case h2_3 => (intro w q; obtain ⟨hx', hu', h0', c2', gy', gq', hlk'⟩ := PR23.out w q; go_simp; try with_reducible rfl)
      refine layy ?_
      refine' tkL (i := 3) (v := ?v3_4) rfl ?h3_4 ?r3_4
      case h3_4 => (intro w q; obtain ⟨hx', hu', h0', c2', gy', gq', hlk'⟩ := PR23.out w q; go_simp; try with_reducible rfl)
      refine layy ?_
      refine' tkL (i := 4) (v := ?v4_5) rfl ?h4_5 ?r4_5
      case h4_5 => (intro w q; obtain ⟨hx', hu', h0', c2', gy', gq', hlk'⟩ := PR23.out w q; go_simp; try with_reducible rfl)
      refine layy ?_
      refine' tkL (i := 5) (v := ?v5_6) rfl ?h5_6 ?r5_6
      case h5_6 => (intro w q; obtain ⟨hx', hu', h0', c2', gy', gq', hlk'⟩ := PR23.out w q; go_simp; try with_reducible rfl)
      refine layy ?_
      refine' tkL (i := 6) (v := ?v6_7) rfl ?h6_7 ?r6_7
      case h6_7 => (intro w q; obtain ⟨hx', hu', h0', c2', gy', gq', hlk'⟩ := PR23.out w q; go_simp; try with_reducible rfl)
      refine layy ?_
      refine' tkL (i := 7) (v := ?v7_8) rfl ?h7_8 ?r7_8
      case h7_8 => (intro w q; obtain ⟨hx', hu', h0', c2', gy', gq', hlk'⟩ := PR23.out w q; go_simp; try with_reducible rfl)
      refine layy ?_
      refine' tkL (i := 8) (v := ?v8_9) rfl ?h8_9 ?r8_9
      case h8_9 => (intro w q; obtain ⟨hx', hu', h0', c2', gy', gq', hlk'⟩ := PR23.out w q; go_simp; try with_reducible rfl)
      refine layy ?_
      refine' tkL (i := 9) (v := ?v9_10) rfl ?h9_10 ?r9_10
      case h9_10 => (intro w q; obtain ⟨hx', hu', h0', c2', gy', gq', hlk'⟩ := PR23.out w q; go_simp; try with_reducible rfl)
      refine layy ?_
      refine' tkL (i := 10) (v := ?v10_11) rfl ?h10_11 ?r10_11
      case h10_11 => (intro w q; obtain ⟨hx', hu', h0', c2', gy', gq', hlk'⟩ := PR23.out w q; go_simp; try with_reducible rfl)
      refine layy ?_
      refine' tkL (i := 11) (v := ?v11_12) rfl ?h11_12 ?r11_12
      case h11_12 => (intro w q; obtain ⟨hx', hu', h0', c2', gy', gq', hlk'⟩ := PR23.out w q; go_simp; try with_reducible rfl)
      refine layy ?_
      refine' tkL (i := 12) (v := ?v12_13) rfl ?h12_13 ?r12_13
      case h12_13 => (intro w q; obtain ⟨hx', hu', h0', c2', gy', gq', hlk'⟩ := PR23.out w q; go_simp; try with_reducible rfl)
      refine layy ?_
      refine' tkL (i := 13) (v := ?v13_14) rfl ?h13_14 ?r13_14
      case h13_14 => (intro w q; obtain ⟨hx', hu', h0', c2', gy', gq', hlk'⟩ := PR23.out w q; go_simp; try with_reducible rfl)
      refine layy ?_
      refine' tkL (i := 14) (v := ?v14_15) rfl ?h14_15 ?r14_15
      case h14_15 => (intro w q; obtain ⟨hx', hu', h0', c2', gy', gq', hlk'⟩ := PR23.out w q; go_simp; try with_reducible rfl)
      refine layy ?_
      refine' tkL (i := 15) (v := ?v15_16) rfl ?h15_16 ?r15_16
      case h15_16 => (intro w q; obtain ⟨hx', hu', h0', c2', gy', gq', hlk'⟩ := PR23.out w q; go_simp; try with_reducible rfl)
      refine layy ?_
      refine' tkL (i := 16) (v := ?v16_17) rfl ?h16_17 ?r16_17
      case h16_17 => (intro w q; obtain ⟨hx', hu', h0', c2', gy', gq', hlk'⟩ := PR23.out w q; go_simp; try with_reducible rfl)
      refine layy ?_
      refine' tkL (i := 17) (v := ?v17_18) rfl ?h17_18 ?r17_18
      case h17_18 => (intro w q; obtain ⟨hx', hu', h0', c2', gy', gq', hlk'⟩ := PR23.out w q; go_simp; try with_reducible rfl)
      refine layy ?_
      refine' tkL (i := 18) (v := ?v18_19) rfl ?h18_19 ?r18_19
      case h18_19 => (intro w q; obtain ⟨hx', hu', h0', c2', gy', gq', hlk'⟩ := PR23.out w q; go_simp; try with_reducible rfl)
      refine layy ?_
      refine' tkL (i := 19) (v := ?v19_20) rfl ?h19_20 ?r19_20
      case h19_20 => (intro w q; obtain ⟨hx', hu', h0', c2', gy', gq', hlk'⟩ := PR23.out w q; go_simp; try with_reducible rfl)
      refine layy ?_
      refine' tkL (i := 20) (v := ?v20_21) rfl ?h20_21 ?r20_21
      case h20_21 => (intro w q; obtain ⟨hx', hu', h0', c2', gy', gq', hlk'⟩ := PR23.out w q; go_simp; try with_reducible rfl)
      refine layy ?_
      refine' tkL (i := 21) (v := ?v21_22) rfl ?h21_22 ?r21_22
      case h21_22 => (intro w q; obtain ⟨hx', hu', h0', c2', gy', gq', hlk'⟩ := PR23.out w q; go_simp; try with_reducible rfl)
      refine layy ?_
      refine' tkL (i := 22) (v := ?v22_23) rfl ?h22_23 ?r22_23
      case h22_23 => (intro w q; obtain ⟨hx', hu', h0', c2', gy', gq', hlk'⟩ := PR23.out w q; go_simp; try with_reducible rfl)
      refine layy ?_
      refine' tkL (i := 23) (v := ?v23_24) rfl ?h23_24 ?r23_24
      case h23_24 => (intro w q; obtain ⟨hx', hu', h0', c2', gy', gq', hlk'⟩ := PR23.out w q; go_simp; try with_reducible rfl)
      refine layy ?_
      refine' tkL (i := 24) (v := ?v24_25) rfl ?h24_25 ?r24_25
      case h24_25 => (intro w q; obtain ⟨hx', hu', h0', c2', gy', gq', hlk'⟩ := PR23.out w q; go_simp; try with_reducible rfl)
      refine layy ?_
      refine' tkL (i := 25) (v := ?v25_26) rfl ?h25_26 ?r25_26
      case h25_26 => (intro w q; obtain ⟨hx', hu', h0', c2', gy', gq', hlk'⟩ := PR23.out w q; go_simp; try with_reducible rfl)
      refine layy ?_
      refine' tkL (i := 26) (v := ?v26_27) rfl ?h26_27 ?r26_27
      case h26_27 => (intro w q; obtain ⟨hx', hu', h0', c2', gy', gq', hlk'⟩ := PR23.out w q; go_simp; try with_reducible rfl)
      refine layy ?_
      refine' tkL (i := 27) (v := ?v27_28) rfl ?h27_28 ?r27_28
      case h27_28 => (intro w q; obtain ⟨hx', hu', h0', c2', gy', gq', hlk'⟩ := PR23.out w q; go_simp; try with_reducible rfl)
      refine layy ?_
      refine' tkL (i := 28) (v := ?v28_29) rfl ?h28_29 ?r28_29
      case h28_29 => (intro w q; obtain ⟨hx', hu', h0', c2', gy', gq', hlk'⟩ := PR23.out w q; go_simp; try with_reducible rfl)
      refine layy ?_
      refine' tkL (i := 29) (v := ?v29_30) rfl ?h29_30 ?r29_30
      case h29_30 => (intro w q; obtain ⟨hx', hu', h0', c2', gy', gq', hlk'⟩ := PR23.out w q; go_simp; try with_reducible rfl)
      refine layy ?_
      refine wpAnyR_done (by kernel_rfl) ?_ _
      intro x1 _ Ex1
      go_wp2
      go_returns
      exact ⟨rfl, exx⟩
    · have t1 : decide (q ≥ 0) = false := decide_eq_false hq0
      rw [decide_eq_false hq0]
      go_enter Tryz.func131, Tryz.ntmps131
      go_wp2_with fail
      have PR24 := Lib.hid (fun (ww : World) (hSw : Ext w ww) => And.intro ((hSw.cell zx 0).trans hx) (And.intro ((hSw.cell zu 0).trans hu) (And.intro ((hSw.cell zl 0).trans h0) (And.intro ((hSw.cell zh 2).trans c2) (And.intro ((hSw.cell zg (a + 1)).trans gy) (And.intro ((hSw.cell zg (a + 2)).trans gq) (HLK.out _ hSw)))))))
      refine wp_region_seq (S := fun W => Ext w W) (R := Ext) (by kernel_rfl) Ext.refl ?_ ?_
      · exact exx
      refine' tkL (i := 0) (v := ?v0_31) rfl ?h0_31 ?r0_31
      case h0_31 => (intro w q; obtain ⟨hx', hu', h0', c2', gy', gq', hlk'⟩ := PR24.out w q; go_simp; try with_reducible rfl)
      refine layy ?_
      refine' tkL (i := 1) (v := ?v1_32) rfl ?h1_32 ?r1_32
      case h1_32 => (intro w q; obtain ⟨hx', hu', h0', c2', gy', gq', hlk'⟩ := PR24.out w q; go_simp; try with_reducible rfl)
      refine layy ?_
      refine' tkL (i := 2) (v := ?v2_33) rfl ?h2_33 ?r2_33
      case h2_33 => (intro w q; obtain ⟨hx', hu', h0', c2', gy', gq', hlk'⟩ := PR24.out w q; go_simp; try with_reducible rfl)
      refine layy ?_
      refine' tkL (i := 3) (v := ?v3_34) rfl ?h3_34 ?r3_34
      case h3_34 => (intro w q; obtain ⟨hx', hu', h0', c2', gy', gq', hlk'⟩ := PR24.out w q; go_simp; try with_reducible rfl)
      refine layy ?_
      refine' tkL (i := 4) (v := ?v4_35) rfl ?h4_35 ?r4_35
      case h4_35 => (intro w q; obtain ⟨hx', hu', h0', c2', gy', gq', hlk'⟩ := PR24.out w q; go_simp; try with_reducible rfl)
      refine layy ?_
      refine' tkL (i := 5) (v := ?v5_36) rfl ?h5_36 ?r5_36
      case h5_36 => (intro w q; obtain ⟨hx', hu', h0', c2', gy', gq', hlk'⟩ := PR24.out w q; go_simp; try with_reducible rfl)
      refine layy ?_
      refine' tkL (i := 6) (v := ?v6_37) rfl ?h6_37 ?r6_37
      case h6_37 => (intro w q; obtain ⟨hx', hu', h0', c2', gy', gq', hlk'⟩ := PR24.out w q; go_simp; try with_reducible rfl)
      refine layy ?_
      refine' tkL (i := 7) (v := ?v7_38) rfl ?h7_38 ?r7_38
      case h7_38 => (intro w q; obtain ⟨hx', hu', h0', c2', gy', gq', hlk'⟩ := PR24.out w q; go_simp; try with_reducible rfl)
      refine layy ?_
      refine' tkL (i := 8) (v := ?v8_39) rfl ?h8_39 ?r8_39
      case h8_39 => (intro w q; obtain ⟨hx', hu', h0', c2', gy', gq', hlk'⟩ := PR24.out w q; go_simp; try with_reducible rfl)
      refine layy ?_
      refine' tkL (i := 9) (v := ?v9_40) rfl ?h9_40 ?r9_40
      case h9_40 => (intro w q; obtain ⟨hx', hu', h0', c2', gy', gq', hlk'⟩ := PR24.out w q; go_simp; try with_reducible rfl)
      refine layy ?_
      refine' tkL (i := 10) (v := ?v10_41) rfl ?h10_41 ?r10_41
      case h10_41 => (intro w q; obtain ⟨hx', hu', h0', c2', gy', gq', hlk'⟩ := PR24.out w q; go_simp; try with_reducible rfl)
      refine layy ?_
      refine' tkL (i := 11) (v := ?v11_42) rfl ?h11_42 ?r11_42
      case h11_42 => (intro w q; obtain ⟨hx', hu', h0', c2', gy', gq', hlk'⟩ := PR24.out w q; go_simp; try with_reducible rfl)
      refine layy ?_
      refine' tkL (i := 12) (v := ?v12_43) rfl ?h12_43 ?r12_43
      case h12_43 => (intro w q; obtain ⟨hx', hu', h0', c2', gy', gq', hlk'⟩ := PR24.out w q; go_simp; try with_reducible rfl)
      refine layy ?_
      refine' tkL (i := 13) (v := ?v13_44) rfl ?h13_44 ?r13_44
      case h13_44 => (intro w q; obtain ⟨hx', hu', h0', c2', gy', gq', hlk'⟩ := PR24.out w q; go_simp; try with_reducible rfl)
      refine layy ?_
      refine' tkL (i := 14) (v := ?v14_45) rfl ?h14_45 ?r14_45
      case h14_45 => (intro w q; obtain ⟨hx', hu', h0', c2', gy', gq', hlk'⟩ := PR24.out w q; go_simp; try with_reducible rfl)
      refine layy ?_
      refine' tkL (i := 15) (v := ?v15_46) rfl ?h15_46 ?r15_46
      case h15_46 => (intro w q; obtain ⟨hx', hu', h0', c2', gy', gq', hlk'⟩ := PR24.out w q; go_simp; try with_reducible rfl)
      refine layy ?_
      refine' tkL (i := 16) (v := ?v16_47) rfl ?h16_47 ?r16_47
      case h16_47 => (intro w q; obtain ⟨hx', hu', h0', c2', gy', gq', hlk'⟩ := PR24.out w q; go_simp; try with_reducible rfl)
      refine layy ?_
      refine' tkL (i := 17) (v := ?v17_48) rfl ?h17_48 ?r17_48
      case h17_48 => (intro w q; obtain ⟨hx', hu', h0', c2', gy', gq', hlk'⟩ := PR24.out w q; go_simp; try with_reducible rfl)
      refine layy ?_
      refine' tkL (i := 18) (v := ?v18_49) rfl ?h18_49 ?r18_49
      case h18_49 => (intro w q; obtain ⟨hx', hu', h0', c2', gy', gq', hlk'⟩ := PR24.out w q; go_simp; try with_reducible rfl)
      refine layy ?_
      refine' tkL (i := 19) (v := ?v19_50) rfl ?h19_50 ?r19_50
      case h19_50 => (intro w q; obtain ⟨hx', hu', h0', c2', gy', gq', hlk'⟩ := PR24.out w q; go_simp; try with_reducible rfl)
      refine layy ?_
      refine' tkL (i := 20) (v := ?v20_51) rfl ?h20_51 ?r20_51
      case h20_51 => (intro w q; obtain ⟨hx', hu', h0', c2', gy', gq', hlk'⟩ := PR24.out w q; go_simp; try with_reducible rfl)
      refine layy ?_
      refine' tkL (i := 21) (v := ?v21_52) rfl ?h21_52 ?r21_52
      case h21_52 => (intro w q; obtain ⟨hx', hu', h0', c2', gy', gq', hlk'⟩ := PR24.out w q; go_simp; try with_reducible rfl)
      refine layy ?_
      refine' tkL (i := 22) (v := ?v22_53) rfl ?h22_53 ?r22_53
      case h22_53 => (intro w q; obtain ⟨hx', hu', h0', c2', gy', gq', hlk'⟩ := PR24.out w q; go_simp; try with_reducible rfl)
      refine layy ?_
      refine' tkL (i := 23) (v := ?v23_54) rfl ?h23_54 ?r23_54
      case h23_54 => (intro w q; obtain ⟨hx', hu', h0', c2', gy', gq', hlk'⟩ := PR24.out w q; go_simp; try with_reducible rfl)
      refine layy ?_
      refine' tkL (i := 24) (v := ?v24_55) rfl ?h24_55 ?r24_55
      case h24_55 => (intro w q; obtain ⟨hx', hu', h0', c2', gy', gq', hlk'⟩ := PR24.out w q; go_simp; try with_reducible rfl)
      refine layy ?_
      refine' tkL (i := 25) (v := ?v25_56) rfl ?h25_56 ?r25_56
      case h25_56 => (intro w q; obtain ⟨hx', hu', h0', c2', gy', gq', hlk'⟩ := PR24.out w q; go_simp; try with_reducible rfl)
      refine layy ?_
      refine' tkL (i := 26) (v := ?v26_57) rfl ?h26_57 ?r26_57
      case h26_57 => (intro w q; obtain ⟨hx', hu', h0', c2', gy', gq', hlk'⟩ := PR24.out w q; go_simp; try with_reducible rfl)
      refine layy ?_
      refine' tkL (i := 27) (v := ?v27_58) rfl ?h27_58 ?r27_58
      case h27_58 => (intro w q; obtain ⟨hx', hu', h0', c2', gy', gq', hlk'⟩ := PR24.out w q; go_simp; try with_reducible rfl)
      refine layy ?_
      refine' tkL (i := 28) (v := ?v28_59) rfl ?h28_59 ?r28_59
      case h28_59 => (intro w q; obtain ⟨hx', hu', h0', c2', gy', gq', hlk'⟩ := PR24.out w q; go_simp; try with_reducible rfl)
      refine layy ?_
      refine' tkL (i := 29) (v := ?v29_60) rfl ?h29_60 ?r29_60
      case h29_60 => (intro w q; obtain ⟨hx', hu', h0', c2', gy', gq', hlk'⟩ := PR24.out w q; go_simp; try with_reducible rfl)
      refine layy ?_
      refine wpAnyR_done (by kernel_rfl) ?_ _
      intro x1 _ Ex1
      go_wp2
      go_returns
      exact ⟨rfl, exx⟩
  · have t0 : (y == u) = false := by simpa using hyu
    rw [t0, Bool.false_and]
    go_enter Tryz.func131, Tryz.ntmps131
    go_wp2_with fail
    have PR25 := Lib.hid (fun (ww : World) (hSw : Ext w ww) => And.intro ((hSw.cell zx 0).trans hx) (And.intro ((hSw.cell zu 0).trans hu) (And.intro ((hSw.cell zl 0).trans h0) (And.intro ((hSw.cell zh 2).trans c2) (And.intro ((hSw.cell zg (a + 1)).trans gy) (And.intro ((hSw.cell zg (a + 2)).trans gq) (HLK.out _ hSw)))))))
    refine wp_region_seq (S := fun W => Ext w W) (R := Ext) (by kernel_rfl) Ext.refl ?_ ?_
    · exact exx
    refine' tkL (i := 0) (v := ?v0_61) rfl ?h0_61 ?r0_61
    case h0_61 => (intro w q; obtain ⟨hx', hu', h0', c2', gy', gq', hlk'⟩ := PR25.out w q; go_simp; try with_reducible rfl)
    refine layy ?_
    refine' tkL (i := 1) (v := ?v1_62) rfl ?h1_62 ?r1_62
    case h1_62 => (intro w q; obtain ⟨hx', hu', h0', c2', gy', gq', hlk'⟩ := PR25.out w q; go_simp; try with_reducible rfl)
    refine layy ?_
    refine' tkL (i := 2) (v := ?v2_63) rfl ?h2_63 ?r2_63
    case h2_63 => (intro w q; obtain ⟨hx', hu', h0', c2', gy', gq', hlk'⟩ := PR25.out w q; go_simp; try with_reducible rfl)
    refine layy ?_
    refine' tkL (i := 3) (v := ?v3_64) rfl ?h3_64 ?r3_64
    case h3_64 => (intro w q; obtain ⟨hx', hu', h0', c2', gy', gq', hlk'⟩ := PR25.out w q; go_simp; try with_reducible rfl)
    refine layy ?_
    refine' tkL (i := 4) (v := ?v4_65) rfl ?h4_65 ?r4_65
    case h4_65 => (intro w q; obtain ⟨hx', hu', h0', c2', gy', gq', hlk'⟩ := PR25.out w q; go_simp; try with_reducible rfl)
    refine layy ?_
    refine' tkL (i := 5) (v := ?v5_66) rfl ?h5_66 ?r5_66
    case h5_66 => (intro w q; obtain ⟨hx', hu', h0', c2', gy', gq', hlk'⟩ := PR25.out w q; go_simp; try with_reducible rfl)
    refine layy ?_
    refine' tkL (i := 6) (v := ?v6_67) rfl ?h6_67 ?r6_67
    case h6_67 => (intro w q; obtain ⟨hx', hu', h0', c2', gy', gq', hlk'⟩ := PR25.out w q; go_simp; try with_reducible rfl)
    refine layy ?_
    refine' tkL (i := 7) (v := ?v7_68) rfl ?h7_68 ?r7_68
    case h7_68 => (intro w q; obtain ⟨hx', hu', h0', c2', gy', gq', hlk'⟩ := PR25.out w q; go_simp; try with_reducible rfl)
    refine layy ?_
    refine' tkL (i := 8) (v := ?v8_69) rfl ?h8_69 ?r8_69
    case h8_69 => (intro w q; obtain ⟨hx', hu', h0', c2', gy', gq', hlk'⟩ := PR25.out w q; go_simp; try with_reducible rfl)
    refine layy ?_
    refine' tkL (i := 9) (v := ?v9_70) rfl ?h9_70 ?r9_70
    case h9_70 => (intro w q; obtain ⟨hx', hu', h0', c2', gy', gq', hlk'⟩ := PR25.out w q; go_simp; try with_reducible rfl)
    refine layy ?_
    refine' tkL (i := 10) (v := ?v10_71) rfl ?h10_71 ?r10_71
    case h10_71 => (intro w q; obtain ⟨hx', hu', h0', c2', gy', gq', hlk'⟩ := PR25.out w q; go_simp; try with_reducible rfl)
    refine layy ?_
    refine' tkL (i := 11) (v := ?v11_72) rfl ?h11_72 ?r11_72
    case h11_72 => (intro w q; obtain ⟨hx', hu', h0', c2', gy', gq', hlk'⟩ := PR25.out w q; go_simp; try with_reducible rfl)
    refine layy ?_
    refine' tkL (i := 12) (v := ?v12_73) rfl ?h12_73 ?r12_73
    case h12_73 => (intro w q; obtain ⟨hx', hu', h0', c2', gy', gq', hlk'⟩ := PR25.out w q; go_simp; try with_reducible rfl)
    refine layy ?_
    refine' tkL (i := 13) (v := ?v13_74) rfl ?h13_74 ?r13_74
    case h13_74 => (intro w q; obtain ⟨hx', hu', h0', c2', gy', gq', hlk'⟩ := PR25.out w q; go_simp; try with_reducible rfl)
    refine layy ?_
    refine' tkL (i := 14) (v := ?v14_75) rfl ?h14_75 ?r14_75
    case h14_75 => (intro w q; obtain ⟨hx', hu', h0', c2', gy', gq', hlk'⟩ := PR25.out w q; go_simp; try with_reducible rfl)
    refine layy ?_
    refine' tkL (i := 15) (v := ?v15_76) rfl ?h15_76 ?r15_76
    case h15_76 => (intro w q; obtain ⟨hx', hu', h0', c2', gy', gq', hlk'⟩ := PR25.out w q; go_simp; try with_reducible rfl)
    refine layy ?_
    refine' tkR (i := 16) (v := undef) rfl (Or.inl (Or.inr ⟨by rfl, rfl⟩)) ?rest16_77
    refine layy ?_
    refine' tkR (i := 17) (v := undef) rfl (Or.inl (Or.inr ⟨by rfl, rfl⟩)) ?rest17_78
    refine layy ?_
    refine' tkR (i := 18) (v := undef) rfl (Or.inl (Or.inr ⟨by rfl, rfl⟩)) ?rest18_79
    refine layy ?_
    refine' tkR (i := 19) (v := undef) rfl (Or.inl (Or.inr ⟨by rfl, rfl⟩)) ?rest19_80
    refine layy ?_
    refine' tkR (i := 20) (v := undef) rfl (Or.inl (Or.inr ⟨by rfl, rfl⟩)) ?rest20_81
    refine layy ?_
    refine' tkR (i := 21) (v := undef) rfl (Or.inl (Or.inr ⟨by rfl, rfl⟩)) ?rest21_82
    refine layy ?_
    refine' tkR (i := 22) (v := undef) rfl (Or.inl (Or.inr ⟨by rfl, rfl⟩)) ?rest22_83
    refine layy ?_
    refine' tkR (i := 23) (v := undef) rfl (Or.inl (Or.inr ⟨by rfl, rfl⟩)) ?rest23_84
    refine layy ?_
    refine' tkR (i := 24) (v := undef) rfl (Or.inl (Or.inr ⟨by rfl, rfl⟩)) ?rest24_85
    refine layy ?_
    refine' tkR (i := 25) (v := undef) rfl (Or.inl (Or.inr ⟨by rfl, rfl⟩)) ?rest25_86
    refine layy ?_
    refine' tkR (i := 26) (v := undef) rfl (Or.inl (Or.inr ⟨by rfl, rfl⟩)) ?rest26_87
    refine layy ?_
    refine' tkR (i := 27) (v := undef) rfl (Or.inl (Or.inr ⟨by rfl, rfl⟩)) ?rest27_88
    refine layy ?_
    refine' tkL (i := 28) (v := ?v28_89) rfl ?h28_89 ?r28_89
    case h28_89 => (intro w q; obtain ⟨hx', hu', h0', c2', gy', gq', hlk'⟩ := PR25.out w q; go_simp; try with_reducible rfl)
    refine layy ?_
    refine' tkL (i := 29) (v := ?v29_90) rfl ?h29_90 ?r29_90
    case h29_90 => (intro w q; obtain ⟨hx', hu', h0', c2', gy', gq', hlk'⟩ := PR25.out w q; go_simp; try with_reducible rfl)
    refine layy ?_
    refine wpAnyR_done (by kernel_rfl) ?_ _
    intro x1 _ Ex1
    go_wp2
    go_returns
    exact ⟨rfl, exx⟩
def Hp.laterB (S : Hp.Hs) (r : Int) (x : Int) : Bool := S.has x && (match Hp.rd S.words x.toNat with | some t => decide (Hp.rank S.order t > r) | none => false)
end Go.Proofs.YtdokmmhjmclmnaaGreat
