/-
  Part 22 of a proof: HFn52 PL16 PL17 PL18 PL19 PL20.
-/
import Derived.DeepKeys4
import Derived.Maps.Own
import Derived.Test.YtdokmmhjmclmnaaGreatM10
import Derived.Test.YtdokmmhjmclmnaaGreatM12
import Derived.Test.YtdokmmhjmclmnaaGreatM17
import Derived.Test.YtdokmmhjmclmnaaGreatM21
set_option linter.unusedSimpArgs false
set_option linter.unusedVariables false
set_option linter.unusedSectionVars false
set_option linter.unnecessarySimpa false
namespace Go.Proofs.YtdokmmhjmclmnaaGreat
open Go.RowKit Go.Maps
theorem cellKT : Tryz.prog.keyTypeAt 3 152 = true := by kernel_rfl
theorem cellTI : Tryz.prog.tiled 3 152 = true := by kernel_rfl
theorem three_le : 3 + 1 ≤ 10000 := Nat.le_of_ble_eq_true (by kernel_rfl)
theorem cellLaw : WideMaps.KeyLaw Tryz.prog 152 := deep_law (m := 3) three_le cellKT cellTI (by rw [Tryz.underlying152])
theorem cellKeyed : Maps.Keyed Tryz.prog 152 := Maps.Keyed.of_law cellLaw
theorem keyLits_int (d : Nat) {x : Int} (h : -9223372036854775808 ≤ x ∧ x ≤ 9223372036854775807) : Tryz.prog.keyLits (d + 1) 3 [.int .i64 x] = some [.int .i64 x] := by
 unfold Program.keyLits
 rw [Tryz.underlying3]
 have wf : (Lit.int .i64 x).wf = true := WalkArith.wf_i64 (by omega)
 simp [wf]
theorem types_le : 3 ≤ Tryz.prog.types.size := Nat.le_of_ble_eq_true (by kernel_rfl)
theorem cellsOf_cell : Tryz.prog.cellsOf 152 = 13 := by kernel_rfl
theorem cellsOf_arr : Tryz.prog.cellsOf 150 = 12 := by kernel_rfl
theorem cellsOf_int : Tryz.prog.cellsOf 3 = 1 := by kernel_rfl
theorem keyType_cell : Tryz.prog.keyType 152 = true := by kernel_rfl
theorem keyOf_cell {l : List Int} (hl : l.length = 13) (h : ∀ x ∈ l, -9223372036854775808 ≤ x ∧ x ≤ 9223372036854775807) : ∃ k, keyOf Tryz.prog 152 (.agg (ints l).toArray) = some k := by
 match l, hl with
 | [a0, a1, a2, a3, a4, a5, a6, a7, a8, a9, a10, a11, a12], _ =>
  obtain ⟨d, hd⟩ : ∃ d, Tryz.prog.types.size = d + 2 := ⟨Tryz.prog.types.size - 2, by have := types_le; omega⟩
  have e : ∀ x ∈ [a0, a1, a2, a3, a4, a5, a6, a7, a8, a9, a10, a11, a12], ∀ d, Tryz.prog.keyLits (d + 1) 3 [.int .i64 x] = some [.int .i64 x] := fun x hx d => keyLits_int d (h x hx)
  have arr : ∃ k, Tryz.prog.keyLits (d + 2) 150 [.int .i64 a1, .int .i64 a2, .int .i64 a3, .int .i64 a4, .int .i64 a5, .int .i64 a6, .int .i64 a7, .int .i64 a8, .int .i64 a9, .int .i64 a10, .int .i64 a11, .int .i64 a12] = some k := by
   unfold Program.keyLits
   rw [Tryz.underlying150]
   simp only [cellsOf_arr, cellsOf_int]
   simp [List.range, List.range.loop, e a1 (by simp), e a2 (by simp), e a3 (by simp), e a4 (by simp), e a5 (by simp), e a6 (by simp), e a7 (by simp), e a8 (by simp), e a9 (by simp), e a10 (by simp), e a11 (by simp), e a12 (by simp)]
  obtain ⟨k, hk⟩ := arr
  have top : ∃ k, Tryz.prog.keyLits (d + 3) 152 [.int .i64 a0, .int .i64 a1, .int .i64 a2, .int .i64 a3, .int .i64 a4, .int .i64 a5, .int .i64 a6, .int .i64 a7, .int .i64 a8, .int .i64 a9, .int .i64 a10, .int .i64 a11, .int .i64 a12] = some k := by
   unfold Program.keyLits
   rw [Tryz.underlying152]
   simp only [cellsOf_cell]
   simp [cellsOf_arr, cellsOf_int, e a0 (by simp), hk]
  obtain ⟨k', hk'⟩ := top
  unfold keyOf
  rw [Tryz.underlying152]
  simp only
  have hf : (Value.agg (ints [a0, a1, a2, a3, a4, a5, a6, a7, a8, a9, a10, a11, a12]).toArray).formed Tryz.prog 152 = true := by
   simp [Value.formed, Tryz.underlying152, cellsOf_cell, ints]
  rw [keyType_cell, hf, hd]
  simp only [Bool.and_self, if_true]
  rw [show (Value.agg (ints [a0, a1, a2, a3, a4, a5, a6, a7, a8, a9, a10, a11, a12]).toArray).cells.toList = [.int .i64 a0, .int .i64 a1, .int .i64 a2, .int .i64 a3, .int .i64 a4, .int .i64 a5, .int .i64 a6, .int .i64 a7, .int .i64 a8, .int .i64 a9, .int .i64 a10, .int .i64 a11, .int .i64 a12] from rfl, hk']
  exact ⟨_, rfl⟩
def KeysAt (w : World) (g : Nat) (Ks : List (List Int)) : Prop := ∃ D : DataW Unit, w.ownsMap Tryz.prog 152 (plainElem (H := Unit) Tryz.prog 4) g Ks.length D ∧ ∀ (l : List Int) (kl : Lit), l ∉ Ks → keyOf Tryz.prog 152 (.agg (ints l).toArray) = some kl → ∀ z, D.atKey kl z = z
theorem ints_inj : ∀ {a b : List Int}, ints a = ints b → a = b
 | [], [], _ => rfl
 | [], _ :: _, h => by simp [ints] at h
 | _ :: _, [], h => by simp [ints] at h
 | x :: a, y :: b, h => by
  simp only [ints, List.map_cons, List.cons.injEq] at h
  obtain ⟨h1, h2⟩ := h
  injection h1 with _ h1
  rw [h1, ints_inj h2]
namespace KeysAt
variable {w w' : World} {g : Nat} {Ks : List (List Int)}
theorem made (w : World) : KeysAt (w.alloc (.map #[] 0)) w.heap.size [] :=
 ⟨_, World.ownsMap_made w Tryz.prog 152 (plainElem (H := Unit) Tryz.prog 4), fun _ _ _ _ _ => rfl⟩
theorem lt (h : KeysAt w g Ks) : g < w.heap.size := by
 obtain ⟨D, h1, _⟩ := h
 exact h1.lt
theorem ofBlock (h : KeysAt w g Ks) (e : w'.heap[g]? = w.heap[g]?) : KeysAt w' g Ks := by
 obtain ⟨D, ⟨es, clock, hb, r⟩, h2⟩ := h
 exact ⟨D, ⟨es, clock, e.trans hb, r⟩, h2⟩
theorem but (h : KeysAt w g Ks) {l : List Nat} (k : But l w w') (hg : g ∉ l) : KeysAt w' g Ks := h.ofBlock (k.block g h.lt hg)
theorem ext (h : KeysAt w g Ks) (k : Ext w w') : KeysAt w' g Ks := h.ofBlock (k.block g h.lt)
theorem look (h : KeysAt w g Ks) {l : List Int} (hl : l.length = 13) (hb : ∀ x ∈ l, -9223372036854775808 ≤ x ∧ x ≤ 9223372036854775807) (hn : l ∉ Ks) : (Instr.lookup 149 (.map (some g)) (.agg (ints l).toArray) false).run Tryz.prog w = .ok (.bool false) w := by
 obtain ⟨D, h1, h2⟩ := h
 obtain ⟨kl, hk⟩ := keyOf_cell hl hb
 obtain ⟨v, ps, hrun, hv⟩ := h1.lookup cellKeyed Tryz.underlying149 (Tryz.zeroValue4 w) (plainElem_bool Tryz.underlying4 false) hk
 rw [hrun]
 rw [h2 l kl hn hk] at hv
 rw [plainElem_bool_inv Tryz.underlying4 hv]
theorem put (h : KeysAt w g Ks) {l : List Int} (hl : l.length = 13) (hb : ∀ x ∈ l, -9223372036854775808 ≤ x ∧ x ≤ 9223372036854775807) (hn : Ks.length < maxLen) : ∃ w', (Instr.mapUpdate 149 (.map (some g)) (.agg (ints l).toArray) (.bool true)).run Tryz.prog w = .ok () w' ∧ KeysAt w' g (l :: Ks) ∧ w.mapTurned w' g := by
 obtain ⟨D, h1, h2⟩ := h
 obtain ⟨kl, hk⟩ := keyOf_cell hl hb
 obtain ⟨w', hrun, ho, ht⟩ := h1.store cellKeyed Tryz.underlying149 hn hk (plainElem_bool Tryz.underlying4 true)
 refine ⟨w', hrun, ⟨_, ho, fun l' kl' hm hk' z => ?_⟩, ht⟩
 simp only [List.mem_cons, not_or] at hm
 rw [atKey_put_other (fun e => hm.1 ?_)]
 · exact h2 l' kl' hm.2 hk' z
 · subst e
   have h3 := Value.agg.inj (cellKeyed.inj hk' hk)
   exact ints_inj (List.toArray_inj h3)
end KeysAt
def keyL (S : Hp.Hs) (a : Nat) : List Int := Hp.ow S.words a :: (Hp.fz (Hp.ow S.words) S.sizes a ++ List.replicate (12 - (Hp.fz (Hp.ow S.words) S.sizes a).length) 0)
theorem keyL_len {S : Hp.Hs} {B : Nat} {L : List Hp.Tl} {ch : Nat → List Nat} (h : Hp.Wf S B L ch) {a : Nat} (ha : a ∈ S.taken) : (keyL S a).length = 13 := by
 have := h.part ha
 have := Hp.fz_length (Hp.ow S.words) S.sizes a
 simp [keyL]
 omega
theorem keyL_bd {S : Hp.Hs} {B : Nat} {L : List Hp.Tl} {ch : Nat → List Nat} (h : Hp.Wf S B L ch) {a : Nat} (ha : a ∈ S.taken) : ∀ x ∈ keyL S a, -9223372036854775808 ≤ x ∧ x ≤ 9223372036854775807 := fun x hx => by
 unfold keyL at hx
 rcases List.mem_cons.1 hx with rfl | hx
 · have := h.tag_le ha; omega
 · rcases List.mem_append.1 hx with hx | hx
   · have := h.fld_le ha x hx; omega
   · rw [List.eq_of_mem_replicate hx]; omega
theorem keyL_inj {S : Hp.Hs} {B : Nat} {L : List Hp.Tl} {ch : Nat → List Nat} (h : Hp.Wf S B L ch) {a b : Nat} (ha : a ∈ S.taken) (hb : b ∈ S.taken) (e : keyL S a = keyL S b) : a = b := by
 unfold keyL at e
 injection e with e1 e2
 have hl : (Hp.fz (Hp.ow S.words) S.sizes a).length = (Hp.fz (Hp.ow S.words) S.sizes b).length := by rw [Hp.fz_length, Hp.fz_length, e1]
 exact h.cells.one a ha b hb e1 (List.append_inj e2 hl).1
end Go.Proofs.YtdokmmhjmclmnaaGreat
namespace Go.Proofs.YtdokmmhjmclmnaaGreat
namespace Hp
def gapsOf (L : List Tl) : List Int := (freeOf L).map fun t => (t.a : Int)
theorem gapsOf_app (P Q : List Tl) : gapsOf (P ++ Q) = gapsOf P ++ gapsOf Q := by simp [gapsOf, freeOf]
theorem okTag_or {z : List Int} {t : Int} (h : okTag z t = true) : (within 1 z.length t || isEnd t) = true := h
theorem lay_len : ∀ {s n : Nat} {L : List Tl}, Lay s L n → s + 3 * L.length ≤ n
 | _, _, [], h => by have : _ = _ := h; simp; omega
 | s, n, t :: r, h => by
  have := lay_len h.2.2
  have := h.2.1
  simp only [List.length_cons]
  omega
theorem adsOf_lt {s n : Nat} {L : List Tl} (h : Lay s L n) : ∀ y ∈ adsOf L, y < n := fun y hy => by
 obtain ⟨t, ht, _, rfl⟩ := mem_adsOf.1 hy
 have := h.mem ht
 omega
theorem Wf.walk_from {S : Hs} {B : Nat} {L : List Tl} {ch : Nat → List Nat} (h : Wf S B L ch) : ∀ (P D : List Tl) (m a : Nat), L = D ++ P → Lay 17 D a → Lay a P S.words.length → P.length < m →
    S.walkFrom m a (adsOf D) (gapsOf D) = some (some (adsOf L, gapsOf L))
  | _, _, 0, _, _, _, _, hm => by omega
  | [], D, m + 1, a, hL, hD, hP, hm => by
   have e : a = S.words.length := hP
   unfold Hs.walkFrom
   rw [if_pos (by omega), hL, List.append_nil]
  | t :: P, D, m + 1, a, hL, hD, hP, hm => by
   obtain ⟨e, hk, hP⟩ := hP
   have ht : t ∈ L := by rw [hL]; simp
   have hle := h.parts.lay.mem ht
   have hok := h.parts.ok t ht
   have ih := fun hDt => Wf.walk_from h P (D ++ [t]) m (a + t.k) (by rw [hL]; simp) hDt hP (by simpa using hm)
   have hDt : Lay 17 (D ++ [t]) (a + t.k) := Lay.app.2 ⟨a, hD, e, hk, rfl⟩
   have ih := ih hDt
   unfold Hs.walkFrom
   rw [if_neg (by omega), rd_ow (by omega)]
   simp only [Option.bind_eq_bind, Option.bind_some]
   cases hf : t.fr with
   | true =>
    obtain ⟨h1, h2, h3⟩ := hok.free hf
    rw [e] at h1 h2
    rw [if_pos h1, if_neg (by omega), rd_ow (by omega)]
    simp only [Option.bind_some]
    rw [h2, if_pos (by omega), Int.toNat_natCast]
    have e1 : adsOf (D ++ [t]) = adsOf D := by simp [adsOf, hf]
    have e2 : gapsOf (D ++ [t]) = gapsOf D ++ [(a : Int)] := by rw [gapsOf_app]; simp [gapsOf, freeOf, hf, e]
    rw [e1, e2] at ih
    exact ih
   | false =>
    obtain ⟨h1, h2⟩ := hok.cell hf
    rw [e] at h1 h2
    have hw := wz_ok h.fr.toFr h1
    have hg := okTag_le h.fr.toFr h1
    rw [if_neg (by omega), if_pos (okTag_or h1), hw.1]
    simp only [Option.bind_some]
    rw [← h2, if_pos (by omega)]
    have e1 : adsOf (D ++ [t]) = Hs.insert a (adsOf D) := by
     rw [insert_last (fun y hy => adsOf_lt hD y hy), adsOf_app]
     simp [adsOf, hf, e]
    have e2 : gapsOf (D ++ [t]) = gapsOf D := by simp [gapsOf, freeOf, hf]
    rw [e1, e2] at ih
    exact ih
theorem Wf.walk {S : Hs} {B : Nat} {L : List Tl} {ch : Nat → List Nat} (h : Wf S B L ch) : S.walkFrom S.fuel 17 [] [] = some (some (S.taken, gapsOf L)) := by
 rw [h.taken]
 have := lay_len h.parts.lay
 exact h.walk_from L [] S.fuel 17 rfl rfl h.parts.lay (by unfold Hs.fuel; omega)
theorem gapsOf_len {s n : Nat} {L : List Tl} (h : Lay s L n) : (gapsOf L).length ≤ n := by
 have := lay_len h
 have : (gapsOf L).length ≤ L.length := by
  unfold gapsOf freeOf
  rw [List.length_map]
  exact List.length_filter_le _ _
 omega
theorem Wf.gaps {S : Hs} {B : Nat} {L : List Tl} {ch : Nat → List Nat} (h : Wf S B L ch) : ∀ x ∈ gapsOf L, Gap S.words x := fun x hx => by
 obtain ⟨t, ht, rfl⟩ := List.mem_map.1 hx
 obtain ⟨h1, h2, h3, h4, h5, h6⟩ := h.parts.frees.part t ht
 exact ⟨t.a, t.k, rfl, by rw [rd_ow (by omega), h5], h2, h3⟩
theorem linked_from {W : List Int} : ∀ (F : List Tl) (l : Nat), l < W.length → (∀ i t, F[i]? = some t → ow W (bef l F i) = (t.a : Int)) → ow W (bef l F F.length) = 0 →
    (∀ t ∈ F, 17 ≤ t.a ∧ 3 ≤ t.k ∧ t.a + t.k ≤ W.length ∧ ow W t.a = 0 ∧ ow W (t.a + 1) = t.k ∧ ∀ j, t.a + 3 ≤ j → j < t.a + t.k → ow W j = 0) →
    (∀ i t u, F[i]? = some t → F[i + 1]? = some u → t.a + t.k < u.a) → Hp.linkedB W (F.map fun t => (t.a : Int)) l = true
  | [], l, hl, _, h0, _, _ => by
   have h0 : ow W l = 0 := h0
   simp [Hp.linkedB, rd_ow hl, h0]
  | t :: r, l, hl, h1, h0, hp, hf => by
   obtain ⟨p1, p2, p3, p4, p5, p6⟩ := hp t (by simp)
   have e0 : ow W l = (t.a : Int) := h1 0 t rfl
   have ih := linked_from r (t.a + 2) (by omega) (fun i u hu => h1 (i + 1) u hu) h0 (fun u hu => hp u (by simp [hu])) (fun i u v hu hv => hf (i + 1) u v hu hv)
   have er : (Hp.rest W t.a t.k).all (fun x => x == 0) = true := by
    rw [List.all_eq_true]
    intro x hx
    unfold Hp.rest at hx
    obtain ⟨j, hj, rfl⟩ := List.getElem_of_mem hx
    have hj' : j < t.k - 3 ∧ t.a + 3 + j < W.length := by
     simp only [List.length_take, List.length_drop] at hj
     omega
    have := p6 (t.a + 3 + j) (by omega) (by omega)
    simp only [ow, List.getD, List.getElem?_eq_getElem hj'.2, Option.getD_some] at this
    simpa using this
   simp only [List.map_cons, Hp.linkedB, Int.toNat_natCast, rd_ow hl, e0, rd_ow (show t.a + 1 < W.length by omega), p5, Option.getD_some, er, ih, Bool.and_true, Bool.true_and, beq_self_eq_true]
   cases r with
   | nil => rfl
   | cons u r =>
    have := hf 0 t u rfl rfl
    simp only [List.map_cons]
    have hne : (u.a : Int) ≠ ((t.a + t.k : Nat) : Int) := by omega
    simpa using hne
theorem Wf.linked {S : Hs} {B : Nat} {L : List Tl} {ch : Nat → List Nat} (h : Wf S B L ch) : Hp.linkedB S.words (gapsOf L) 16 = true := by
 have hf := h.parts.frees
 exact linked_from (freeOf L) 16 (by have := h.lo; omega) hf.link hf.last hf.part hf.far
theorem Wf.chainsOk {S : Hs} {B : Nat} {L : List Tl} {ch : Nat → List Nat} (h : Wf S B L ch) : ChainsOk S := fun a ha =>
 ⟨_, _, _, _, h.tag_ ha, h.fields_ ha, h.chain_ ha, rd_ow (by have := h.part ha; omega)⟩
theorem Wf.link_from {S : Hs} {B : Nat} {L : List Tl} {ch : Nat → List Nat} (h : Wf S B L ch) {c : Nat} : ∀ (r : List Nat) (x : Int) (m : Nat) (seen : List Nat), PathV (ow S.words) x r → r.length < m → r.Nodup → (∀ a ∈ r, a ∉ seen ∧ a ∈ S.taken ∧ cz (ow S.words a) (fz (ow S.words) S.sizes a) = c) →
    ∃ s, S.linkFrom c m x seen = some (some s) ∧ s.length = seen.length + r.length ∧ ∀ a, a ∈ s ↔ a ∈ seen ∨ a ∈ r
  | _, _, 0, _, _, hm, _, _ => by omega
  | [], x, m + 1, seen, hx, _, _, _ => by
   have e : x = 0 := hx
   subst e
   exact ⟨seen, by simp [Hs.linkFrom], by simp, by simp⟩
  | a :: r, x, m + 1, seen, hx, hm, hn, hr => by
   obtain ⟨e, h0, hx⟩ := hx
   subst e
   obtain ⟨q1, q2, q3⟩ := hr a (by simp)
   obtain ⟨n1, n2⟩ := List.nodup_cons.1 hn
   have hl := h.part q2
   obtain ⟨s, i1, i2, i3⟩ := Wf.link_from h r (ow S.words (a + 3)) m (Hs.insert a seen) hx (by simpa using hm) n2 fun b hb => by
    obtain ⟨k1, k2, k3⟩ := hr b (by simp [hb])
    refine ⟨fun hq => ?_, k2, k3⟩
    rcases (mem_ins a b seen).1 hq with e | hq
    · subst e
      exact n1 hb
    · exact k1 hq
   refine ⟨s, ?_, ?_, ?_⟩
   · unfold Hs.linkFrom
     rw [if_neg (by omega)]
     have g1 : ({ S with taken := seen } : Hs).has (a : Int) = false := by simp [Hs.has, q1]
     have g2 : S.has (a : Int) = true := by simp [Hs.has, q2]
     rw [g1, g2]
     simp only [Bool.not_true, Bool.or_false, Bool.false_eq_true, if_false, Int.toNat_natCast, chainOf_some (h.tag_ q2) (h.fields_ q2) (h.chain_ q2), Option.bind_eq_bind, Option.bind_some]
     rw [if_neg (by omega), rd_ow (by omega)]
     exact i1
   · rw [i2, insert_length q1]
     simp only [List.length_cons]
     omega
   · intro b
     rw [i3, mem_ins]
     simp only [List.mem_cons]
     exact ⟨fun h => h.elim (fun h => h.elim (fun h => .inr (.inl h)) .inl) (fun h => .inr (.inr h)), fun h => h.elim (fun h => .inl (.inr h)) (fun h => h.elim (fun h => .inl (.inl h)) .inr)⟩
theorem Wf.heads_from {S : Hs} {B : Nat} {L : List Tl} {ch : Nat → List Nat} (h : Wf S B L ch) : ∀ (n c : Nat) (seen : List Nat), c + n = 16 → seen.length = (allCh ch c).length → (∀ a, a ∈ seen ↔ a ∈ allCh ch c) →
    ∃ s, S.headsFrom n c seen = some (some s) ∧ s.length = (allCh ch 16).length
  | 0, c, seen, hc, hl, _ => by
   have e : c = 16 := by omega
   subst e
   exact ⟨seen, rfl, hl⟩
  | n + 1, c, seen, hc, hl, hm => by
   have hlo := h.lo
   have hp := (h.chains.path c (by omega)).v
   have hnd := allCh_nodup h.chains (k := c + 1) (by omega)
   unfold allCh at hnd
   obtain ⟨d1, d2, d3⟩ := List.nodup_append.1 hnd
   have hsub : ∀ a ∈ ch c, a ∈ S.taken := fun a ha => ((h.chains.mem c (by omega) a).1 ha).1
   have hln := nodup_len d2 hsub
   obtain ⟨s, i1, i2, i3⟩ := h.link_from (c := c) (ch c) (ow S.words c) (S.taken.length + 1) seen hp (by omega) d2 fun a ha =>
    ⟨fun hs => d3 a ((hm a).1 hs) a ha rfl, hsub a ha, ((h.chains.mem c (by omega) a).1 ha).2⟩
   obtain ⟨s', j1, j2⟩ := Wf.heads_from h n (c + 1) s (by omega) (by rw [i2, hl]; simp [allCh]) (fun a => by rw [i3, hm]; simp [allCh])
   refine ⟨s', ?_, j2⟩
   unfold Hs.headsFrom
   rw [rd_ow (by omega)]
   simp only [Option.bind_eq_bind, Option.bind_some, i1]
   exact j1
theorem Wf.nodup {S : Hs} {B : Nat} {L : List Tl} {ch : Nat → List Nat} (h : Wf S B L ch) : S.taken.Nodup := h.up.imp fun h => by omega
theorem Wf.chained {S : Hs} {B : Nat} {L : List Tl} {ch : Nat → List Nat} (h : Wf S B L ch) : S.chainedB = some true := by
 obtain ⟨s, h1, h2⟩ := h.heads_from 16 0 [] rfl rfl (by simp [allCh])
 unfold Hs.chainedB
 rw [h1]
 simp only [Option.bind_eq_bind, Option.bind_some]
 rw [h2, allCh_all h.chains h.nodup]
 simp
end Hp
end Go.Proofs.YtdokmmhjmclmnaaGreat
namespace Go.Proofs.YtdokmmhjmclmnaaGreat
namespace Hp
def prodM (l : List Int) : Int := l.foldl (fun n s => min 3000 (n * s)) 1
theorem prodM_snoc (l : List Int) (x : Int) : prodM (l ++ [x]) = min 3000 (prodM l * x) := by simp [prodM, List.foldl_append]
theorem prod_min : ∀ (l : List Int) (a : Int), (∀ s ∈ l, 1 ≤ s ∧ s ≤ 12) → 1 ≤ a → l.foldl (fun n s => min 3000 (n * s)) (min 3000 a) = min 3000 (l.foldl (· * ·) a) ∧ 1 ≤ l.foldl (· * ·) a
 | [], a, _, ha => ⟨rfl, ha⟩
 | x :: l, a, h, ha => by
  obtain ⟨h1, h2⟩ := h x (by simp)
  have hx : 1 ≤ a * x := by
   have := Int.mul_le_mul ha h1 (by omega) (by omega)
   omega
  obtain ⟨i1, i2⟩ := prod_min l (a * x) (fun s hs => h s (by simp [hs])) hx
  refine ⟨?_, i2⟩
  simp only [List.foldl_cons]
  rw [show min 3000 (min 3000 a * x) = min 3000 (a * x) from ?_]
  · exact i1
  · by_cases hc : a ≤ 3000
    · rw [Int.min_eq_right hc]
    · rw [Int.min_eq_left (show (3000 : Int) ≤ a by omega)]
      have e1 : (3000 : Int) ≤ 3000 * x := by omega
      have e2 : (3000 : Int) ≤ a * x := by
       have := Int.mul_le_mul (show (3000 : Int) ≤ a by omega) h1 (by omega) (by omega)
       omega
      rw [Int.min_eq_left e1, Int.min_eq_left e2]
theorem prodM_is {l : List Int} (h : ∀ s ∈ l, 1 ≤ s ∧ s ≤ 12) : prodM l = min 3000 (l.foldl (· * ·) 1) ∧ 1 ≤ l.foldl (· * ·) 1 := by
 have := prod_min l 1 h (by omega)
 exact this
theorem prodM_big {l : List Int} (h : ∀ s ∈ l, 1 ≤ s ∧ s ≤ 12) : prodM l > 2000 ↔ l.foldl (· * ·) 1 > 2000 := by
 rw [(prodM_is h).1]
 omega
def OrdTo (n : Nat) (o : List Int) (i : Nat) : Prop := ∀ k x, k < i → rd o k = some x → (0 ≤ x ∧ x ≤ (n : Int) - 1) ∧ ∀ m y, m < k → rd o m = some y → y ≠ x
def OrdOk (n : Nat) (o : List Int) : Prop := o.length = n ∧ OrdTo n o n
theorem OrdOk.nodup {n : Nat} {o : List Int} (h : OrdOk n o) : o.Nodup := by
 rw [List.nodup_iff_pairwise_ne, List.pairwise_iff_getElem]
 intro i j hi hj hij e
 have := (h.2 j o[j] (by have := h.1; omega) (by unfold rd; rw [List.getElem?_eq_getElem])).2 i o[i] hij (by unfold rd; rw [List.getElem?_eq_getElem])
 exact this e
theorem OrdOk.rng {n : Nat} {o : List Int} (h : OrdOk n o) : ∀ x ∈ o, 0 ≤ x ∧ x < n := fun x hx => by
 obtain ⟨i, hi, rfl⟩ := List.getElem_of_mem hx
 have := (h.2 i o[i] (by have := h.1; omega) (by unfold rd; rw [List.getElem?_eq_getElem])).1
 omega
theorem mem_upto {n : Nat} {x : Int} : x ∈ upto n ↔ 0 ≤ x ∧ x < n := by
 unfold upto
 rw [List.mem_map]
 constructor
 · rintro ⟨k, hk, rfl⟩
   have := List.mem_range.1 hk
   omega
 · intro h
   exact ⟨x.toNat, List.mem_range.2 (by omega), by omega⟩
theorem nodup_lenI : ∀ {l m : List Int}, l.Nodup → (∀ a ∈ l, a ∈ m) → l.length ≤ m.length
 | [], _, _, _ => Nat.zero_le _
 | a :: r, m, hp, hm => by
  have ha : a ∈ m := hm a (by simp)
  obtain ⟨h1, h2⟩ := List.nodup_cons.1 hp
  have := nodup_lenI (l := r) (m := m.erase a) h2 (fun b hb => (List.mem_erase_of_ne (by rintro rfl; exact h1 hb)).2 (hm b (by simp [hb])))
  rw [List.length_erase_of_mem ha] at this
  have := List.length_pos_of_mem ha
  simp only [List.length_cons]
  omega
theorem upto_up (n : Nat) : (upto n).Pairwise (· < ·) := by
 unfold upto
 rw [List.pairwise_map]
 exact List.pairwise_lt_range.imp fun h => by omega
theorem full_perm {o : List Int} {n : Nat} (hl : o.length = n) (hn : o.Nodup) (hr : ∀ x ∈ o, 0 ≤ x ∧ x < n) : o.Perm (upto n) := by
 have hsub : ∀ x ∈ upto n, x ∈ o := fun x hx => by
  apply Classical.byContradiction
  intro hne
  have := nodup_lenI (l := x :: o) (m := upto n) (List.nodup_cons.2 ⟨hne, hn⟩) (fun a ha => by
   rcases List.mem_cons.1 ha with rfl | ha
   · exact hx
   · exact mem_upto.2 (hr a ha))
  rw [upto_length] at this
  simp only [List.length_cons] at this
  omega
 refine (List.perm_ext_iff_of_nodup hn ((upto_up n).imp fun h => by omega)).2 fun a => ⟨fun ha => mem_upto.2 (hr a ha), hsub a⟩
theorem ordOk_iff {o : List Int} {n : Nat} : OrdOk n o ↔ sortI o = upto n := by
 constructor
 · intro h
   refine List.Perm.eq_of_pairwise (le := fun a b : Int => a ≤ b) (fun a b _ _ h1 h2 => by omega) (sorted_sortI o) ((upto_up n).imp fun h => by omega) ((perm_sortI o).trans (full_perm h.1 h.nodup h.rng))
 · intro h
   have hp : o.Perm (upto n) := h ▸ (perm_sortI o).symm
   have hl : o.length = n := by rw [hp.length_eq, upto_length]
   have hn : o.Nodup := hp.nodup_iff.2 ((upto_up n).imp fun h => by omega)
   refine ⟨hl, fun k x hk hx => ⟨?_, fun m y hm hy e => ?_⟩⟩
   · have := mem_upto.1 (hp.mem_iff.1 (List.mem_of_getElem? hx))
     omega
   · obtain ⟨l1, e1⟩ := List.getElem?_eq_some_iff.1 hx
     obtain ⟨l2, e2⟩ := List.getElem?_eq_some_iff.1 hy
     rw [List.nodup_iff_pairwise_ne, List.pairwise_iff_getElem] at hn
     exact hn m k l2 l1 hm (by rw [e1, e2]; exact e)
theorem frameErr_ok {z o : List Int} (h : frameErr z o = 0) : FrOk z o ∧ z.foldl (· * ·) 1 ≤ 2000 := by
 unfold frameErr at h
 split at h
 · cases h
 · split at h
   · cases h
   · split at h
     · cases h
     · split at h
       · rename_i h1 h2 h3 h4
         have ho := ordOk_iff.2 h4
         have hp : o.Perm (upto z.length) := h4 ▸ (perm_sortI o).symm
         refine ⟨{ few := by omega, pos := fun s hs => ?_, len := ho.1, perm := fun i hi => hp.mem_iff.2 (mem_upto.2 (by omega)), rng := ho.rng, nodup := ho.nodup }, by omega⟩
         have h2' : z.all (fun n => decide (1 ≤ n) && decide (n ≤ 12)) = true := by simpa using h2
         have := List.all_eq_true.1 h2' s hs
         simpa using this
       · cases h
end Hp
end Go.Proofs.YtdokmmhjmclmnaaGreat
namespace Go.Proofs.YtdokmmhjmclmnaaGreat
namespace Hp
def piecesOf (L : List Tl) : List (Nat × Nat) := L.map fun t => (t.a, t.k)
theorem Wf.pieces_from {S : Hs} {B : Nat} {L : List Tl} {ch : Nat → List Nat} (h : Wf S B L ch) : ∀ (P : List Tl) (m a : Nat), (∀ t ∈ P, t ∈ L) → Lay a P S.words.length → P.length < m → S.piecesFrom m a = some (piecesOf P)
 | _, 0, _, _, _, hm => by omega
 | [], m + 1, a, _, hP, _ => by
  have e : a = S.words.length := hP
  unfold Hs.piecesFrom
  rw [if_pos (by omega)]
  rfl
 | t :: P, m + 1, a, hL, hP, hm => by
  obtain ⟨e, hk, hP⟩ := hP
  have ht := hL t (by simp)
  have hle := h.parts.lay.mem ht
  have hok := h.parts.ok t ht
  have hhi := h.hi
  have ih := Wf.pieces_from h P m (a + t.k) (fun u hu => hL u (by simp [hu])) hP (by simpa using hm)
  unfold Hs.piecesFrom
  rw [if_neg (by omega), rd_ow (by omega), tag_ow (by omega)]
  simp only [Option.bind_eq_bind, Option.bind_some]
  have key : (if ow S.words a = 0 then adr (ow S.words (a + 1)) else wide S.sizes (ow S.words a) : Option Nat) = some t.k := by
   cases hf : t.fr with
   | true =>
    obtain ⟨h1, h2, h3⟩ := hok.free hf
    rw [e] at h1 h2
    rw [if_pos h1, h2]
    simp [adr]
   | false =>
    obtain ⟨h1, h2⟩ := hok.cell hf
    rw [e] at h1 h2
    have hg := okTag_le h.fr.toFr h1
    rw [if_neg (by omega), (wz_ok h.fr.toFr h1).1, ← h2]
  rw [key]
  simp only [Option.bind_some]
  rw [if_neg (by omega), ih]
  simp only [Option.bind_some, piecesOf, List.map_cons, e]
theorem Wf.pieces_ {S : Hs} {B : Nat} {L : List Tl} {ch : Nat → List Nat} (h : Wf S B L ch) : S.piecesFrom S.fuel 17 = some (piecesOf L) := by
 have := lay_len h.parts.lay
 exact h.pieces_from L S.fuel 17 (fun _ ht => ht) h.parts.lay (by unfold Hs.fuel; omega)
def freeSum : List Tl → Nat
 | [] => 0
 | t :: r => (if t.fr then t.k else 0) + freeSum r
def freeMax : Nat → List Tl → Nat
 | m, [] => m
 | m, t :: r => freeMax (if t.fr then max m t.k else m) r
theorem Wf.sums_from {S : Hs} {B : Nat} {L : List Tl} {ch : Nat → List Nat} (h : Wf S B L ch) : ∀ (P : List Tl) (s m : Nat), (∀ t ∈ P, t ∈ L) → (piecesOf P).foldl (fun q x => if S.tag x.1 = some 0 then (q.1 + x.2, max q.2 x.2) else q) (s, m) = (s + freeSum P, freeMax m P)
 | [], s, m, _ => rfl
 | t :: P, s, m, hL => by
  have ht := hL t (by simp)
  have hle := h.parts.lay.mem ht
  have hok := h.parts.ok t ht
  have ih := fun s m => Wf.sums_from h P s m fun u hu => hL u (by simp [hu])
  simp only [piecesOf, List.map_cons, List.foldl_cons] at ih ⊢
  rw [tag_ow (by omega)]
  cases hf : t.fr with
  | true =>
   rw [(hok.free hf).1, if_pos rfl, ih]
   simp only [freeSum, freeMax, hf, if_true, Nat.add_assoc]
  | false =>
   have hg := okTag_le h.fr.toFr (hok.cell hf).1
   rw [if_neg (by simp; omega), ih]
   simp only [freeSum, freeMax, hf, Bool.false_eq_true, if_false, Nat.zero_add]
theorem Wf.sums_ {S : Hs} {B : Nat} {L : List Tl} {ch : Nat → List Nat} (h : Wf S B L ch) : S.gapSums (piecesOf L) = (freeSum L, freeMax 0 L) := by
 have := h.sums_from L 0 0 fun _ ht => ht
 rw [Nat.zero_add] at this
 exact this
theorem freeMax_le : ∀ {m : Nat} {L : List Tl}, freeMax m L ≤ m + freeSum L
 | m, [] => Nat.le_refl _
 | m, t :: r => by
  have := @freeMax_le (if t.fr then max m t.k else m) r
  unfold freeMax freeSum
  cases hf : t.fr with
  | true =>
   rw [hf] at this
   simp only [if_true] at this ⊢
   omega
  | false =>
   rw [hf] at this
   simp only [Bool.false_eq_true, if_false] at this ⊢
   omega
theorem freeSum_of : ∀ L : List Tl, freeSum L = ((freeOf L).map Tl.k).sum
 | [] => rfl
 | t :: r => by
  have ih := freeSum_of r
  unfold freeSum
  cases hf : t.fr with
  | true => simp [freeOf, hf] at ih ⊢; omega
  | false => simp [freeOf, hf] at ih ⊢; omega
theorem freeMax_of : ∀ (m : Nat) (L : List Tl), freeMax m L = (freeOf L).foldl (fun m t => max m t.k) m
 | _, [] => rfl
 | m, t :: r => by
  unfold freeMax
  rw [freeMax_of]
  cases hf : t.fr with
  | true => simp [freeOf, hf]
  | false => simp [freeOf, hf]
theorem lay_sum {f : Nat → Int} {z : List Int} : ∀ {s n : Nat} {L : List Tl}, Lay s L n → (∀ t ∈ L, t.fr = false → t.k = wz z (f t.a)) → s + widths f z (adsOf L) + freeSum L = n
 | s, n, [], h, _ => by
  have : s = n := h
  simp [adsOf, widths, freeSum, this]
 | s, n, t :: r, h, hk => by
  obtain ⟨h1, h2, h3⟩ := h
  have ih := lay_sum h3 fun u hu => hk u (by simp [hu])
  have e : adsOf (t :: r) = (if t.fr then [] else [t.a]) ++ adsOf r := by
   cases hf : t.fr <;> simp [adsOf, hf]
  rw [e, widths_app]
  unfold freeSum
  cases hf : t.fr with
  | true =>
   simp only [if_true, widths]
   omega
  | false =>
   have := hk t (by simp) hf
   simp only [Bool.false_eq_true, if_false, widths]
   omega
theorem Wf.all_ {S : Hs} {B : Nat} {L : List Tl} {ch : Nat → List Nat} (h : Wf S B L ch) : 17 + widths (ow S.words) S.sizes S.taken + freeSum L = S.words.length := by
 rw [h.taken]
 exact lay_sum h.parts.lay fun t ht hf => ((h.parts.ok t ht).cell hf).2
theorem Wf.end_hit {S : Hs} {B : Nat} {L : List Tl} {ch : Nat → List Nat} (h : Wf S B L ch) {a : Nat} (ha : a ∈ S.taken) (he : isEnd (ow S.words a) = true) : S.end' (ow S.words a - 20) (ow S.words (a + 4)) = some ((a : Int), 0, S) := by
 have hk := h.cells.ends a ha he
 have pa := h.part ha
 have ht : 20 ≤ ow S.words a ∧ ow S.words a ≤ 24 := by simpa [isEnd, within] using he
 have hf : fz (ow S.words) S.sizes a = [ow S.words (a + 4)] := by simp [fz, wz, he, cut, List.range_succ]
 have hl := look_hit h ha
 rw [hf] at hl
 unfold Hs.end'
 rw [if_neg (by simp [within]; omega)]
 unfold Hs.add
 rw [show 20 + (ow S.words a - 20) = ow S.words a by omega, hl]
 simp only [Option.bind_eq_bind, Option.bind_some]
 rw [if_pos (by omega)]
 simp only [Option.bind_some, Hs.full]
 rw [if_neg (by omega)]
 rfl
theorem Wf.check_ok {S : Hs} {B : Nat} {L : List Tl} {ch : Nat → List Nat} (h : Wf S B L ch) {a : Nat} (ha : a ∈ S.taken) (he : isEnd (ow S.words a) = false) : S.checkNode (ow S.words a - 1) (fz (ow S.words) S.sizes a) = some 0 := by
 have hn := isNode_of (h.cells.tags a ha) he
 have hz := wz_ok h.fr.toFr (h.cells.tags a ha)
 have hpos := h.fr.toFr.pos
 simp only [isNode, within, Bool.and_eq_true, decide_eq_true_eq] at hn
 obtain ⟨i, hi⟩ : ∃ i : Nat, ow S.words a - 1 = i := ⟨(ow S.words a - 1).toNat, by omega⟩
 have hil : i < S.sizes.length := by omega
 have hlen : ((fz (ow S.words) S.sizes a).length : Int) = ow S.sizes i := by
  rw [fz_length]
  have : wz S.sizes (ow S.words a) = 4 + (ow S.sizes i).toNat := by
   unfold wz
   rw [he, hi]
   simp [ow]
  have := hpos (ow S.sizes i) (by simp [ow, List.getD, List.getElem?_eq_getElem hil])
  omega
 have hk : ∀ x ∈ fz (ow S.words) S.sizes a, ∃ b ∈ S.taken, x = (b : Int) ∧ rank S.order (ow S.words a) < rank S.order (ow S.words b) := by
  intro x hx
  have : kz (ow S.words) S.sizes a = fz (ow S.words) S.sizes a := by simp [kz, he]
  exact h.cells.kids a ha x (by rw [this]; exact hx)
 have hall : ∀ x ∈ fz (ow S.words) S.sizes a, S.has x = true := fun x hx => by
  obtain ⟨b, hb, rfl, _⟩ := hk x hx
  exact has_of hb
 obtain ⟨b, hb1, hb2⟩ := laters_total h (ow S.words a - 1) _ hall
 have hbt : b = true := hb2.2 fun x hx => by
  obtain ⟨k, q1, q2, q3⟩ := hk x hx
  exact ⟨k, q1, q2, by rw [show ow S.words a - 1 + 1 = ow S.words a by omega]; exact q3⟩
 unfold Hs.checkNode
 rw [if_neg (by simp [within]; omega), hi]
 simp only [Int.toNat_natCast]
 rw [rd_ow hil]
 simp only [Option.bind_eq_bind, Option.bind_some]
 rw [if_neg (by omega), if_neg (by simpa using hall), ← hi, hb1, hbt]
 simp
theorem Wf.make_hit {S : Hs} {B : Nat} {L : List Tl} {ch : Nat → List Nat} (h : Wf S B L ch) {a : Nat} (ha : a ∈ S.taken) (he : isEnd (ow S.words a) = false) :
    S.make (ow S.words a - 1) (fz (ow S.words) S.sizes a) = some ((a : Int), 0, S) ∧ S.find (ow S.words a - 1) (fz (ow S.words) S.sizes a) = some ((a : Int), 0) := by
  have pa := h.part ha
  have hc := h.check_ok ha he
  have hl := look_hit h ha
  have hf := h.cells.flat a ha he
  constructor
  · unfold Hs.make
    rw [hc]
    simp only [Option.bind_eq_bind, Option.bind_some]
    rw [if_neg (by simp), if_neg (by simp [hf])]
    unfold Hs.add
    rw [show ow S.words a - 1 + 1 = ow S.words a by omega, hl]
    simp only [Option.bind_eq_bind, Option.bind_some]
    rw [if_pos (by omega)]
    simp only [Option.bind_some, Hs.full]
    rw [if_neg (by omega)]
    rfl
  · unfold Hs.find
    rw [hc]
    simp only [Option.bind_eq_bind, Option.bind_some]
    rw [if_neg (by simp), if_neg (by simp [hf])]
    rw [show ow S.words a - 1 + 1 = ow S.words a by omega, hl]
    simp only [Option.bind_some]
    rw [if_neg (by omega)]
end Hp
end Go.Proofs.YtdokmmhjmclmnaaGreat
namespace Go.Proofs.YtdokmmhjmclmnaaGreat
namespace Hp
theorem same_len {T U : List Nat} (h1 : T.Pairwise (· < ·)) (h2 : U.Pairwise (· < ·)) (h3 : ∀ a ∈ T, a ∈ U) (h4 : ∀ a ∈ U, a ∈ T) : T.length = U.length :=
 Nat.le_antisymm (nodup_len (up_nodup h1) h3) (nodup_len (up_nodup h2) h4)
def AllLive (S : Hs) : Prop := ∀ T, S.live = some T → ∀ a ∈ S.taken, a ∈ T
theorem coll_live {S S' : Hs} {B B' : Nat} {L L' : List Tl} {ch ch' : Nat → List Nat} {T : List Nat} (h : Wf S B L ch) (h' : Wf S' B' L' ch') (hT : S.live = some T) (c : Coll S S' T) : AllLive S' := by
 intro T' hT' a ha
 obtain ⟨T0, e0, t1, t2, t3, t4, t5⟩ := h.live_
 rw [hT] at e0
 cases e0
 obtain ⟨T1, e1, u1, u2, u3, u4, _⟩ := h'.live_
 rw [hT'] at e1
 cases e1
 have inT : ∀ a, a ∈ S'.taken ↔ a ∈ S.taken ∧ a ∈ T := fun a => by rw [c.taken]; simp
 refine t5 T' (fun b hb h0 => ?_) (fun b hb k hk => ?_) a ((inT a).1 ha).2
 · have hb' : b ∈ S'.taken := (inT b).2 ⟨hb, t3 b hb h0⟩
   refine u3 b hb' ?_
   rw [c.hold b hb']
   exact h0
 · refine u4 b hb k ?_
   rw [c.sizes, c.old.kz_ (u2 b hb)]
   exact hk
theorem moved_live {S S' : Hs} {B B' : Nat} {L L' : List Tl} {ch ch' : Nat → List Nat} {M : List (Nat × Int)} {m : Nat → Nat} (h : Wf S B L ch) (h' : Wf S' B' L' ch') (hl : AllLive S) (c : Moved S S' M m) : AllLive S' := by
 intro T' hT' x hx
 obtain ⟨T0, e0, t1, t2, t3, t4, t5⟩ := h.live_
 obtain ⟨T1, e1, u1, u2, u3, u4, _⟩ := h'.live_
 rw [hT'] at e1
 cases e1
 rw [c.taken] at hx
 obtain ⟨a, ha, rfl⟩ := List.mem_map.1 hx
 have key := t5 (S.taken.filter fun a => T'.contains (m a)) (fun b hb h0 => ?_) (fun b hb k hk => ?_) a (hl T0 e0 a ha)
 · have := (List.mem_filter.1 key).2
   simpa using this
 · refine List.mem_filter.2 ⟨hb, ?_⟩
   have : m b ∈ T' := u3 (m b) (by rw [c.taken]; exact List.mem_map.2 ⟨b, hb, rfl⟩) (by rw [c.hold b hb]; exact h0)
   simpa using this
 · obtain ⟨hb1, hb2⟩ := List.mem_filter.1 hb
   have hb2 : m b ∈ T' := by simpa using hb2
   obtain ⟨k', hk', e, _⟩ := h.cells.kids b hb1 _ hk
   have : k = k' := by omega
   subst this
   refine List.mem_filter.2 ⟨hk', ?_⟩
   have hkz : isEnd (ow S.words b) = false := by
    cases he : isEnd (ow S.words b) with
    | true => simp [kz, he] at hk
    | false => rfl
   have hk2 : (k : Int) ∈ fz (ow S.words) S.sizes b := kz_sub hk
   have : m k ∈ T' := by
    refine u4 (m b) hb2 (m k) ?_
    unfold kz
    rw [c.tag b hb1, hkz, c.sizes]
    simp only [Bool.false_eq_true, if_false]
    rw [c.fs b hb1]
    unfold nz
    rw [hkz]
    simp only [Bool.false_eq_true, if_false]
    refine List.mem_map.2 ⟨(k : Int), hk2, ?_⟩
    simp [to']
   simpa using this
def OneFree (L : List Tl) : Prop := (freeOf L).length ≤ 1
theorem one_free {L : List Tl} (h : OneFree L) : (freeOf L = [] ∧ freeSum L = 0 ∧ freeMax 0 L = 0) ∨ ∃ t ∈ L, t.fr = true ∧ freeOf L = [t] ∧ freeSum L = t.k ∧ freeMax 0 L = t.k := by
 rw [freeSum_of, freeMax_of]
 unfold OneFree at h
 match hF : freeOf L, h with
 | [], _ => exact .inl ⟨rfl, rfl, rfl⟩
 | [t], _ =>
  right
  have ht : t ∈ freeOf L := by rw [hF]; simp
  obtain ⟨h1, h2⟩ := mem_freeOf.1 ht
  exact ⟨t, h1, h2, rfl, by simp, by simp⟩
 | _ :: _ :: _, h => simp at h
theorem one_sums {L : List Tl} (h : OneFree L) : freeSum L = freeMax 0 L := by
 rcases one_free h with ⟨_, h1, h2⟩ | ⟨t, _, _, _, h1, h2⟩ <;> omega
theorem shape_one {P q : List Tl} (h : ∀ t ∈ P, t.fr = false) (hq : q = [] ∨ ∃ t, q = [t] ∧ t.fr = true) : OneFree (P ++ q) := by
 have hP : freeOf P = [] := by
  unfold freeOf
  rw [List.filter_eq_nil_iff]
  intro t ht
  simp [h t ht]
 unfold OneFree
 rw [show freeOf (P ++ q) = freeOf P ++ freeOf q by simp [freeOf], hP]
 rcases hq with rfl | ⟨t, rfl, _⟩
 · simp [freeOf]
 · rw [List.nil_append]
   unfold freeOf
   exact Nat.le_trans (List.length_filter_le _ _) (by simp)
theorem compact_wf {S : Hs} {B : Nat} {L : List Tl} {ch : Nat → List Nat} (h : Wf S B L ch) : ∃ l S' L' ch', S.compacted = some (l, S') ∧ Wf S' B L' ch' ∧ OneFree L' ∧ AllLive S' ∧ S'.sizes = S.sizes ∧ S'.order = S.order ∧ S'.words.length = S.words.length := by
 obtain ⟨T, hT, _⟩ := h.live_
 obtain ⟨S1, L1, e1, c1, w1⟩ := collect_wf h hT
 obtain ⟨M, m, S2, L2, ch2, e2, c2, w2, P, q, rfl, hP, hq⟩ := moved_wf w1
 have e : S.compacted = some (told M, S2) := by
  unfold Hs.compacted
  rw [e1]
  simp only [Option.bind_eq_bind, Option.bind_some]
  rw [e2]
  rfl
 exact ⟨told M, S2, P ++ q, ch2, e, w2, shape_one hP hq, moved_live w1 w2 (coll_live h w1 hT c1) c2, by rw [c2.sizes, c1.sizes], by rw [c2.order, c1.order], by rw [c2.len, c1.len]⟩
theorem unlinkFrom_all {W : List Int} {T : List Nat} : ∀ (r : List Nat) (l n : Nat), Path (ow W) l r → (∀ a ∈ r, a ∈ T ∧ a + 3 < W.length) → l < W.length → r.length < n → Hs.unlinkFrom T n W l = some W
 | _, _, 0, _, _, _, hn => by omega
 | [], l, n + 1, hp, _, hl, _ => by
  have e : ow W l = 0 := hp
  unfold Hs.unlinkFrom
  rw [ra_ow hl (a := 0) e]
  rfl
 | a :: r, l, n + 1, hp, hr, hl, hn => by
  obtain ⟨e, h0, hp⟩ := hp
  obtain ⟨ha, hb⟩ := hr a (by simp)
  unfold Hs.unlinkFrom
  rw [ra_ow hl e]
  simp only [Option.bind_eq_bind, Option.bind_some]
  rw [if_neg h0, if_pos (by simpa using ha)]
  exact unlinkFrom_all r (a + 3) n hp (fun b hb => hr b (by simp [hb])) hb (by simpa using hn)
theorem unlinks_all {W : List Int} {T : List Nat} {n : Nat} : ∀ ls : List Nat, (∀ c ∈ ls, Hs.unlinkFrom T n W c = some W) → Hs.unlinks T n W ls = some W
 | [], _ => rfl
 | l :: r, h => by
  unfold Hs.unlinks
  rw [h l (by simp)]
  exact unlinks_all r fun c hc => h c (by simp [hc])
theorem collect_all {S : Hs} {B : Nat} {L : List Tl} {ch : Nat → List Nat} (h : Wf S B L ch) (hl : AllLive S) : S.collect = some (0, S) := by
 obtain ⟨T, hT, _⟩ := h.live_
 have hlo := h.lo
 have hu : S.unlink T = some S := by
  unfold Hs.unlink
  rw [unlinks_all (List.range 16) fun c hc => ?_]
  · rfl
  · have hc : c < 16 := by simpa using hc
    have hm : ∀ a ∈ ch c, a ∈ S.taken := fun a ha => ((h.chains.mem c hc a).1 ha).1
    have hln := nodup_len (h.chains.nodup c hc) hm
    exact unlinkFrom_all (ch c) c _ (h.chains.path c hc) (fun a ha => ⟨hl T hT a (hm a ha), by have := h.part (hm a ha); omega⟩) (by omega) (by have := h.few; unfold Hs.fuel; omega)
 have h0 : (S.taken.filter fun a => !T.contains a) = [] := by
  rw [List.filter_eq_nil_iff]
  intro a ha
  simp [hl T hT a ha]
 unfold Hs.collect
 rw [hT]
 simp only [Option.bind_eq_bind, Option.bind_some]
 rw [hu]
 simp only [Option.bind_some]
 rw [h0]
 rfl
theorem collect_none {S : Hs} {B : Nat} {L : List Tl} {ch : Nat → List Nat} (h : Wf S B L ch) (h0 : ∀ a ∈ S.taken, ow S.words (a + 2) = 0) : ∃ S' L' ch', S.collect = some (S.taken.length, S') ∧ Wf S' B L' ch' ∧ S'.taken = [] ∧ S'.sizes = S.sizes ∧ S'.order = S.order ∧ S'.words.length = S.words.length := by
 obtain ⟨T, hT, t1, t2, t3, t4, t5⟩ := h.live_
 have hT0 : T = [] := by
  cases T with
  | nil => rfl
  | cons a r =>
   have := t5 [] (fun a ha hh => by rw [h0 a ha] at hh; omega) (fun a ha => by cases ha) a (by simp)
   cases this
 subst hT0
 obtain ⟨S1, L1, e1, c1, w1⟩ := collect_wf h hT
 have h1 : (S.taken.filter fun a => !List.contains [] a) = S.taken := by simp
 rw [h1] at e1
 refine ⟨S1, L1, _, e1, w1, ?_, c1.sizes, c1.order, c1.len⟩
 rw [c1.taken]
 simp
theorem none_left {S : Hs} {B : Nat} {L : List Tl} {ch : Nat → List Nat} (h : Wf S B L ch) (h0 : S.taken = []) : S.live = some [] ∧ freeSum L = S.words.length - 17 ∧ freeMax 0 L = S.words.length - 17 := by
 obtain ⟨T, hT, t1, t2, _⟩ := h.live_
 have hT0 : T = [] := by
  cases T with
  | nil => rfl
  | cons a r => have := t2 a (by simp); rw [h0] at this; cases this
 subst hT0
 have hall := h.all_
 rw [h0] at hall
 have hw : widths (ow S.words) S.sizes [] = 0 := rfl
 rw [hw] at hall
 have hone : OneFree L := by
  have ha := h.taken
  rw [h0] at ha
  have hfr : ∀ t ∈ L, t.fr = true := fun t ht => by
   cases hf : t.fr with
   | true => rfl
   | false =>
    have : t.a ∈ adsOf L := mem_adsOf.2 ⟨t, ht, hf, rfl⟩
    rw [← ha] at this
    cases this
  have hs := h.parts.sep
  unfold OneFree
  match L, hfr, hs with
  | [], _, _ => simp [freeOf]
  | [t], _, _ => exact List.length_filter_le _ _
  | t :: u :: r, hfr, hs => exact absurd ⟨hfr t (by simp), hfr u (by simp)⟩ hs.1
 have := one_sums hone
 exact ⟨hT, by omega, by omega⟩
theorem live_le {S : Hs} {B : Nat} {L : List Tl} {ch : Nat → List Nat} (h : Wf S B L ch) : ∃ T, S.live = some T ∧ T.length ≤ S.taken.length := by
 obtain ⟨T, hT, t1, t2, _⟩ := h.live_
 exact ⟨T, hT, nodup_len (up_nodup t1) t2⟩
theorem live_all {S : Hs} {B : Nat} {L : List Tl} {ch : Nat → List Nat} (h : Wf S B L ch) (hl : AllLive S) : ∃ T, S.live = some T ∧ T.length = S.taken.length := by
 obtain ⟨T, hT, t1, t2, _⟩ := h.live_
 exact ⟨T, hT, same_len t1 h.up t2 (hl T hT)⟩
theorem insert_len {x : Nat} : ∀ {l : List Nat}, x ∉ l → (Hs.insert x l).length = l.length + 1
 | [], _ => rfl
 | y :: r, h => by
  have h1 : x ≠ y := fun e => h (by simp [e])
  have h2 : x ∉ r := fun e => h (by simp [e])
  unfold Hs.insert
  split
  · simp
  · simp [h1, insert_len h2]
theorem add_end {S : Hs} {B : Nat} {L : List Tl} {ch : Nat → List Nat} (h : Wf S B L ch) (h1 : OneFree L) {n : Int} (n1 : -9999 ≤ n) (n2 : n ≤ 9999) :
    ((freeSum L ≠ 5 ∧ freeSum L < 8) ∧ S.end' 0 n = some (0, 8, S)) ∨
    ∃ (r : Nat) (S' : Hs) (L' : List Tl) (ch' : Nat → List Nat), S.end' 0 n = some ((r : Int), 0, S') ∧ Wf S' B L' ch' ∧ OneFree L' ∧ S'.sizes = S.sizes ∧ S'.order = S.order ∧ S'.words.length = S.words.length ∧
     ((S'.taken.length = S.taken.length ∧ freeSum L' = freeSum L) ∨ ((freeSum L = 5 ∨ 8 ≤ freeSum L) ∧ S'.taken.length = S.taken.length + 1 ∧ freeSum L' + 5 = freeSum L)) := by
  have hn : New S (20 + 0) [n] := new_end (fault := 0) (by omega) (by omega) (by omega) n1 n2
  have hw : wz S.sizes (20 + 0) = 5 := by simp [wz, isEnd, within]
  have hend : ∀ r, S.add (20 + 0) [n] = some r → S.end' 0 n = some (Hs.full r) := fun r hr => by
   unfold Hs.end'
   rw [if_neg (by simp [within]; omega), hr]
   rfl
  rcases add_wf h hn with ⟨a, ha, _, _, e⟩ | ⟨_, ⟨hno, e⟩ | ⟨P, u, Q, S', hL, hP, hu, hfit, e, hp, hw'⟩⟩
  · right
    have pa := h.part ha
    refine ⟨a, S, L, ch, ?_, h, h1, rfl, rfl, rfl, .inl ⟨rfl, rfl⟩⟩
    rw [hend _ e]
    simp only [Hs.full]
    rw [if_neg (by omega)]
  · left
    refine ⟨?_, ?_⟩
    · rcases one_free h1 with ⟨_, k1, _⟩ | ⟨t, ht, hf, _, k1, _⟩
      · omega
      · have := hno t ht hf
        rw [hw] at this
        unfold Fits at this
        omega
    · rw [hend _ e]
      simp [Hs.full]
  · right
    rw [hw] at hfit hw'
    have hul : u ∈ L := by rw [hL]; simp
    have hle := h.parts.lay.mem hul
    have hfo : freeOf L = freeOf P ++ u :: freeOf Q := by rw [hL]; simp [freeOf, hu]
    unfold OneFree at h1
    rw [hfo] at h1
    simp only [List.length_append, List.length_cons] at h1
    have hP0 : freeOf P = [] := List.length_eq_zero_iff.1 (by omega)
    have hQ0 : freeOf Q = [] := List.length_eq_zero_iff.1 (by omega)
    have hsum : freeSum L = u.k := by rw [freeSum_of, hfo, hP0, hQ0]; simp
    have hfit' : u.k = 5 ∨ 8 ≤ u.k := by unfold Fits at hfit; omega
    refine ⟨u.a, S', _, _, ?_, hw', ?_, hp.sizes, hp.order, hp.len, .inr ⟨by omega, ?_, ?_⟩⟩
    · rw [hend _ e]
      simp only [Hs.full]
      rw [if_neg (by omega)]
    · unfold OneFree
      have : freeOf (P ++ ⟨u.a, 5, false⟩ :: ((if u.k = 5 then [] else [⟨u.a + 5, u.k - 5, true⟩]) ++ Q)) = freeOf P ++ (freeOf (if u.k = 5 then [] else [⟨u.a + 5, u.k - 5, true⟩]) ++ freeOf Q) := by simp [freeOf]
      rw [this, hP0, hQ0]
      split <;> simp [freeOf]
    · rw [hp.taken, insert_len hp.new]
    · have : freeOf (P ++ ⟨u.a, 5, false⟩ :: ((if u.k = 5 then [] else [⟨u.a + 5, u.k - 5, true⟩]) ++ Q)) = freeOf P ++ (freeOf (if u.k = 5 then [] else [⟨u.a + 5, u.k - 5, true⟩]) ++ freeOf Q) := by simp [freeOf]
      rw [freeSum_of, this, hP0, hQ0, hsum]
      split
      · simp [freeOf]; omega
      · simp [freeOf]; omega
end Hp
end Go.Proofs.YtdokmmhjmclmnaaGreat
namespace Go.Proofs.YtdokmmhjmclmnaaGreat
namespace Hp
structure DropOk (S S' : Hs) (L : List Tl) (ch : Nat → List Nat) (j : Nat) : Prop where
 wf : Wf S' 60 L ch
 sizes : S'.sizes = S.sizes
 order : S'.order = S.order
 taken : S'.taken = S.taken
 len : S'.words.length = S.words.length
 zero : ∀ i a, i < j → S.taken[i]? = some a → ow S'.words (a + 2) = 0
 rest : ∀ i a, j ≤ i → S.taken[i]? = some a → ow S'.words (a + 2) = ow S.words (a + 2)
structure DropIn (S S' : Hs) (L : List Tl) (ch : Nat → List Nat) (j : Nat) (a : Nat) (v : Int) : Prop where
 wf : Wf S' 60 L ch
 sizes : S'.sizes = S.sizes
 order : S'.order = S.order
 taken : S'.taken = S.taken
 len : S'.words.length = S.words.length
 at_ : S.taken[j]? = some a
 zero : ∀ i b, i < j → S.taken[i]? = some b → ow S'.words (b + 2) = 0
 rest : ∀ i b, j < i → S.taken[i]? = some b → ow S'.words (b + 2) = ow S.words (b + 2)
 cur : ow S'.words (a + 2) = v
theorem DropOk.start {S : Hs} {L : List Tl} {ch : Nat → List Nat} (h : Wf S 60 L ch) : DropOk S S L ch 0 :=
 ⟨h, rfl, rfl, rfl, rfl, fun _ _ hi => by omega, fun _ _ _ _ => rfl⟩
theorem DropOk.into {S S' : Hs} {L : List Tl} {ch : Nat → List Nat} {j a : Nat} (h : DropOk S S' L ch j) (ha : S.taken[j]? = some a) : DropIn S S' L ch j a (ow S.words (a + 2)) :=
 ⟨h.wf, h.sizes, h.order, h.taken, h.len, ha, h.zero, fun i b hi hb => h.rest i b (by omega) hb, h.rest j a (Nat.le_refl _) ha⟩
theorem up_ne {T : List Nat} (h : T.Pairwise (· < ·)) {i j a b : Nat} (hi : T[i]? = some a) (hj : T[j]? = some b) (hne : i ≠ j) : a ≠ b := by
 obtain ⟨l1, rfl⟩ := List.getElem?_eq_some_iff.1 hi
 obtain ⟨l2, rfl⟩ := List.getElem?_eq_some_iff.1 hj
 rw [List.pairwise_iff_getElem] at h
 rcases Nat.lt_or_gt_of_ne hne with hlt | hlt
 · have := h i j l1 l2 hlt
   omega
 · have := h j i l2 l1 hlt
   omega
theorem DropIn.mem {S S' : Hs} {L : List Tl} {ch : Nat → List Nat} {j a : Nat} {v : Int} (h : DropIn S S' L ch j a v) : a ∈ S'.taken := by
 rw [h.taken]
 exact List.mem_of_getElem? h.at_
theorem DropIn.range {S S' : Hs} {L : List Tl} {ch : Nat → List Nat} {j a : Nat} {v : Int} (h : DropIn S S' L ch j a v) : 0 ≤ v ∧ v ≤ 60 := by
 have := h.wf.holds a h.mem
 rw [h.cur] at this
 omega
theorem DropIn.step {S S' : Hs} {L : List Tl} {ch : Nat → List Nat} {j a : Nat} {v : Int} (h : DropIn S S' L ch j a v) (hv : v ≠ 0) : ∃ S'', S'.drop a = some (0, S'') ∧ DropIn S S'' L ch j a (v - 1) := by
 have hup : S.taken.Pairwise (· < ·) := by rw [← h.taken]; exact h.wf.up
 obtain ⟨W, e, hw, hl, hg⟩ := drop_wf h.wf h.mem (by rw [h.cur]; exact hv)
 have far : ∀ i b, i ≠ j → S.taken[i]? = some b → ow W (b + 2) = ow S'.words (b + 2) := fun i b hi hb => by
  rw [hg, if_neg]
  have := up_ne hup hb h.at_ hi
  omega
 refine ⟨_, e, hw, h.sizes, h.order, h.taken, hl.trans h.len, h.at_, fun i b hi hb => ?_, fun i b hi hb => ?_, ?_⟩
 · exact (far i b (by omega) hb).trans (h.zero i b hi hb)
 · exact (far i b (by omega) hb).trans (h.rest i b hi hb)
 · show ow W (a + 2) = v - 1
   rw [hg, if_pos rfl, h.cur]
theorem DropIn.done {S S' : Hs} {L : List Tl} {ch : Nat → List Nat} {j a : Nat} {v : Int} (h : DropIn S S' L ch j a v) (hv : v = 0) : S'.drop a = some (9, S') ∧ DropOk S S' L ch (j + 1) := by
 refine ⟨drop_no h.wf h.mem (h.cur.trans hv), h.wf, h.sizes, h.order, h.taken, h.len, fun i b hi hb => ?_, fun i b hi hb => h.rest i b (by omega) hb⟩
 by_cases e : i = j
 · subst e
   have := h.at_
   rw [hb] at this
   cases this
   exact h.cur.trans hv
 · exact h.zero i b (by omega) hb
theorem DropOk.all {S S' : Hs} {L : List Tl} {ch : Nat → List Nat} (h : DropOk S S' L ch S.taken.length) : ∀ a ∈ S'.taken, ow S'.words (a + 2) = 0 := fun a ha => by
 rw [h.taken] at ha
 obtain ⟨i, hi, rfl⟩ := List.getElem_of_mem ha
 exact h.zero i _ hi (List.getElem?_eq_getElem hi)
theorem DropOk.freed {S S' : Hs} {L : List Tl} {ch : Nat → List Nat} (h : DropOk S S' L ch S.taken.length) : ∃ S1 L1 ch1, S'.collect = some (S.taken.length, S1) ∧ Wf S1 60 L1 ch1 ∧ S1.taken = [] ∧ S1.words.length = S.words.length ∧ S1.live = some [] ∧ S1.gapSums (piecesOf L1) = (S.words.length - 17, S.words.length - 17) := by
 obtain ⟨S1, L1, ch1, e, hw, ht, hz, ho, hl⟩ := collect_none h.wf h.all
 rw [h.taken] at e
 obtain ⟨k1, k2, k3⟩ := none_left hw ht
 refine ⟨S1, L1, ch1, e, hw, ht, hl.trans h.len, k1, ?_⟩
 rw [hw.sums_, k2, k3, hl, h.len]
structure HoldOk (S S' : Hs) (L : List Tl) (ch : Nat → List Nat) (j : Nat) : Prop where
 wf : Wf S' (60 + j) L ch
 sizes : S'.sizes = S.sizes
 order : S'.order = S.order
 taken : S'.taken = S.taken
 len : S'.words.length = S.words.length
theorem HoldOk.skip {S S' : Hs} {L : List Tl} {ch : Nat → List Nat} {j : Nat} (h : HoldOk S S' L ch j) (hj : 60 + (j + 1) ≤ 100000) : HoldOk S S' L ch (j + 1) :=
 ⟨h.wf.more (by omega) hj, h.sizes, h.order, h.taken, h.len⟩
theorem HoldOk.step {S S' : Hs} {L : List Tl} {ch : Nat → List Nat} {j a : Nat} (h : HoldOk S S' L ch j) (hj : 60 + (j + 1) ≤ 100000) (ha : S.taken[j]? = some a) : ∃ S'', S'.hold a = some (0, S'') ∧ HoldOk S S'' L ch (j + 1) := by
 have hm : a ∈ S'.taken := by rw [h.taken]; exact List.mem_of_getElem? ha
 obtain ⟨W, e, hw, hl, _⟩ := hold_wf h.wf (by omega) hm
 exact ⟨_, e, hw, h.sizes, h.order, h.taken, hl.trans h.len⟩
def wsum (S : Hs) (j : Nat) : Nat := widths (ow S.words) S.sizes (S.taken.take j)
theorem wsum_succ {S : Hs} {j a : Nat} (h : S.taken[j]? = some a) : wsum S (j + 1) = wsum S j + wz S.sizes (ow S.words a) := by
 obtain ⟨hl, rfl⟩ := List.getElem?_eq_some_iff.1 h
 unfold wsum
 rw [List.take_succ_eq_append_getElem hl, widths_app]
 simp [widths]
theorem wsum_all (S : Hs) : wsum S S.taken.length = widths (ow S.words) S.sizes S.taken := by
 unfold wsum
 rw [List.take_length]
theorem wsum_le {S : Hs} {B : Nat} {L : List Tl} {ch : Nat → List Nat} (h : Wf S B L ch) (j : Nat) : wsum S j ≤ 100000 := by
 have h1 := h.widths_
 have h2 := h.hi
 have h3 := widths_app (ow S.words) S.sizes (S.taken.take j) (S.taken.drop j)
 rw [List.take_append_drop] at h3
 unfold wsum
 omega
end Hp
end Go.Proofs.YtdokmmhjmclmnaaGreat
