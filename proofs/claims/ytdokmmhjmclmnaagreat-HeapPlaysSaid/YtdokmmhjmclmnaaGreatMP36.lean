/-
  Part 36 of a proof: PL20 PL30 RP14.
-/
import Derived.Test.YtdokmmhjmclmnaaGreatMP19
import Derived.Test.YtdokmmhjmclmnaaGreatMP32
import Derived.Test.YtdokmmhjmclmnaaGreatMP35
set_option linter.unusedSimpArgs false
set_option linter.unusedVariables false
set_option linter.unusedSectionVars false
set_option linter.unnecessarySimpa false
namespace Go.Proofs.YtdokmmhjmclmnaaGreat
namespace Hp
structure DropOk (S S' : Hs) (L : List Tl) (ch : Nat → List Nat) (j : Nat) : Prop where
 wf : Wf S' 60 L ch
 sizes : S'.sizes = S.sizes
 order : S'.order = S.order
 taken : S'.taken = S.taken
 len : S'.words.length = S.words.length
 zero : ∀ i a, i < j → S.taken[i]? = some a → ow S'.words (a + 2) = 0
 rest : ∀ i a, j ≤ i → S.taken[i]? = some a → ow S'.words (a + 2) = ow S.words (a + 2)
structure DropIn (S S' : Hs) (L : List Tl) (ch : Nat → List Nat) (j : Nat) (a : Nat) (v : Int) : Prop where
 wf : Wf S' 60 L ch
 sizes : S'.sizes = S.sizes
 order : S'.order = S.order
 taken : S'.taken = S.taken
 len : S'.words.length = S.words.length
 at_ : S.taken[j]? = some a
 zero : ∀ i b, i < j → S.taken[i]? = some b → ow S'.words (b + 2) = 0
 rest : ∀ i b, j < i → S.taken[i]? = some b → ow S'.words (b + 2) = ow S.words (b + 2)
 cur : ow S'.words (a + 2) = v
theorem DropOk.start {S : Hs} {L : List Tl} {ch : Nat → List Nat} (h : Wf S 60 L ch) : DropOk S S L ch 0 :=
 ⟨h, rfl, rfl, rfl, rfl, fun _ _ hi => by omega, fun _ _ _ _ => rfl⟩
theorem DropOk.into {S S' : Hs} {L : List Tl} {ch : Nat → List Nat} {j a : Nat} (h : DropOk S S' L ch j) (ha : S.taken[j]? = some a) : DropIn S S' L ch j a (ow S.words (a + 2)) :=
 ⟨h.wf, h.sizes, h.order, h.taken, h.len, ha, h.zero, fun i b hi hb => h.rest i b (by omega) hb, h.rest j a (Nat.le_refl _) ha⟩
theorem up_ne {T : List Nat} (h : T.Pairwise (· < ·)) {i j a b : Nat} (hi : T[i]? = some a) (hj : T[j]? = some b) (hne : i ≠ j) : a ≠ b := by
 obtain ⟨l1, rfl⟩ := List.getElem?_eq_some_iff.1 hi
 obtain ⟨l2, rfl⟩ := List.getElem?_eq_some_iff.1 hj
 rw [List.pairwise_iff_getElem] at h
 rcases Nat.lt_or_gt_of_ne hne with hlt | hlt
 · have := h i j l1 l2 hlt; omega
 · have := h j i l2 l1 hlt; omega
theorem DropIn.mem {S S' : Hs} {L : List Tl} {ch : Nat → List Nat} {j a : Nat} {v : Int} (h : DropIn S S' L ch j a v) : a ∈ S'.taken := by
 rw [h.taken]
 exact List.mem_of_getElem? h.at_
theorem DropIn.range {S S' : Hs} {L : List Tl} {ch : Nat → List Nat} {j a : Nat} {v : Int} (h : DropIn S S' L ch j a v) : 0 ≤ v ∧ v ≤ 60 := by
 have := h.wf.holds a h.mem
 rw [h.cur] at this
 omega
theorem DropIn.step {S S' : Hs} {L : List Tl} {ch : Nat → List Nat} {j a : Nat} {v : Int} (h : DropIn S S' L ch j a v) (hv : v ≠ 0) : ∃ S'', S'.drop a = some (0, S'') ∧ DropIn S S'' L ch j a (v - 1) := by
 have hup : S.taken.Pairwise (· < ·) := by rw [← h.taken]; exact h.wf.up
 obtain ⟨W, e, hw, hl, hg⟩ := drop_wf h.wf h.mem (by rw [h.cur]; exact hv)
 have far : ∀ i b, i ≠ j → S.taken[i]? = some b → ow W (b + 2) = ow S'.words (b + 2) := fun i b hi hb => by
  rw [hg, if_neg]; have := up_ne hup hb h.at_ hi; omega
 refine ⟨_, e, hw, h.sizes, h.order, h.taken, hl.trans h.len, h.at_, fun i b hi hb => ?_, fun i b hi hb => ?_, ?_⟩
 · exact (far i b (by omega) hb).trans (h.zero i b hi hb)
 · exact (far i b (by omega) hb).trans (h.rest i b hi hb)
 · show ow W (a + 2) = v - 1; rw [hg, if_pos rfl, h.cur]
theorem DropIn.done {S S' : Hs} {L : List Tl} {ch : Nat → List Nat} {j a : Nat} {v : Int} (h : DropIn S S' L ch j a v) (hv : v = 0) : S'.drop a = some (9, S') ∧ DropOk S S' L ch (j + 1) := by
 refine ⟨drop_no h.wf h.mem (h.cur.trans hv), h.wf, h.sizes, h.order, h.taken, h.len, fun i b hi hb => ?_, fun i b hi hb => h.rest i b (by omega) hb⟩
 by_cases e : i = j
 · subst e; have := h.at_; rw [hb] at this
   cases this
   exact h.cur.trans hv
 · exact h.zero i b (by omega) hb
theorem DropOk.all {S S' : Hs} {L : List Tl} {ch : Nat → List Nat} (h : DropOk S S' L ch S.taken.length) : ∀ a ∈ S'.taken, ow S'.words (a + 2) = 0 := fun a ha => by
 rw [h.taken] at ha
 obtain ⟨i, hi, rfl⟩ := List.getElem_of_mem ha
 exact h.zero i _ hi (List.getElem?_eq_getElem hi)
structure HoldOk (S S' : Hs) (L : List Tl) (ch : Nat → List Nat) (j : Nat) : Prop where
 wf : Wf S' (60 + j) L ch
 sizes : S'.sizes = S.sizes
 order : S'.order = S.order
 taken : S'.taken = S.taken
 len : S'.words.length = S.words.length
theorem HoldOk.skip {S S' : Hs} {L : List Tl} {ch : Nat → List Nat} {j : Nat} (h : HoldOk S S' L ch j) (hj : 60 + (j + 1) ≤ 100000) : HoldOk S S' L ch (j + 1) :=
 ⟨h.wf.more (by omega) hj, h.sizes, h.order, h.taken, h.len⟩
theorem HoldOk.step {S S' : Hs} {L : List Tl} {ch : Nat → List Nat} {j a : Nat} (h : HoldOk S S' L ch j) (hj : 60 + (j + 1) ≤ 100000) (ha : S.taken[j]? = some a) : ∃ S'', S'.hold a = some (0, S'') ∧ HoldOk S S'' L ch (j + 1) := by
 have hm : a ∈ S'.taken := by rw [h.taken]; exact List.mem_of_getElem? ha
 obtain ⟨W, e, hw, hl, _⟩ := hold_wf h.wf (by omega) hm
 exact ⟨_, e, hw, h.sizes, h.order, h.taken, hl.trans h.len⟩
def wsum (S : Hs) (j : Nat) : Nat := widths (ow S.words) S.sizes (S.taken.take j)
theorem wsum_succ {S : Hs} {j a : Nat} (h : S.taken[j]? = some a) : wsum S (j + 1) = wsum S j + wz S.sizes (ow S.words a) := by
 obtain ⟨hl, rfl⟩ := List.getElem?_eq_some_iff.1 h
 unfold wsum
 rw [List.take_succ_eq_append_getElem hl, widths_app]
 simp [widths]
theorem wsum_le {S : Hs} {B : Nat} {L : List Tl} {ch : Nat → List Nat} (h : Wf S B L ch) (j : Nat) : wsum S j ≤ 100000 := by
 have h1 := h.widths_
 have h2 := h.hi
 have h3 := widths_app (ow S.words) S.sizes (S.taken.take j) (S.taken.drop j)
 rw [List.take_append_drop] at h3
 unfold wsum
 omega
end Hp
namespace Hp
theorem rdo_of {s s1 : Sc} {x : Act'} (h : s.do' x = some s1) (h6 : x.kind ≠ 6) (h7 : x.kind ≠ 7) :
    ∃ n a e S', rdo s.S s.ats x = some (n, a, e, S') ∧ s1 = ⟨S', s.res ++ [if e ≠ 0 then -e else n], s.ats ++ [if e ≠ 0 then 0 else a]⟩ := by
  unfold Sc.do' at h
  unfold rdo
  split at h
  · rename_i k1; simp only [Option.bind_eq_bind, Option.bind_eq_some_iff, Option.some.injEq] at h; obtain ⟨⟨r, e, S'⟩, h1, rfl⟩ := h; refine ⟨r, r, e, S', by rw [if_pos k1, h1]; rfl, by simp [Sc.note]⟩
  · rename_i k1; rw [if_neg k1]
    split at h
    · rename_i k2; rw [if_pos k2]; dsimp only at h
      split at h
      · rename_i hc; rw [if_pos hc]; simp only [Option.some.injEq] at h; subst h; exact ⟨0, 0, 7, s.S, rfl, by simp [Sc.note]⟩
      · rename_i hc; rw [if_neg hc]
        split at h
        · rename_i k3; rw [if_pos k3]; simp only [Option.bind_eq_bind, Option.bind_eq_some_iff, Option.some.injEq] at h; obtain ⟨⟨r, e, S'⟩, h1, rfl⟩ := h; refine ⟨r, r, e, S', by rw [h1]; rfl, by simp [Sc.note]⟩
        · rename_i k3; rw [if_neg k3]; simp only [Option.bind_eq_bind, Option.bind_eq_some_iff, Option.some.injEq] at h; obtain ⟨⟨r, e⟩, h1, rfl⟩ := h; refine ⟨r, r, e, s.S, by rw [h1]; rfl, by simp [Sc.note]⟩
    · rename_i k2; rw [if_neg k2]
      split at h
      · rename_i k4; rw [if_pos k4]
        split at h
        · rename_i h0; rw [if_pos h0]; simp only [Option.some.injEq] at h; subst h; exact ⟨0, 0, 7, s.S, rfl, by simp [Sc.note]⟩
        · rename_i h0; rw [if_neg h0]
          split at h
          · rename_i k5; rw [if_pos k5]; simp only [Option.bind_eq_bind, Option.bind_eq_some_iff, Option.some.injEq] at h; obtain ⟨⟨e, S'⟩, h1, rfl⟩ := h; refine ⟨0, 0, e, S', by rw [h1]; rfl, by simp [Sc.note]⟩
          · rename_i k5; rw [if_neg k5]; simp only [Option.bind_eq_bind, Option.bind_eq_some_iff, Option.some.injEq] at h; obtain ⟨⟨e, S'⟩, h1, rfl⟩ := h; refine ⟨0, 0, e, S', by rw [h1]; rfl, by simp [Sc.note]⟩
      · rename_i k4; rw [if_neg k4, if_neg (by omega)]
        first
         | (rw [if_neg h6, if_neg h7] at h
            simp only [Option.some.injEq] at h; subst h; exact ⟨0, 0, 7, s.S, rfl, by simp [Sc.note]⟩)
         | (simp only [Option.some.injEq] at h
            subst h; exact ⟨0, 0, 7, s.S, rfl, by simp [Sc.note]⟩)
theorem rdo_67 {S : Hs} {A : List Int} {x : Act'} (h : x.kind = 6 ∨ x.kind = 7) : rdo S A x = some (0, 0, 0, S) := by
 unfold rdo
 rw [if_neg (by omega), if_neg (by omega), if_neg (by omega), if_pos h]
theorem do_six {s s1 : Sc} {x : Act'} (h : s.do' x = some s1) (h6 : x.kind = 6) : ∃ m S', s.S.collect = some (m, S') ∧ s1 = ⟨S', s.res ++ [(m : Int)], (s.ats.map fun a => if S'.has a then a else 0) ++ [0]⟩ := by
 unfold Sc.do' at h
 rw [if_neg (by omega), if_neg (by omega), if_neg (by omega), if_pos h6] at h
 simp only [Option.bind_eq_bind, Option.bind_eq_some_iff, Option.some.injEq] at h
 obtain ⟨⟨m, S'⟩, h1, rfl⟩ := h
 exact ⟨m, S', h1, by simp [Sc.note, Sc.forget]⟩
theorem do_seven {s s1 : Sc} {x : Act'} (h : s.do' x = some s1) (h7 : x.kind = 7) : ∃ m S1 M S2, s.S.collect = some (m, S1) ∧ S1.moved = some (M, S2) ∧ s1 = ⟨S2, s.res ++ [0], ((s.ats.map fun a => if S1.has a then a else 0).map fun a => if a < 0 then 0 else (getI a.toNat M).getD 0) ++ [0]⟩ := by
 unfold Sc.do' at h
 rw [if_neg (by omega), if_neg (by omega), if_neg (by omega), if_neg (by omega), if_pos h7] at h
 simp only [Option.bind_eq_bind, Option.bind_eq_some_iff, Option.some.injEq] at h
 obtain ⟨⟨m, S1⟩, h1, ⟨M, S2⟩, h2, rfl⟩ := h
 exact ⟨m, S1, M, S2, h1, h2, by simp [Sc.note, Sc.forget]⟩
theorem natsI_has {S : Hs} {Y : List Nat} (hY : ∀ a, a ∈ Y ↔ a ∈ S.taken) (x : Int) : (natsI Y).contains x = S.has x := by
 rw [Bool.eq_iff_iff, List.contains_iff_mem]
 constructor
 · intro h; obtain ⟨a, ha, rfl⟩ := natsI_zero h; exact has_of ((hY a).1 ha)
 · intro h; obtain ⟨a, rfl, ha⟩ := has_yes h; exact natsI_mem.2 ((hY a).2 ha)
theorem kept_six {S : Hs} {Y : List Nat} (hY : ∀ a, a ∈ Y ↔ a ∈ S.taken) (A : List Int) : A.map (keptF (natsI Y) []) = A.map fun a => if S.has a then a else 0 := by
 refine List.map_congr_left fun x _ => ?_
 unfold keptF
 rw [natsI_has hY]
 rfl
theorem kept_seven {S S2 : Hs} {M : List (Nat × Int)} {m : Nat → Nat} {Y : List Nat} {B : Nat} {L : List Tl} {ch : Nat → List Nat} (hw : Wf S B L ch) (hm : Moved S S2 M m) (hY : ∀ a, a ∈ Y ↔ a ∈ S.taken) (A : List Int) :
    A.map (keptF (natsI Y) (pairsOf m S.taken)) = (A.map fun a => if S.has a then a else 0).map fun a => if a < 0 then 0 else (getI a.toNat M).getD 0 := by
  rw [List.map_map]; refine List.map_congr_left fun x _ => ?_
  unfold keptF; rw [natsI_has hY]; show _ = (if (if S.has x then x else 0) < 0 then 0 else (getI (if S.has x then x else 0).toNat M).getD 0)
  cases hh : S.has x with
  | false =>
   simp only [Bool.false_eq_true, if_false]; have h0 : 0 ∉ S.taken := fun hm => by
    have := hw.part hm; omega
   have e : getI (0 : Int).toNat M = none := by
    rw [hm.get]; exact if_neg h0
   rw [e]; rfl
  | true =>
   obtain ⟨a, rfl, ha⟩ := has_yes hh; simp only [if_true]; rw [if_neg (by omega), Int.toNat_natCast, hm.get, if_pos ha, scanP_pairs (up_nodup hw.up) ha]; rfl
theorem live_left {S S' : Hs} {B k0 : Nat} {L : List Tl} {ch : Nat → List Nat} {T : List Nat} (hw : Wf S B L ch) (hT : S.live = some T) (hco : S.collect = some (k0, S')) (a : Nat) : a ∈ T ↔ a ∈ S'.taken := by
 obtain ⟨T', hT', t1, t2, _⟩ := hw.live_
 rw [hT] at hT'
 cases hT'
 obtain ⟨S1, L1, e, hc, _⟩ := collect_wf hw hT
 rw [hco] at e
 simp only [Option.some.injEq, Prod.mk.injEq] at e
 obtain ⟨_, rfl⟩ := e
 rw [hc.taken]
 simp only [List.mem_filter, List.contains_iff_mem]
 exact ⟨fun h => ⟨t2 a h, h⟩, fun h => h.2⟩
end Hp
open Go.RowKit
theorem rdo_bound {S S' : Hp.Hs} {A : List Int} {x : Hp.Act'} {n a e : Int} (hs : S.words.length ≤ 1000000) (hA : ∀ y ∈ A, -9223372036854775808 ≤ y ∧ y ≤ 9223372036854775807) (h : Hp.rdo S A x = some (n, a, e, S')) :
    (-9223372036854775808 ≤ n ∧ n ≤ 9223372036854775807) ∧ (-9223372036854775808 ≤ a ∧ a ≤ 9223372036854775807) ∧ 0 ≤ e ∧ e ≤ 9 := by
  have hk : ∀ y ∈ x.list.map (Hp.nameOf A), -9223372036854775808 ≤ y ∧ y ≤ 9223372036854775807 := fun y hy => by
   obtain ⟨v, _, rfl⟩ := List.mem_map.1 hy; exact nameOf_wf hA v
  unfold Hp.rdo at h
  split at h
  · simp only [Option.bind_eq_bind, Option.bind_eq_some_iff, Option.some.injEq, Prod.mk.injEq] at h; obtain ⟨⟨r, e, S1⟩, h1, rfl, rfl, rfl, rfl⟩ := h; have := end_small hs h1; dsimp only at *; omega
  · split at h
    · split at h
      · simp only [Option.some.injEq, Prod.mk.injEq] at h; omega
      · split at h
        · simp only [Option.bind_eq_bind, Option.bind_eq_some_iff, Option.some.injEq, Prod.mk.injEq] at h; obtain ⟨⟨r, e, S1⟩, h1, rfl, rfl, rfl, rfl⟩ := h; have := make_wf hs hk h1; dsimp only at *; omega
        · simp only [Option.bind_eq_bind, Option.bind_eq_some_iff, Option.some.injEq, Prod.mk.injEq] at h; obtain ⟨⟨r, e⟩, h1, rfl, rfl, rfl, rfl⟩ := h; have := find_wf hs hk h1; dsimp only at *; omega
    · split at h
      · split at h
        · simp only [Option.some.injEq, Prod.mk.injEq] at h; omega
        · split at h
          · simp only [Option.bind_eq_bind, Option.bind_eq_some_iff, Option.some.injEq, Prod.mk.injEq] at h; obtain ⟨⟨e, S1⟩, h1, rfl, rfl, rfl, rfl⟩ := h; have := hold_small h1; dsimp only at *; omega
          · simp only [Option.bind_eq_bind, Option.bind_eq_some_iff, Option.some.injEq, Prod.mk.injEq] at h; obtain ⟨⟨e, S1⟩, h1, rfl, rfl, rfl, rfl⟩ := h; have := drop_small h1; dsimp only at *; omega
      · split at h
        · simp only [Option.some.injEq, Prod.mk.injEq] at h; omega
        · simp only [Option.some.injEq, Prod.mk.injEq] at h; omega
open Go.RowKit Go.Maps
def RNewPost (w : World) (p q : Option Addr) (S : Hp.Hs) (e : Ending) (w' : World) : Prop := ∃ r : Rd, e = .returned (.pointer (some ⟨r.rb, 0, none⟩)) ∧ RW w' r S ∧ (∀ b ∈ r.own, w.heap.size ≤ b) ∧ Ext w w' ∧ r.sp = p ∧ r.op = q
set_option maxRecDepth 100000 in
set_option maxHeartbeats 4000000 in
theorem rNew {w : World} {p q : Option Addr} {c d n : Nat} {z o : List Int} {S : Hp.Hs} (hs : SliceAt w p c z) (ho : SliceAt w q d o) (h20 : 20 ≤ n) (hn : n ≤ 100000) (hS : Hp.new z o n = some S) :
    Calls Tryz.prog 32 #[.slice p z.length c, .slice q o.length d, .int .i64 n] w (RNewPost w p q S) := by
  have HS := Lib.hid hs; have HO := Lib.hid ho; have ES : S = ⟨z, o, ((List.replicate n 0).set 16 17).set 18 ((n : Int) - 17), []⟩ := by
   unfold Hp.new at hS; simp only [Hp.wr, Option.bind_eq_bind, Option.bind_eq_some_iff, Option.pure_def, Option.some.injEq] at hS; obtain ⟨W1, h1, W2, h2, rfl⟩ := hS; rw [if_pos (by simp; omega)] at h1
   cases h1
   rw [if_pos (by simp; omega)] at h2
   cases h2
   rfl
  subst ES; clear hs ho hS; have hmk := run_make_row' (P := Tryz.prog) 22 3 (.int .i64 0) 8 Tryz.underlying22 (show (Tryz.prog.info? 3).map (fun i => (i.zero, i.size, i.bytes)) = some (some (.int .i64 0), 1, 8) from by kernel_rfl) rfl .i64 .i64 n (by omega) (by omega); go_enter Tryz.func32, Tryz.ntmps32; go_upto_region 2 with fail
  have EA : Ext w (w.alloc (.cells (madeCells #[.int .i64 0] n) 3)) := Ext.alloc (Ext.refl _) _; have EB : Ext (w.alloc (.cells (madeCells #[.int .i64 0] n) 3)) ((w.alloc (.cells (madeCells #[.int .i64 0] n) 3)).alloc (.cells #[.slice p z.length c, .slice q o.length d, .slice (some ⟨w.heap.size, 0, none⟩) n n] 54)) := Ext.alloc (Ext.refl _) _; have W0 := (made_words w n).ext EB
  have hc : ((w.alloc (.cells (madeCells #[.int .i64 0] n) 3)).alloc (.cells #[.slice p z.length c, .slice q o.length d, .slice (some ⟨w.heap.size, 0, none⟩) n n] 54)).cell? ⟨w.heap.size + 1, 0, none⟩ = some (.slice p z.length c) ∧
      ((w.alloc (.cells (madeCells #[.int .i64 0] n) 3)).alloc (.cells #[.slice p z.length c, .slice q o.length d, .slice (some ⟨w.heap.size, 0, none⟩) n n] 54)).cell? ⟨w.heap.size + 1, 1, none⟩ = some (.slice q o.length d) ∧
      ((w.alloc (.cells (madeCells #[.int .i64 0] n) 3)).alloc (.cells #[.slice p z.length c, .slice q o.length d, .slice (some ⟨w.heap.size, 0, none⟩) n n] 54)).cell? ⟨w.heap.size + 1, 2, none⟩ = some (.slice (some ⟨w.heap.size, 0, none⟩) n n) ∧
      ((w.alloc (.cells (madeCells #[.int .i64 0] n) 3)).alloc (.cells #[.slice p z.length c, .slice q o.length d, .slice (some ⟨w.heap.size, 0, none⟩) n n] 54)).frozen? ⟨w.heap.size + 1, 2, none⟩ = false := by
    refine ⟨?_, ?_, ?_, ?_⟩ <;> go_simp
  have E2 := Lib.hid (EA.trans EB); generalize (w.alloc (.cells (madeCells #[.int .i64 0] n) 3)).alloc (.cells #[.slice p z.length c, .slice q o.length d, .slice (some ⟨w.heap.size, 0, none⟩) n n] 54) = w1 at W0 hc E2 ⊢
  have N0 := Lib.hid (RNow.refl (r := ⟨w.heap.size + 1, p, c, q, d, w.heap.size, 0, n⟩) (S := ⟨z, o, List.replicate n 0, []⟩) (w := w1)
   { c0 := hc.1, c1 := hc.2.1, c2 := by rw [hc.2.2.1]; simp, f2 := hc.2.2.2, sizes := HS.out.ext E2.out, order := HO.out.ext E2.out, words := W0, le := by simp, cap := by show n ≤ _; omega, go := rfl, apart := by show w.heap.size + 1 ≠ w.heap.size; omega
     far1 := fun h0 b o e hm => by
      obtain ⟨b', o', e', hb, _⟩ := HS.out.cells h0; have e : p = some ⟨b, o, none⟩ := e; rw [e'] at e
      cases e
      simp [Rd.own] at hm; omega
     far2 := fun h0 b o e hm => by
      obtain ⟨b', o', e', hb, _⟩ := HO.out.cells h0; have e : q = some ⟨b, o, none⟩ := e; rw [e'] at e
      cases e
      simp [Rd.own] at hm; omega })
  obtain ⟨gb, hgb⟩ : ∃ gb, w.heap.size = gb := ⟨_, rfl⟩
  have EG := Lib.hid hgb; rw [hgb] at N0 ⊢; clear hc W0 EA EB hgb hmk; have c2 := RNow.len (S := ⟨z, o, [], []⟩) (V := List.replicate n 0) N0.out (n := n) (by simp); have z1 := N0.out.toRW.lt; have z2 := N0.out.words.lt; have g0 := RNow.word (S := ⟨z, o, [], []⟩) (V := List.replicate n 0) N0.out (j := 16) (x := _) (by simp; omega) rfl; have fr := N0.out.words.froz 16; have N1 := Lib.hid (N0.out.set (j := 16) (v := 17) (by simp; omega) (by omega) (by omega)); simp only [] at c2 z1 z2 g0 fr; have t16 : 16 < n := by omega
  have t18 : 18 < n := by omega
  go_upto_region 3 with fail
  refine RNow.cut N1.out ?_; intro w2 N2'; have N2 := Lib.hid N2'; clear c2 z1 z2 g0 fr N1 N2' N0; have c2 := RNow.len (S := ⟨z, o, [], []⟩) (V := (List.replicate n 0).set 16 17) N2.out (n := n) (by simp); have z1 := N2.out.toRW.lt; have z2 := N2.out.words.lt; have g0 := RNow.word (S := ⟨z, o, [], []⟩) (V := (List.replicate n 0).set 16 17) N2.out (j := 18) (x := _) (by simp; omega) rfl; have fr := N2.out.words.froz 18; have wn : IntKind.i64.wrap ((n : Int) - 17) = (n : Int) - 17 := IntWalk.i64_in _ (by omega); have N3 := Lib.hid (N2.out.set (j := 18) (v := (n : Int) - 17) (by simp; omega) (by omega) (by omega)); simp only [] at c2 z1 z2 g0 fr
  go_wp2_with fail
  go_returns; refine ⟨_, rfl, N3.out.toRW, fun b hb => ?_, N3.out.but.toExt E2.out fun b hb => ?_, rfl, rfl⟩
  · have := EG.out; simp [Rd.own] at hb; omega
  · have := EG.out; simp [Rd.own] at hb; omega
end Go.Proofs.YtdokmmhjmclmnaaGreat
