/-
  Part 35 of a proof: PL27 PL28 PL29 RP13 RP15.
-/
import Derived.Test.YtdokmmhjmclmnaaGreatMP11
import Derived.Test.YtdokmmhjmclmnaaGreatMP23
import Derived.Test.YtdokmmhjmclmnaaGreatMP31
import Derived.Test.YtdokmmhjmclmnaaGreatMP33
import Derived.Test.YtdokmmhjmclmnaaGreatMP34
set_option linter.unusedSimpArgs false
set_option linter.unusedVariables false
set_option linter.unusedSectionVars false
set_option linter.unnecessarySimpa false
namespace Go.Proofs.YtdokmmhjmclmnaaGreat
namespace Hp
structure Unl (S : Hs) (ch : Nat → List Nat) (T : List Nat) (k : Nat) (W W1 : List Int) : Prop where
 len : W.length = S.words.length
 run : Hs.unlinks T S.fuel W ((List.range 16).drop k) = some W1
 path : ∀ c, k ≤ c → c < 16 → Path (ow W) c (ch c)
structure UnlIn (S : Hs) (T : List Nat) (m link : Nat) (V Wk : List Int) : Prop where
 len : V.length = S.words.length
 lt : link < S.words.length
 run : Hs.unlinkFrom T m V link = some Wk
 rest : ∃ r : List Nat, Path (ow V) link r ∧ r.Nodup ∧ ∀ a ∈ r, a ∈ S.taken ∧ link ≠ a + 3
structure Counting (S : Hs) (W1 : List Int) (D : List Nat) (i : Nat) (W : List Int) : Prop where
 len : W.length = S.words.length
 other : ∀ j, (∀ b ∈ S.taken, j ≠ b + 1) → ow W j = ow W1 j
 cnt : ∀ b ∈ S.taken, ow W (b + 1) = ow W1 (b + 1) - (Hp.cnt (ow S.words) S.sizes b (D.take i) : Nat)
structure CountIn (S : Hs) (W1 : List Int) (D : List Nat) (i a k : Nat) (W : List Int) : Prop where
 len : W.length = S.words.length
 other : ∀ j, (∀ b ∈ S.taken, j ≠ b + 1) → ow W j = ow W1 j
 cnt : ∀ b ∈ S.taken, ow W (b + 1) = ow W1 (b + 1) - (Hp.cnt (ow S.words) S.sizes b (D.take i) : Nat) - ((((kz (ow S.words) S.sizes a).take k).count (b : Int) : Nat) : Int)
section
variable {S S3 : Hs} {B : Nat} {L : List Tl} {ch : Nat → List Nat} {T : List Nat} {W W1 W2 V Wk : List Int} {k m link i a : Nat}
theorem Unl.start (h : Wf S B L ch) (m : Mid S ch T W1 W2 S3) : Unl S ch T 0 S.words W1 := ⟨rfl, by rw [List.drop_zero]; exact m.un, fun c _ hc => h.chains.path c hc⟩
theorem Unl.fin (u : Unl S ch T 16 W W1) : W = W1 := by
 have := u.run
 rw [show (List.range 16).drop 16 = [] from rfl] at this
 simpa [Hs.unlinks] using this
theorem Unl.into (h : Wf S B L ch) (hk : k < 16) (u : Unl S ch T k W W1) : ∃ Wk, UnlIn S T S.fuel k W Wk ∧ Unl S ch T (k + 1) Wk W1 := by
 obtain ⟨Wk, r1, r2⟩ := unlinks_cons hk u.run
 have hlo := h.lo
 have hlen := u.len
 have p := u.path k (Nat.le_refl _) hk
 have nd := h.chains.nodup k hk
 have mm : ∀ c, c < 16 → ∀ a ∈ ch c, a ∈ S.taken := fun c hc a ha => ((h.chains.mem c hc a).1 ha).1
 obtain ⟨W', e1, l1, _, g1⟩ := unlinkFrom_spec T (ch k) S.fuel k W p nd (fun a ha => by have := h.part (mm k hk a ha); omega) (by omega) (by
  have := nodup_len nd (mm k hk); have := h.few; unfold Hs.fuel; omega)
 rw [r1] at e1
 cases e1
 refine ⟨Wk, ⟨u.len, by omega, r1, ch k, p, nd, fun a ha => ⟨mm k hk a ha, by have := h.part (mm k hk a ha); omega⟩⟩, ⟨l1.trans u.len, r2, fun c h1 h2 => ?_⟩⟩
 refine (u.path c (by omega) h2).congr (g1 c (by omega) fun a ha => by have := h.part (mm k hk a ha); omega) fun a ha => g1 (a + 3) (by have := h.part (mm c h2 a ha); omega) fun b hb e => ?_
 have : a = b := by omega
 subst this
 have e1 := ((h.chains.mem c h2 a).1 ha).2
 have e2 := ((h.chains.mem k hk a).1 hb).2
 omega
theorem UnlIn.cases (h : Wf S B L ch) (u : UnlIn S T m link V Wk) : ∃ m', m = m' + 1 ∧ ((ow V link = 0 ∧ Wk = V) ∨ ∃ x, x ∈ S.taken ∧ ow V link = (x : Int) ∧
    ((T.contains x = true ∧ UnlIn S T m' (x + 3) V Wk) ∨ (T.contains x = false ∧ UnlIn S T m' link (V.set link (ow V (x + 3))) Wk))) := by
  obtain ⟨r, p, nd, hr⟩ := u.rest; have hlen := u.len; have hlt := u.lt; obtain ⟨m', a, hm, ha, hq⟩ := unlinkFrom_succ u.run; refine ⟨m', hm, ?_⟩
  cases r with
  | nil =>
   have e : ow V link = 0 := p; rw [ra_ow (a := 0) (by omega) (by simpa using e)] at ha
   cases ha
   rcases hq with ⟨_, e2⟩ | ⟨h0, _⟩ | ⟨h0, _⟩
   · exact .inl ⟨e, e2⟩
   · exact absurd rfl h0
   · exact absurd rfl h0
  | cons x r =>
   obtain ⟨e, h0, p⟩ := p; obtain ⟨d1, d2⟩ := List.nodup_cons.1 nd; have hx := hr x (by simp); have px := h.part hx.1; rw [ra_ow (by omega) e] at ha; have ea : x = a := Option.some.inj ha; subst ea; refine .inr ⟨x, hx.1, e, ?_⟩
   rcases hq with ⟨h1, _⟩ | ⟨_, hc, hq⟩ | ⟨_, hc, y, V1, hy, hV, hq⟩
   · exact absurd h1 h0
   · exact .inl ⟨hc, hlen, by omega, hq, r, p, d2, fun b hb => ⟨(hr b (by simp [hb])).1, fun e' => d1 (by rw [show x = b by omega]; exact hb)⟩⟩
   · have ey := (ow_rd hy).1; have hl' : link < V.length := by omega
     unfold wr at hV; rw [if_pos hl'] at hV
     cases hV
     rw [← ey] at hq; refine .inr ⟨hc, by simpa using hlen, hlt, hq, r, p.move (by rw [ow_set_eq hl']) fun b hb => ow_set_ne hl' (hr b (by simp [hb])).2.symm, d2, fun b hb => hr b (by simp [hb])⟩
theorem Counting.start (m : Mid S ch T W1 W2 S3) {D : List Nat} : Counting S W1 D 0 W1 := ⟨m.l1, fun _ _ => rfl, fun b _ => by simp [Hp.cnt]⟩
theorem Counting.into {D : List Nat} (c : Counting S W1 D i W) : CountIn S W1 D i a 0 W := ⟨c.len, c.other, fun b hb => by rw [c.cnt b hb]; simp⟩
theorem CountIn.done {D : List Nat} (ha : D[i]? = some a) (c : CountIn S W1 D i a (kz (ow S.words) S.sizes a).length W) : Counting S W1 D (i + 1) W := by
 refine ⟨c.len, c.other, fun b hb => ?_⟩
 have e : D.take (i + 1) = D.take i ++ [a] := by
  obtain ⟨hl, rfl⟩ := List.getElem?_eq_some_iff.1 ha; exact List.take_succ_eq_append_getElem hl
 rw [c.cnt b hb, e, cnt_app, List.take_length]
 have : Hp.cnt (ow S.words) S.sizes b [a] = (kz (ow S.words) S.sizes a).count (b : Int) := by simp [Hp.cnt]
 rw [this]
 push_cast
 omega
theorem Counting.fin (h : Wf S B L ch) (m : Mid S ch T W1 W2 S3) (c : Counting S W1 (S.taken.filter fun a => !T.contains a) (S.taken.filter fun a => !T.contains a).length W) : W = W2 := by
 refine ext_ow (by rw [c.len, m.l2]) fun j _ => ?_
 by_cases hj : ∀ b ∈ S.taken, j ≠ b + 1
 · rw [c.other j hj, m.v3 j hj]
 · obtain ⟨b, hb⟩ := Classical.not_forall.1 hj; obtain ⟨hb', e⟩ := Classical.not_imp.1 hb; have e : j = b + 1 := Classical.not_not.1 e; subst e; rw [c.cnt b hb', m.v4 b hb', List.take_length]
theorem CountIn.look (h : Wf S B L ch) (m : Mid S ch T W1 W2 S3) {D : List Nat} (c : CountIn S W1 D i a k W) {b j : Nat} (hb : b ∈ S.taken) (hj : j < wz S.sizes (ow S.words b)) (h1 : j ≠ 1) (h3 : j ≠ 3) : ow W (b + j) = ow S.words (b + j) := by
 rw [c.other _ fun x hx => h.ne hb hx hj (by have := h.part hx; omega) (.inr h1), m.k1 b hb j hj h3]
theorem Counting.look (h : Wf S B L ch) (m : Mid S ch T W1 W2 S3) {D : List Nat} (c : Counting S W1 D i W) {b j : Nat} (hb : b ∈ S.taken) (hj : j < wz S.sizes (ow S.words b)) (h1 : j ≠ 1) (h3 : j ≠ 3) : ow W (b + j) = ow S.words (b + j) := CountIn.look h m (c.into (a := 0)) hb hj h1 h3
theorem cnt_take_le (h : Wf S B L ch) {D : List Nat} (hD : ∀ a ∈ D, a ∈ S.taken) (hn : D.Nodup) (hp : D.Sublist S.taken) (b i : Nat) : Hp.cnt (ow S.words) S.sizes b (D.take i) ≤ 100000 := by
 have h1 := cnt_le (f := ow S.words) (z := S.sizes) b (D.take i)
 have h2 : ∀ A C : List Nat, A.Sublist C → widths (ow S.words) S.sizes A ≤ widths (ow S.words) S.sizes C := fun A C hs => by
  induction hs with
  | slnil => exact Nat.le_refl _
  | cons x _ ih => exact Nat.le_trans ih (Nat.le_add_left _ _)
  | cons_cons x _ ih => exact Nat.add_le_add_left ih _
 have h3 := h2 _ _ ((List.take_sublist i D).trans hp)
 have h4 := h.widths_
 have := h.hi
 omega
theorem CountIn.step (h : Wf S B L ch) (m : Mid S ch T W1 W2 S3) {D : List Nat} (hp : D.Sublist S.taken) (ha : a ∈ S.taken) (c : CountIn S W1 D i a k W) {b : Nat} (hk : (kz (ow S.words) S.sizes a)[k]? = some (b : Int)) :
    b ∈ S.taken ∧ b + 1 < W.length ∧ -1000000 ≤ ow W (b + 1) ∧ ow W (b + 1) ≤ 100000 ∧ CountIn S W1 D i a (k + 1) (W.set (b + 1) (ow W (b + 1) - 1)) := by
  obtain ⟨b', hb, e, _⟩ := h.cells.kids a ha _ (List.mem_of_getElem? hk); have : b = b' := by omega
  subst this; have pb := h.part hb; have hl := c.len; have hlt : b + 1 < W.length := by omega
  have u := h.uses_le hb; have e1 := m.k1 b hb 1 (by omega) (by omega); have cc := c.cnt b hb; have ct := cnt_take_le h (fun x hx => hp.subset hx) (hp.nodup (up_nodup h.up)) hp b i; have cl : (((kz (ow S.words) S.sizes a).take k).count (b : Int)) ≤ 12 := by
   refine Nat.le_trans List.count_le_length ?_; rw [List.length_take]; have := kz_len (f := ow S.words) (z := S.sizes) (a := a); have := h.part ha; omega
  refine ⟨hb, hlt, by omega, by omega, ⟨by simpa using hl, fun j hj => ?_, fun x hx => ?_⟩⟩
  · rw [ow_set_ne hlt (hj b hb)]; exact c.other j hj
  · have ec : ((kz (ow S.words) S.sizes a).take (k + 1)).count (x : Int) = ((kz (ow S.words) S.sizes a).take k).count (x : Int) + (if b = x then 1 else 0) := by
      rw [List.take_add_one, hk, List.count_append]
      congr 1
      by_cases e : b = x
      · subst e; simp
      · have : ((b : Int) == (x : Int)) = false := by simp; omega
        simp [List.count_cons, this, e]
    rw [ec]
    by_cases e : x = b
    · subst e; rw [ow_set_eq hlt, if_pos rfl, cc]
      push_cast
      omega
    · rw [ow_set_ne hlt (by omega), if_neg (fun q => e q.symm), c.cnt x hx]; simp
end
end Hp
namespace Hp
def toL (m : Nat → Nat) (T : List Nat) (j : Nat) : List Int := (T.take j).map (fun a => ((m a : Nat) : Int)) ++ List.replicate (T.length - j) 0
theorem toL_zero (m : Nat → Nat) (T : List Nat) : toL m T 0 = List.replicate T.length 0 := by simp [toL]
theorem toL_all (m : Nat → Nat) (T : List Nat) : toL m T T.length = T.map fun a => ((m a : Nat) : Int) := by simp [toL]
theorem toL_len {m : Nat → Nat} {T : List Nat} {j : Nat} (h : j ≤ T.length) : (toL m T j).length = T.length := by
 simp [toL]
 omega
theorem toL_get {m : Nat → Nat} {T : List Nat} {i j a : Nat} (h : T[i]? = some a) (hij : i < j) : rd (toL m T j) i = some ((m a : Nat) : Int) := by
 have hl := (List.getElem?_eq_some_iff.1 h).1
 unfold rd toL
 rw [List.getElem?_append_left (by simp; omega), List.getElem?_map, List.getElem?_take, if_pos hij, h]
 rfl
theorem toL_set {m : Nat → Nat} {T : List Nat} {j a : Nat} (h : T[j]? = some a) : (toL m T j).set j ((m a : Nat) : Int) = toL m T (j + 1) := by
 obtain ⟨hl, rfl⟩ := List.getElem?_eq_some_iff.1 h
 unfold toL
 rw [List.take_succ_eq_append_getElem hl, List.map_append, List.append_assoc, List.set_append_right _ _ (by simp; omega), show T.length - j = (T.length - (j + 1)) + 1 by omega, List.replicate_succ]
 have : j - ((T.take j).map fun a => ((m a : Nat) : Int)).length = 0 := by simp; omega
 rw [this]
 simp
theorem pairs_succ {m : Nat → Nat} {T : List Nat} {j a : Nat} (h : T[j]? = some a) : pairsOf m (T.take (j + 1)) = pairsOf m (T.take j) ++ (if m a ≠ a then [(a : Int), (m a : Int)] else []) := by
 obtain ⟨hl, rfl⟩ := List.getElem?_eq_some_iff.1 h
 unfold pairsOf
 rw [List.take_succ_eq_append_getElem hl, List.flatMap_append, List.flatMap_cons, List.flatMap_nil, List.append_nil]
theorem pairs_len {m : Nat → Nat} : ∀ {T : List Nat}, (pairsOf m T).length ≤ 2 * T.length
 | [] => by simp [pairsOf]
 | a :: r => by
  have := pairs_len (m := m) (T := r); unfold pairsOf at this ⊢; rw [List.flatMap_cons, List.length_append, List.length_cons]; have h2 : (if m a ≠ a then [(a : Int), (m a : Int)] else []).length ≤ 2 := by split <;> simp
  omega
theorem map_rd {m : Nat → Nat} {T : List Nat} {i a : Nat} (h : T[i]? = some a) : rd (T.map fun a => ((m a : Nat) : Int)) i = some ((m a : Nat) : Int) := by
 simp [rd, h]
end Hp
namespace Hp
def fillL (f : Int → Int) (A : List Int) (j : Nat) : List Int := (A.take j).map f ++ List.replicate (A.length - j) 0
theorem fillL_zero (f : Int → Int) (A : List Int) : fillL f A 0 = List.replicate A.length 0 := by simp [fillL]
theorem fillL_all (f : Int → Int) (A : List Int) : fillL f A A.length = A.map f := by simp [fillL]
theorem fillL_len {f : Int → Int} {A : List Int} {j : Nat} (h : j ≤ A.length) : (fillL f A j).length = A.length := by
 simp [fillL]
 omega
theorem fillL_set {f : Int → Int} {A : List Int} {j : Nat} {x : Int} (h : rd A j = some x) : (fillL f A j).set j (f x) = fillL f A (j + 1) := by
 unfold rd at h
 obtain ⟨hl, rfl⟩ := List.getElem?_eq_some_iff.1 h
 unfold fillL
 rw [List.take_succ_eq_append_getElem hl, List.map_append, List.append_assoc, List.set_append_right _ _ (by simp; omega), show A.length - j = (A.length - (j + 1)) + 1 by omega, List.replicate_succ]
 have : j - ((A.take j).map f).length = 0 := by simp; omega
 rw [this]
 simp
theorem fillL_skip {f : Int → Int} {A : List Int} {j : Nat} {x : Int} (h : rd A j = some x) (h0 : f x = 0) : fillL f A (j + 1) = fillL f A j := by
 unfold rd at h
 obtain ⟨hl, rfl⟩ := List.getElem?_eq_some_iff.1 h
 unfold fillL
 rw [List.take_succ_eq_append_getElem hl, List.map_append, List.append_assoc, show A.length - j = (A.length - (j + 1)) + 1 by omega, List.replicate_succ]
 simp [h0]
def scanP : List Int → Int → Int → Int
 | a :: b :: r, x, cur => scanP r x (if a = x then b else cur)
 | _, _, cur => cur
def keptF (Y P : List Int) (x : Int) : Int := if Y.contains x then scanP P x x else 0
theorem scanP_none : ∀ {T : List Nat} {m : Nat → Nat} {a : Nat} {cur : Int}, a ∉ T → scanP (pairsOf m T) a cur = cur
 | [], _, _, _, _ => rfl
 | b :: T, m, a, cur, h => by
  have hb : b ≠ a := fun e => h (by simp [e])
  have ht : a ∉ T := fun e => h (by simp [e])
  have ih := scanP_none (m := m) (cur := cur) ht; unfold pairsOf at ih ⊢; rw [List.flatMap_cons]
  by_cases e : m b = b
  · rw [if_neg (by simp [e])]; exact ih
  · rw [if_pos e]; show scanP _ _ (if (b : Int) = (a : Int) then _ else _) = cur; rw [if_neg (by omega)]; exact ih
theorem scanP_pairs : ∀ {T : List Nat} {m : Nat → Nat} {a : Nat}, T.Nodup → a ∈ T → scanP (pairsOf m T) a a = ((m a : Nat) : Int)
 | [], _, _, _, h => by cases h
 | b :: T, m, a, hn, h => by
  obtain ⟨d1, d2⟩ := List.nodup_cons.1 hn
  by_cases eb : b = a
  · subst eb; unfold pairsOf; rw [List.flatMap_cons]
    by_cases e : m b = b
    · rw [if_neg (by simp [e])]; have := scanP_none (m := m) (cur := (b : Int)) d1; unfold pairsOf at this; rw [List.nil_append, this, e]
    · rw [if_pos e]; show scanP _ _ (if (b : Int) = (b : Int) then _ else _) = _; rw [if_pos rfl]; exact scanP_none d1
  · have ht : a ∈ T := by
      rcases List.mem_cons.1 h with rfl | h
      · exact absurd rfl eb
      · exact h
    have ih := scanP_pairs (m := m) d2 ht; unfold pairsOf at ih ⊢; rw [List.flatMap_cons]
    by_cases e : m b = b
    · rw [if_neg (by simp [e])]; exact ih
    · rw [if_pos e]; show scanP _ _ (if (b : Int) = (a : Int) then _ else _) = _; rw [if_neg (by omega)]; exact ih
theorem scanP_step {P : List Int} {k : Nat} {x cur a b : Int} (ha : rd P k = some a) (hb : rd P (k + 1) = some b) : scanP (P.drop k) x cur = scanP (P.drop (k + 2)) x (if a = x then b else cur) := by
 unfold rd at ha hb
 obtain ⟨h1, rfl⟩ := List.getElem?_eq_some_iff.1 ha
 obtain ⟨h2, rfl⟩ := List.getElem?_eq_some_iff.1 hb
 rw [List.drop_eq_getElem_cons h1, List.drop_eq_getElem_cons h2]
 rfl
theorem scanP_end {P : List Int} {k : Nat} {x cur : Int} (h : P.length ≤ k + 1) : scanP (P.drop k) x cur = cur := by
 have hl : (P.drop k).length ≤ 1 := by simp; omega
 generalize P.drop k = Q at hl
 match Q, hl with
 | [], _ => rfl
 | [_], _ => rfl
 | _ :: _ :: _, hl => simp at hl
end Hp
open Go.RowKit Go.Maps
set_option maxHeartbeats 2000000 in
theorem rNamed {w : World} {p : Option Addr} {c : Nat} {l : List Int} (h : SliceAt w p c l) (x : Int) :
    Calls Tryz.prog 146 #[.slice p l.length c, .int .i64 x] w fun e w' => e = .returned (.int .i64 (Hp.nameOf l x)) ∧ Ext w w' := by
  have hle := h.le; have hcap := h.cap; unfold Hp.nameOf
  by_cases h0 : 0 ≤ x
  · rw [if_pos h0]; obtain ⟨i, rfl⟩ : ∃ i : Nat, x = i := ⟨x.toNat, by omega⟩
    rw [Int.toNat_natCast]; have t0 : decide ((i : Int) < 0) = false := decide_eq_false (by omega)
    by_cases hi : i < l.length
    · obtain ⟨y, hy⟩ := rd_get hi; obtain ⟨b, o, rfl, hb, hc⟩ := h.cells (by omega); have g := hc i y hy; have e : l.getD i 0 = y := by
       rw [List.getD_eq_getElem?_getD]; unfold Hp.rd at hy; rw [hy]; rfl
      rw [e]; have t1 : decide ((i : Int) ≥ (l.length : Int)) = false := decide_eq_false (by omega); have t2 : decide ((l.length : Int) ≤ (i : Int)) = false := decide_eq_false (by omega); clear h hc hy e h0; generalize l.length = n at *; go_enter Tryz.func146, Tryz.ntmps146
      go_wp2_with fail
      go_returns; exact ⟨rfl, exx⟩
    · have e : l.getD i 0 = 0 := by
        rw [List.getD_eq_getElem?_getD, List.getElem?_eq_none (by omega)]; rfl
      rw [e]; have t1 : decide ((i : Int) ≥ (l.length : Int)) = true := decide_eq_true (by omega); have t2 : decide ((l.length : Int) ≤ (i : Int)) = true := decide_eq_true (by omega); clear h e h0; generalize l.length = n at *; go_enter Tryz.func146, Tryz.ntmps146
      go_wp2_with fail
      go_returns; exact ⟨rfl, exx⟩
  · rw [if_neg h0]; have t0 : decide (x < 0) = true := decide_eq_true (by omega); clear h; generalize l.length = n at *; go_enter Tryz.func146, Tryz.ntmps146
    go_wp2_with fail
    go_returns; exact ⟨rfl, exx⟩
theorem cutK {P : Program} {c : Code} {Q : Exit → Act → World → Prop} {a : Act} {w : World} {F : World → Prop} (h : F w) (k : ∀ w', F w' → c.wp P Q a w') : c.wp P Q a w := k w h
structure ExAt (w : World) (g : Nat) (l : List Int) : Prop where
 row : w.heap[g]? = some (.cells (ints l).toArray 3 (0, 0))
 wf : ∀ x ∈ l, -9223372036854775808 ≤ x ∧ x ≤ 9223372036854775807
namespace ExAt
variable {w w' : World} {g : Nat} {l : List Int}
theorem words (h : ExAt w g l) : WordsAt w g l := ⟨⟨[], by rw [List.append_nil]; exact h.row⟩, h.wf⟩
theorem ofBlock (h : ExAt w g l) (e : w'.heap[g]? = w.heap[g]?) : ExAt w' g l := ⟨by rw [e]; exact h.row, h.wf⟩
theorem lt (h : ExAt w g l) : g < w.heap.size := h.words.lt
theorem ext (h : ExAt w g l) (k : Ext w w') : ExAt w' g l := h.ofBlock (k.block g h.lt)
theorem set (h : ExAt w g l) {j : Nat} {v : Int} (hj : j < l.length) (h1 : -9223372036854775808 ≤ v) (h2 : v ≤ 9223372036854775807) : ExAt (w.setCell ⟨g, j, none⟩ (.int .i64 v)) g (l.set j v) := by
 refine ⟨?_, fun x hx => ?_⟩
 · rw [setCell_eq_setRow w g j _ _ _ _ h.row, setRow_heap w g _ _ _ _ h.row]; simp [ints, List.map_set]
 · rcases List.mem_or_eq_of_mem_set hx with hx | rfl
   · exact h.wf x hx
   · exact ⟨h1, h2⟩
theorem toRow (h : ExAt w g l) {base n : Nat} (hb : base ≤ g) (hn : l.length = n) (hm : n ≤ 1000000) : Row w base (some ⟨g, 0, none⟩) n l :=
 ⟨⟨by simp [ints], .inr ⟨g, n, _, by rw [hn], hb, h.row, by omega, by unfold maxLen; omega, by simp [ints, hn], by simp [ints, List.take_of_length_le]⟩⟩, h.wf⟩
theorem made (w : World) (n g : Nat) (hg : g = w.heap.size) : ExAt (w.alloc (.cells (madeCells #[.int .i64 0] n) 3)) g (List.replicate n 0) := by
 subst hg
 refine ⟨?_, fun x hx => by rw [List.eq_of_mem_replicate hx]; omega⟩
 rw [heap_new]
 congr 2
 apply Array.ext
 · simp [ints, size_madeCells]
 · intro i h1 h2; have hi : i < n := by simpa [size_madeCells] using h1
   simp [madeCells, ints, hi, Nat.mod_one]
end ExAt
set_option maxRecDepth 100000 in
set_option maxHeartbeats 8000000 in
theorem rKept {w : World} {p1 p2 p3 : Option Addr} {c1 c2 c3 : Nat} {A Y P : List Int} (h1 : SliceAt w p1 c1 A) (h2 : SliceAt w p2 c2 Y) (h3 : SliceAt w p3 c3 P) (hA : A.length ≤ 1000000) (hP : P.length ≤ 1000000) :
    Calls Tryz.prog 95 #[.slice p1 A.length c1, .slice p2 Y.length c2, .slice p3 P.length c3] w (ListPost w (A.map (Hp.keptF Y P))) := by
  have H1 := Lib.hid h1; have H2 := Lib.hid h2; have H3 := Lib.hid h3; have le1 := h1.le; have cp1 := h1.cap; have le3 := h3.le; have cp3 := h3.cap; obtain ⟨n, hn⟩ : ∃ n, A.length = n := ⟨_, rfl⟩
  have EN := Lib.hid hn; obtain ⟨m, hm⟩ : ∃ m, P.length = m := ⟨_, rfl⟩
  have EM := Lib.hid hm; have HAS := Lib.hid (fun x (b : Bool) (hb : Y.contains x = b) W (hW : Ext w W) => rHas_is hb (h2.ext hW)); rw [hn] at hA le1 ⊢; rw [hm] at hP le3 ⊢; generalize Y.length = yl at *; clear h1 h2 h3 hn hm; have hmk := run_make_row' (P := Tryz.prog) 22 3 (.int .i64 0) 8 Tryz.underlying22 (show (Tryz.prog.info? 3).map (fun i => (i.zero, i.size, i.bytes)) = some (some (.int .i64 0), 1, 8) from by kernel_rfl) rfl .i64 .i64 n (by omega) (by omega); go_enter Tryz.func95, Tryz.ntmps95; go_upto_region 2 with fail
  have E0 := Lib.hid (show Ext w (w.alloc (.cells (madeCells #[.int .i64 0] n) 3)) from Ext.alloc (Ext.refl _) _); have O0 := Lib.hid (ExAt.made w n _ rfl); generalize w.alloc (.cells (madeCells #[.int .i64 0] n) 3) = w0 at E0 O0 ⊢; obtain ⟨go, hgo⟩ : ∃ go, w.heap.size = go := ⟨_, rfl⟩
  have EGO := Lib.hid hgo; rw [hgo] at O0 ⊢; clear hgo hmk
  go_wp2_with fail
  go_loopg [8] n (fun g i wr => ∃ j : Nat, j ≤ n ∧ n - j ≤ g ∧ i = .int .i64 j ∧ Hid (ExAt wr go (Hp.fillL (Hp.keptF Y P) A j)) ∧ Hid (Ext w wr))
  case atStart => exact ⟨0, Nat.zero_le _, by omega, rfl, Lib.hid (by rw [Hp.fillL_zero, EN.out]; exact O0.out), E0⟩
  case round =>
   obtain ⟨j, hj, hg, rfl, O, E⟩ := hrel; clear O0 E0
   by_cases hlt : j < n
   · obtain ⟨x, hx⟩ := rd_get (l := A) (j := j) (by rw [EN.out]; exact hlt); obtain ⟨b1, o1, hp1, hb1, hc1⟩ := H1.out.cells (by rw [EN.out]; omega); have g1 := hc1 j x hx; have bx := H1.out.wf x (List.mem_of_getElem? hx); have gx := (E.out.cell hb1 (o1 + j)).trans g1; have tk : decide ((j : Int) < (n : Int)) = true := decide_eq_true (by omega); obtain ⟨bt, hbt⟩ : ∃ bt, Y.contains x = bt := ⟨_, rfl⟩
     have HS := Lib.hid (HAS.out x bt hbt wr E.out); have fl := Hp.fillL_len (f := Hp.keptF Y P) (A := A) (j := j) (by rw [EN.out]; omega); rw [EN.out] at fl; have HX := Lib.hid hx; have HBT := Lib.hid hbt; have FLN := Lib.hid fl; clear hc1 hx hbt fl; subst hp1
     cases bt with
     | false =>
      have O2 := Lib.hid (show ExAt wr go (Hp.fillL (Hp.keptF Y P) A (j + 1)) by rw [Hp.fillL_skip HX.out (by unfold Hp.keptF; rw [HBT.out]; rfl)]; exact O.out)
      go_wp2_with (go_at_call 85; refine (HS.out).mono ?_; rintro e w4 ⟨rfl, hb4⟩; obtain ⟨hc4, hf4, hs4⟩ := hb4.cells)
      go_roundg (n - (j + 1))
      case measure => omega
      case rel => exact ⟨j + 1, by omega, Nat.le_refl _, by go_num, Lib.hid (O2.out.ext hb4), Lib.hid (E.out.trans hb4)⟩
     | true =>
      have KF := Lib.hid (show Hp.keptF Y P x = Hp.scanP (P.drop 0) x x by unfold Hp.keptF; rw [HBT.out]; rfl); go_upto_region 6 with (go_at_call 85; refine (HS.out).mono ?_; rintro e w4 ⟨rfl, hb4⟩; obtain ⟨hc4, hf4, hs4⟩ := hb4.cells)
      have O4 := Lib.hid (O.out.ext hb4); have E4 := Lib.hid (E.out.trans hb4); have gx4 := (E4.out.cell hb1 (o1 + j)).trans g1; have gz := O4.out.words.get (j := j) (x := _) (Hp.rd_ow (by rw [FLN.out]; exact hlt)); have fr := O4.out.words.froz j; have zo := O4.out.lt; have KB : But [go] w4 (w4.setCell ⟨go, j, none⟩ (.int .i64 x)) := (But.refl _ _).setCell (by simp) _; have O5 := Lib.hid (O4.out.set (j := j) (v := x) (by rw [FLN.out]; exact hlt) bx.1 bx.2)
      have E5 := Lib.hid (KB.toExt E4.out (fun b hb => by have : b = go := by simpa using hb
                                                          have := EGO.out; omega))
      clear gx hb4 hc4 hf4 hs4 O E KB; go_upto_region 7 with fail
      refine cutK (F := fun W => Hid (ExAt W go ((Hp.fillL (Hp.keptF Y P) A j).set j x)) ∧ Hid (Ext w W)) ⟨O5, E5⟩ ?_; rintro w6 ⟨O6, E6⟩; clear O5 E5 gz fr zo gx4 O4 E4
      go_wp2_with fail
      go_loopg [9] m (fun g i wr => ∃ (k : Nat) (cur : Int), m - k ≤ g ∧ k ≤ m + 1 ∧ i = .int .i64 k ∧ -9223372036854775808 ≤ cur ∧ cur ≤ 9223372036854775807 ∧ Hid (Hp.scanP (P.drop k) x cur = Hp.keptF Y P x) ∧ Hid (ExAt wr go ((Hp.fillL (Hp.keptF Y P) A j).set j cur)) ∧ Hid (Ext w wr))
      case atStart => exact ⟨0, x, by omega, by omega, rfl, bx.1, bx.2, Lib.hid KF.out.symm, O6, E6⟩
      case round =>
       obtain ⟨k, cur, hgk, hkm, rfl, bc1, bc2, SC, O, E⟩ := hrel; clear O6 E6
       by_cases hk : k + 1 < m
       · obtain ⟨a, ha⟩ := rd_get (l := P) (j := k) (by rw [EM.out]; omega); obtain ⟨b, hb⟩ := rd_get (l := P) (j := k + 1) (by rw [EM.out]; omega); obtain ⟨b3, o3, hp3, hb3, hc3⟩ := H3.out.cells (by rw [EM.out]; omega); have ga3 := (E.out.cell hb3 (o3 + k)).trans (hc3 k a ha); have gb3 := (E.out.cell hb3 (o3 + (k + 1))).trans (hc3 (k + 1) b hb); have bb := H3.out.wf b (List.mem_of_getElem? hb); have gx := (E.out.cell hb1 (o1 + j)).trans g1; have SC2 := Lib.hid (SC.out.symm.trans (Hp.scanP_step ha hb)); have z1 := Nat.lt_of_lt_of_le hb1 E.out.le; have z3 := Nat.lt_of_lt_of_le hb3 E.out.le; have wk : IntKind.i64.wrap ((k : Int) + 1) = (k : Int) + 1 := IntWalk.i64_in _ (by omega); have tk2 : decide ((k : Int) + 1 < (m : Int)) = true := decide_eq_true (by omega); have km : k < m := by omega
         clear hc3 ha hb; subst hp3
         by_cases hax : a = x
         · subst hax; have t0 : (a == a) = true := by simp
           have SC3 := Lib.hid (show Hp.scanP (P.drop (k + 2)) a b = Hp.keptF Y P a by have := SC2.out; rw [if_pos rfl] at this; exact this.symm)
           go_wp2_with fail
           have PR43 := Lib.hid (fun (ww : World) (hSw : Ext wr ww) => And.intro ((hSw.cell z1 (o1 + j)).trans gx) ((hSw.cell z3 (o3 + k)).trans ga3)); refine wp_region_seq (S := fun W => Ext wr W) (R := Ext) (by kernel_rfl) Ext.refl ?_ ?_
           · exact exx
           refine' tkL 0 rfl ?h0_1 ?_
           case h0_1 => (intro w q; obtain ⟨gx', ga'⟩ := PR43.out w q; go_simp; try with_reducible rfl)
           refine layy ?_; refine' tkL 1 rfl ?h1_2 ?_
           case h1_2 => (intro w q; obtain ⟨gx', ga'⟩ := PR43.out w q; go_simp; try with_reducible rfl)
           refine layy ?_; refine' tkL 2 rfl ?h2_3 ?_
           case h2_3 => (intro w q; obtain ⟨gx', ga'⟩ := PR43.out w q; go_simp; try with_reducible rfl)
           refine layy ?_; refine' tkL 3 rfl ?h3_4 ?_
           case h3_4 => (intro w q; obtain ⟨gx', ga'⟩ := PR43.out w q; go_simp; try with_reducible rfl)
           refine layy ?_; refine' tkL 4 rfl ?h4_5 ?_
           case h4_5 => (intro w q; obtain ⟨gx', ga'⟩ := PR43.out w q; go_simp; try with_reducible rfl)
           refine layy ?_; refine' tkL 5 rfl ?h5_6 ?_
           case h5_6 => (intro w q; obtain ⟨gx', ga'⟩ := PR43.out w q; go_simp; try with_reducible rfl)
           refine layy ?_; refine' tkL 6 rfl ?h6_7 ?_
           case h6_7 => (intro w q; obtain ⟨gx', ga'⟩ := PR43.out w q; go_simp; try with_reducible rfl)
           refine layy ?_; refine' tkL 7 rfl ?h7_8 ?_
           case h7_8 => (intro w q; obtain ⟨gx', ga'⟩ := PR43.out w q; go_simp; try with_reducible rfl)
           refine layy ?_; refine' tkL 8 rfl ?h8_9 ?_
           case h8_9 => (intro w q; obtain ⟨gx', ga'⟩ := PR43.out w q; go_simp; try with_reducible rfl)
           refine layy ?_; refine wpAnyR_done (by kernel_rfl) ?_ _; intro x1 _ Ex1; have OO := Lib.hid (O.out.ext Ex1); have EE := Lib.hid (E.out.trans Ex1); have gb4 := (Ex1.cell z3 (o3 + (k + 1))).trans gb3; have gz := OO.out.words.get (j := j) (x := _) (Hp.rd_ow (by simp; rw [FLN.out]; exact hlt)); have fr := OO.out.words.froz j; have zo := OO.out.lt; have KB : But [go] x1 (x1.setCell ⟨go, j, none⟩ (.int .i64 b)) := (But.refl _ _).setCell (by simp) _; have O5 := Lib.hid (show ExAt (x1.setCell ⟨go, j, none⟩ (.int .i64 b)) go ((Hp.fillL (Hp.keptF Y P) A j).set j b) by
            have := OO.out.set (j := j) (v := b) (by simp; rw [FLN.out]; exact hlt) bb.1 bb.2; rw [List.set_set] at this; exact this)
           have E5 := Lib.hid (KB.toExt EE.out (fun b hb => by have : b = go := by simpa using hb
                                                               have := EGO.out; omega))
           obtain ⟨y1, y2, y3, y4⟩ : IntKind.i64.wrap (((k : Nat) : Int) + 1) = ((k : Nat) : Int) + 1 ∧ (0 : Int) ≤ ((k : Nat) : Int) + 1 ∧ ((k : Nat) : Int) + 1 < ((m : Nat) : Int) ∧ (((k : Nat) : Int) + 1).toNat = k + 1 := ⟨IntWalk.i64_in _ (by omega), by omega, by omega, by omega⟩
           clear KB gx ga3 gb3
           go_wp2_with fail
           go_roundg (m - (k + 2))
           case measure => omega
           case rel => exact ⟨k + 2, b, Nat.le_refl _, by omega, by go_num, bb.1, bb.2, SC3, O5, E5⟩
         · have t0 : (a == x) = false := by simpa using hax
           have SC3 := Lib.hid (show Hp.scanP (P.drop (k + 2)) x cur = Hp.keptF Y P x by have := SC2.out; rw [if_neg hax] at this; exact this.symm); clear hax
           go_wp2_with fail
           have PR44 := Lib.hid (fun (ww : World) (hSw : Ext wr ww) => And.intro ((hSw.cell z1 (o1 + j)).trans gx) ((hSw.cell z3 (o3 + k)).trans ga3)); refine wp_region_seq (S := fun W => Ext wr W) (R := Ext) (by kernel_rfl) Ext.refl ?_ ?_
           · exact exx
           refine' tkL 0 rfl ?h0_10 ?_
           case h0_10 => (intro w q; obtain ⟨gx', ga'⟩ := PR44.out w q; go_simp; try with_reducible rfl)
           refine layy ?_; refine' tkL 1 rfl ?h1_11 ?_
           case h1_11 => (intro w q; obtain ⟨gx', ga'⟩ := PR44.out w q; go_simp; try with_reducible rfl)
           refine layy ?_; refine' tkL 2 rfl ?h2_12 ?_
           case h2_12 => (intro w q; obtain ⟨gx', ga'⟩ := PR44.out w q; go_simp; try with_reducible rfl)
           refine layy ?_; refine' tkL 3 rfl ?h3_13 ?_
           case h3_13 => (intro w q; obtain ⟨gx', ga'⟩ := PR44.out w q; go_simp; try with_reducible rfl)
           refine layy ?_; refine' tkL 4 rfl ?h4_14 ?_
           case h4_14 => (intro w q; obtain ⟨gx', ga'⟩ := PR44.out w q; go_simp; try with_reducible rfl)
           refine layy ?_; refine' tkL 5 rfl ?h5_15 ?_
           case h5_15 => (intro w q; obtain ⟨gx', ga'⟩ := PR44.out w q; go_simp; try with_reducible rfl)
           refine layy ?_; refine' tkL 6 rfl ?h6_16 ?_
           case h6_16 => (intro w q; obtain ⟨gx', ga'⟩ := PR44.out w q; go_simp; try with_reducible rfl)
           refine layy ?_; refine' tkL 7 rfl ?h7_17 ?_
           case h7_17 => (intro w q; obtain ⟨gx', ga'⟩ := PR44.out w q; go_simp; try with_reducible rfl)
           refine layy ?_; refine' tkL 8 rfl ?h8_18 ?_
           case h8_18 => (intro w q; obtain ⟨gx', ga'⟩ := PR44.out w q; go_simp; try with_reducible rfl)
           refine layy ?_; refine wpAnyR_done (by kernel_rfl) ?_ _; intro x1 _ Ex1; have OO := Lib.hid (O.out.ext Ex1); have EE := Lib.hid (E.out.trans Ex1)
           go_wp2_with fail
           go_roundg (m - (k + 2))
           case measure => omega
           case rel => exact ⟨k + 2, cur, Nat.le_refl _, by omega, by go_num, bc1, bc2, SC3, OO, EE⟩
       · have tk2 : decide ((k : Int) + 1 < (m : Int)) = false := decide_eq_false (by omega); have ec : cur = Hp.keptF Y P x := by rw [← SC.out, Hp.scanP_end (by rw [EM.out]; omega)]
         have O2 := Lib.hid (show ExAt wr go (Hp.fillL (Hp.keptF Y P) A (j + 1)) by rw [← Hp.fillL_set HX.out, ← ec]; exact O.out); clear ec
         go_wp2_with fail
         go_roundg (n - (j + 1))
         case measure => omega
         case rel => exact ⟨j + 1, by omega, Nat.le_refl _, by go_num, O2, E⟩
   · have : j = n := by omega
     subst this; have tk : decide ((j : Int) < (j : Int)) = false := decide_eq_false (by omega); have eF : Hp.fillL (Hp.keptF Y P) A j = A.map (Hp.keptF Y P) := by rw [← EN.out]; exact Hp.fillL_all _ _
     have OF := Lib.hid (show ExAt wr go (A.map (Hp.keptF Y P)) by rw [← eF]; exact O.out); clear eF
     go_wp2_with fail
     go_returns; exact ⟨some ⟨go, 0, none⟩, j, by rw [List.length_map, EN.out]; rfl, OF.out.toRow (by have := EGO.out; omega) (by rw [List.length_map]; exact EN.out) hA, E.out⟩
open Go.RowKit Go.Maps
namespace Hp
def rdo (S : Hs) (A : List Int) (x : Act') : Option (Int × Int × Int × Hs) :=
 if x.kind = 1 then do
  let (r, e, S) ← S.end' x.fault x.n
  some (r, r, e, S)
 else if x.kind = 2 ∨ x.kind = 3 then
  if (x.list.map (nameOf A)).contains 0 then some (0, 0, 7, S) else
  if x.kind = 2 then do
   let (r, e, S) ← S.make x.a (x.list.map (nameOf A))
   some (r, r, e, S)
  else do
   let (r, e) ← S.find x.a (x.list.map (nameOf A))
   some (r, r, e, S)
 else if x.kind = 4 ∨ x.kind = 5 then
  if nameOf A x.a = 0 then some (0, 0, 7, S) else
  if x.kind = 4 then do
   let (e, S) ← S.hold (nameOf A x.a)
   some (0, 0, e, S)
  else do
   let (e, S) ← S.drop (nameOf A x.a)
   some (0, 0, e, S)
 else if x.kind = 6 ∨ x.kind = 7 then some (0, 0, 0, S)
 else some (0, 0, 7, S)
end Hp
set_option maxRecDepth 100000 in
set_option maxHeartbeats 8000000 in
theorem rdo_end {w : World} {r : Rd} {S : Hp.Hs} {B : Nat} {L : List Hp.Tl} {ch : Nat → List Nat} (h : RW w r S) (hw : Hp.Wf S B L ch) {p pa : Option Addr} {c ca f : Nat} {x : Hp.Act'} {A : List Int} (hk : x.kind = 1) (hf : x.fault = f) (hf2 : f < 256) (hn1 : -9223372036854775808 ≤ x.n) (hn2 : x.n ≤ 9223372036854775807)
    {n at_ e0 : Int} {S' : Hp.Hs} (hr : Hp.rdo S A x = some (n, at_, e0, S')) :
    Calls Tryz.prog 94 #[.pointer (some ⟨r.rb, 0, none⟩), actV x p c f, .slice pa A.length ca] w (RTurned r w (.tuple #[.int .i64 n, .int .i64 at_, .int .i64 e0]) S') := by
  unfold Hp.rdo at hr; rw [if_pos hk, hf] at hr; simp only [Option.bind_eq_bind, Option.bind_eq_some_iff, Option.some.injEq, Prod.mk.injEq] at hr; obtain ⟨y, hy, rfl, rfl, rfl, rfl⟩ := hr; have H1 := Lib.hid ((RNow.refl h).ext (Ext.alloc (Ext.refl w) (.cells #[.int .u8 1, .int .i64 x.a, .slice p x.list.length c, .int .u8 f, .int .i64 x.n] 85))); have HW := Lib.hid hw; have HY := Lib.hid hy; unfold actV; rw [hk]; generalize A.length = na at *; clear h hw hy hk; go_enter Tryz.func94, Tryz.ntmps94
  go_wp2_with (go_at_call 112; refine (rEnd H1.out.toRW HW.out hf2 hn1 hn2 HY.out).mono ?_; rintro e w3 ⟨rfl, hN⟩)
  go_returns; exact ⟨rfl, H1.out.trans hN⟩
set_option maxRecDepth 100000 in
set_option maxHeartbeats 8000000 in
theorem rdo_make {w : World} {r : Rd} {S : Hp.Hs} {B : Nat} {L : List Hp.Tl} {ch : Nat → List Nat} (h : RW w r S) (hw : Hp.Wf S B L ch) {p pa : Option Addr} {c ca f : Nat} {x : Hp.Act'} {A : List Int} (hk : x.kind = 2) (hA : SliceAt w pa ca A) (hs : SliceAt w p c x.list) (hll : x.list.length ≤ 1000) (ha1 : -9223372036854775808 ≤ x.a) (ha2 : x.a ≤ 9223372036854775807)
    {n at_ e0 : Int} {S' : Hp.Hs} (hr : Hp.rdo S A x = some (n, at_, e0, S')) :
    Calls Tryz.prog 94 #[.pointer (some ⟨r.rb, 0, none⟩), actV x p c f, .slice pa A.length ca] w (RTurned r w (.tuple #[.int .i64 n, .int .i64 at_, .int .i64 e0]) S') := by
  unfold Hp.rdo at hr; rw [if_neg (by omega), if_pos (by omega)] at hr; simp only [hk, if_true] at hr; have HW := Lib.hid hw; have HR := Lib.hid hr; have own := Lib.hid h.own_lt; have H1 := Lib.hid ((RNow.refl h).ext (Ext.alloc (Ext.refl w) (.cells #[.int .u8 2, .int .i64 x.a, .slice p x.list.length c, .int .u8 f, .int .i64 x.n] 85))); have HS := Lib.hid (hs.ext (Ext.alloc (Ext.refl w) (.cells #[.int .u8 2, .int .i64 x.a, .slice p x.list.length c, .int .u8 f, .int .i64 x.n] 85))); have HA := Lib.hid (hA.ext (Ext.alloc (Ext.refl w) (.cells #[.int .u8 2, .int .i64 x.a, .slice p x.list.length c, .int .u8 f, .int .i64 x.n] 85))); have b0 : (w.alloc (.cells #[.int .u8 2, .int .i64 x.a, .slice p x.list.length c, .int .u8 f, .int .i64 x.n] 85)).cell? ⟨w.heap.size, 0, none⟩ = some (.int .u8 2) := by simp [go_sem]
  have b1 : (w.alloc (.cells #[.int .u8 2, .int .i64 x.a, .slice p x.list.length c, .int .u8 f, .int .i64 x.n] 85)).cell? ⟨w.heap.size, 1, none⟩ = some (.int .i64 x.a) := by simp [go_sem]
  have b2 : (w.alloc (.cells #[.int .u8 2, .int .i64 x.a, .slice p x.list.length c, .int .u8 f, .int .i64 x.n] 85)).cell? ⟨w.heap.size, 2, none⟩ = some (.slice p x.list.length c) := by simp [go_sem]
  unfold actV; rw [hk]; have WSZ := Lib.hid (show w.heap.size ≤ (w.alloc (.cells #[.int .u8 2, .int .i64 x.a, .slice p x.list.length c, .int .u8 f, .int .i64 x.n] 85)).heap.size from (Ext.alloc (Ext.refl w) _).le); have NWF := Lib.hid (fun v => nameOf_wf hA.wf v); have sle := hs.le; have scap := hs.cap; obtain ⟨m, hm⟩ : ∃ m, x.list.length = m := ⟨_, rfl⟩
  have EM := Lib.hid hm; obtain ⟨na, hna⟩ : ∃ na, A.length = na := ⟨_, rfl⟩
  have NAM : Hid (∀ v W, Ext (w.alloc (.cells #[.int .u8 2, .int .i64 x.a, .slice p x.list.length c, .int .u8 f, .int .i64 x.n] 85)) W → Calls Tryz.prog 146 #[.slice pa na ca, .int .i64 v] W fun e w' => e = .returned (.int .i64 (Hp.nameOf A v)) ∧ Ext W w') := Lib.hid (fun v W hW => by
   have := rNamed (HA.out.ext hW) v; rw [hna] at this; exact this)
  rw [hm] at sle hll H1 HS HA b0 b1 b2 NAM WSZ ⊢; rw [hna]; clear h hw hr hs hA hk hm hna HA; go_enter Tryz.func94, Tryz.ntmps94; go_upto_region 7 with fail
  generalize w.alloc (.cells #[.int .u8 2, .int .i64 x.a, .slice p m c, .int .u8 f, .int .i64 x.n] 85) = w1 at H1 HS b0 b1 b2 NAM WSZ ⊢; obtain ⟨bx, hbx⟩ : ∃ bx, w.heap.size = bx := ⟨_, rfl⟩
  have EBX := Lib.hid hbx; rw [hbx] at b0 b1 b2 ⊢; have zb := cell_lt b0; clear hbx
  go_wp2_with fail
  go_loopg [11, 12] m (fun g o i wr => ∃ (j : Nat) (p3 : Option Addr) (c3 : Nat), j ≤ m ∧ m - j ≤ g ∧ o = .slice p3 ((x.list.take j).map (Hp.nameOf A)).length c3 ∧ i = .int .i64 j ∧ Hid (((x.list.take j).map (Hp.nameOf A)).contains 0 = false) ∧ Hid (Row wr w1.heap.size p3 c3 ((x.list.take j).map (Hp.nameOf A))) ∧ Hid (Ext w1 wr))
  case atStart => exact ⟨0, none, 0, Nat.zero_le _, by omega, by simp, rfl, Lib.hid (by simp), Lib.hid (Row.nil _ _), Lib.hid (Ext.refl _)⟩
  case round =>
   obtain ⟨j, p3, c3, hj, hg, rfl, rfl, NZ, R, E⟩ := hrel; have b0w := (E.out.cell zb 0).trans b0; have b1w := (E.out.cell zb 1).trans b1; have b2w := (E.out.cell zb 2).trans b2; have PL := Lib.hid (show ((x.list.take j).map (Hp.nameOf A)).length = j by simp [List.length_take, EM.out]; omega)
   by_cases hlt : j < m
   · obtain ⟨v, hv⟩ := rd_get (l := x.list) (j := j) (by rw [EM.out]; exact hlt); obtain ⟨lb, lo2, hlp, hlb, hlc⟩ := HS.out.cells (by rw [EM.out]; omega); have gl := (E.out.cell hlb (lo2 + j)).trans (hlc j v hv); have tk : decide ((j : Int) < (m : Int)) = true := decide_eq_true (by omega); have es : (x.list.take (j + 1)).map (Hp.nameOf A) = (x.list.take j).map (Hp.nameOf A) ++ [Hp.nameOf A v] := by
      obtain ⟨hl', rfl⟩ := List.getElem?_eq_some_iff.1 hv; rw [List.take_succ_eq_append_getElem hl', List.map_append]; rfl
     have hin : Hp.nameOf A v ∈ x.list.map (Hp.nameOf A) := List.mem_map.2 ⟨v, List.mem_of_getElem? hv, rfl⟩; have NV := Lib.hid (fun W hW => NAM.out v W hW); have nwf := NWF.out v; obtain ⟨y, hy⟩ : ∃ y, Hp.nameOf A v = y := ⟨_, rfl⟩
     rw [hy] at es hin NV nwf; have ES := Lib.hid es; obtain ⟨PJ, hPJ⟩ : ∃ PJ, (x.list.take j).map (Hp.nameOf A) = PJ := ⟨_, rfl⟩
     rw [hPJ] at R PL NZ ES ⊢; clear es hv hlc hy hPJ; subst hlp
     by_cases h0 : y = 0
     · subst h0; have HR2 := HR.out; rw [if_pos (by simpa using hin)] at HR2; simp only [Option.some.injEq, Prod.mk.injEq] at HR2; obtain ⟨rfl, rfl, rfl, rfl⟩ := HR2; clear hin
       go_wp2_with (go_at_call 146; refine (NV.out _ E.out).mono ?_; rintro e w4 ⟨rfl, hb4⟩; obtain ⟨hc4, hf4, hs4⟩ := hb4.cells)
       go_returns; exact ⟨rfl, H1.out.ext (E.out.trans hb4)⟩
     · have t0 : (y == 0) = false := by simpa using h0
       have NZ2 := Lib.hid (show ((x.list.take (j + 1)).map (Hp.nameOf A)).contains 0 = false by
        rw [ES.out]; have := NZ.out; simp only [List.contains_eq_mem, decide_eq_false_iff_not] at this ⊢; simp only [List.mem_append, List.mem_singleton]; exact fun hm => hm.elim this (fun e => h0 e.symm))
       clear hin h0; go_upto_region 13 with (go_at_call 146; refine (NV.out _ E.out).mono ?_; rintro e w4 ⟨rfl, hb4⟩; obtain ⟨hc4, hf4, hs4⟩ := hb4.cells)
       have E4 := Lib.hid (E.out.trans hb4); have gl4 := (hb4.cell (Nat.lt_of_lt_of_le hlb E.out.le) (lo2 + j)).trans gl; have b24 := (hb4.cell (Nat.lt_of_lt_of_le zb E.out.le) 2).trans b2w; have R4 := Lib.hid (R.out.ext hb4); have wsz : w1.heap.size ≤ w4.heap.size := E4.out.le; clear gl b0w b1w b2w hc4 hf4 hs4 R E hb4
       go_wp2_with (first
        | (go_at_call 146; refine (NV.out _ E4.out).mono ?_; rintro e w5 ⟨rfl, hb5⟩; obtain ⟨hc5, hf5, hs5⟩ := hb5.cells; have R5 := Lib.hid ((R4.out.ext hb5).ext (Ext.alloc (Ext.refl _) (.cells #[.int .i64 y] 3))); have E5 := Lib.hid (E4.out.trans hb5))
        | (at_builtin; refine wpList_append_int rfl _ _ rfl (y := y) rfl rfl R5.out (by go_simp) (by omega) (by omega) (by have := PL.out; omega) (by have := E5.out.le; simp; omega) ?_; intro g8 c8 x8 hR8 hG8; obtain ⟨row, hgr, hrow⟩ := id hG8; have E8 : Ext w1 x8 := ext_grow (E5.out.alloc _) hgr hrow; have R8H := Lib.hid hR8))
       go_roundg (m - (j + 1))
       case measure => omega
       case rel => exact ⟨j + 1, some ⟨g8, 0, none⟩, c8, by omega, Nat.le_refl _, by rw [ES.out]; simp, by go_num, NZ2, Lib.hid (by rw [ES.out]; exact R8H.out), Lib.hid E8⟩
   · have : j = m := by omega
     subst this; have tk : decide ((j : Int) < (j : Int)) = false := decide_eq_false (by omega); have eT : x.list.take j = x.list := List.take_of_length_le (by rw [EM.out]; exact Nat.le_refl _); rw [eT] at NZ R PL ⊢; have HR2 := HR.out; obtain ⟨KL, hKL⟩ : ∃ KL, x.list.map (Hp.nameOf A) = KL := ⟨_, rfl⟩
     rw [hKL] at NZ R PL HR2 ⊢; clear hKL; rw [if_neg (by rw [NZ.out]; simp)] at HR2; simp only [Option.bind_eq_bind, Option.bind_eq_some_iff, Option.some.injEq, Prod.mk.injEq] at HR2; obtain ⟨y, hx, rfl, rfl, rfl, rfl⟩ := HR2; have HX := Lib.hid hx; have RH := Lib.hid R.out.at_; have FAR := Lib.hid (show ∀ b o, p3 = some ⟨b, o, none⟩ → b ∉ r.own from fun b o e hm => by
      have h1 := R.out.far e; have h2 := own.out b hm; have := WSZ.out; omega)
     have N1 := Lib.hid (H1.out.ext E.out); clear hx R
     go_wp2_with (go_at_call 114; refine (rMake N1.out.toRW HW.out RH.out FAR.out ha1 ha2 HX.out).mono ?_; rintro e w3 ⟨rfl, hN⟩)
     go_returns; exact ⟨rfl, N1.out.trans hN⟩
set_option maxRecDepth 100000 in
set_option maxHeartbeats 8000000 in
theorem rdo_find {w : World} {r : Rd} {S : Hp.Hs} {B : Nat} {L : List Hp.Tl} {ch : Nat → List Nat} (h : RW w r S) (hw : Hp.Wf S B L ch) {p pa : Option Addr} {c ca f : Nat} {x : Hp.Act'} {A : List Int} (hk : x.kind = 3) (hA : SliceAt w pa ca A) (hs : SliceAt w p c x.list) (hll : x.list.length ≤ 1000) (ha1 : -9223372036854775808 ≤ x.a) (ha2 : x.a ≤ 9223372036854775807)
    {n at_ e0 : Int} {S' : Hp.Hs} (hr : Hp.rdo S A x = some (n, at_, e0, S')) :
    Calls Tryz.prog 94 #[.pointer (some ⟨r.rb, 0, none⟩), actV x p c f, .slice pa A.length ca] w (RTurned r w (.tuple #[.int .i64 n, .int .i64 at_, .int .i64 e0]) S') := by
  unfold Hp.rdo at hr; rw [if_neg (by omega), if_pos (by omega)] at hr; simp only [hk, show ¬ (3 : Int) = 2 by decide, if_false] at hr; have HW := Lib.hid hw; have HR := Lib.hid hr; have own := Lib.hid h.own_lt; have H1 := Lib.hid ((RNow.refl h).ext (Ext.alloc (Ext.refl w) (.cells #[.int .u8 3, .int .i64 x.a, .slice p x.list.length c, .int .u8 f, .int .i64 x.n] 85))); have HS := Lib.hid (hs.ext (Ext.alloc (Ext.refl w) (.cells #[.int .u8 3, .int .i64 x.a, .slice p x.list.length c, .int .u8 f, .int .i64 x.n] 85))); have HA := Lib.hid (hA.ext (Ext.alloc (Ext.refl w) (.cells #[.int .u8 3, .int .i64 x.a, .slice p x.list.length c, .int .u8 f, .int .i64 x.n] 85))); have b0 : (w.alloc (.cells #[.int .u8 3, .int .i64 x.a, .slice p x.list.length c, .int .u8 f, .int .i64 x.n] 85)).cell? ⟨w.heap.size, 0, none⟩ = some (.int .u8 3) := by simp [go_sem]
  have b1 : (w.alloc (.cells #[.int .u8 3, .int .i64 x.a, .slice p x.list.length c, .int .u8 f, .int .i64 x.n] 85)).cell? ⟨w.heap.size, 1, none⟩ = some (.int .i64 x.a) := by simp [go_sem]
  have b2 : (w.alloc (.cells #[.int .u8 3, .int .i64 x.a, .slice p x.list.length c, .int .u8 f, .int .i64 x.n] 85)).cell? ⟨w.heap.size, 2, none⟩ = some (.slice p x.list.length c) := by simp [go_sem]
  unfold actV; rw [hk]; have WSZ := Lib.hid (show w.heap.size ≤ (w.alloc (.cells #[.int .u8 3, .int .i64 x.a, .slice p x.list.length c, .int .u8 f, .int .i64 x.n] 85)).heap.size from (Ext.alloc (Ext.refl w) _).le); have NWF := Lib.hid (fun v => nameOf_wf hA.wf v); have sle := hs.le; have scap := hs.cap; obtain ⟨m, hm⟩ : ∃ m, x.list.length = m := ⟨_, rfl⟩
  have EM := Lib.hid hm; obtain ⟨na, hna⟩ : ∃ na, A.length = na := ⟨_, rfl⟩
  have NAM : Hid (∀ v W, Ext (w.alloc (.cells #[.int .u8 3, .int .i64 x.a, .slice p x.list.length c, .int .u8 f, .int .i64 x.n] 85)) W → Calls Tryz.prog 146 #[.slice pa na ca, .int .i64 v] W fun e w' => e = .returned (.int .i64 (Hp.nameOf A v)) ∧ Ext W w') := Lib.hid (fun v W hW => by
   have := rNamed (HA.out.ext hW) v; rw [hna] at this; exact this)
  rw [hm] at sle hll H1 HS HA b0 b1 b2 NAM WSZ ⊢; rw [hna]; clear h hw hr hs hA hk hm hna HA; go_enter Tryz.func94, Tryz.ntmps94; go_upto_region 7 with fail
  generalize w.alloc (.cells #[.int .u8 3, .int .i64 x.a, .slice p m c, .int .u8 f, .int .i64 x.n] 85) = w1 at H1 HS b0 b1 b2 NAM WSZ ⊢; obtain ⟨bx, hbx⟩ : ∃ bx, w.heap.size = bx := ⟨_, rfl⟩
  have EBX := Lib.hid hbx; rw [hbx] at b0 b1 b2 ⊢; have zb := cell_lt b0; clear hbx
  go_wp2_with fail
  go_loopg [11, 12] m (fun g o i wr => ∃ (j : Nat) (p3 : Option Addr) (c3 : Nat), j ≤ m ∧ m - j ≤ g ∧ o = .slice p3 ((x.list.take j).map (Hp.nameOf A)).length c3 ∧ i = .int .i64 j ∧ Hid (((x.list.take j).map (Hp.nameOf A)).contains 0 = false) ∧ Hid (Row wr w1.heap.size p3 c3 ((x.list.take j).map (Hp.nameOf A))) ∧ Hid (Ext w1 wr))
  case atStart => exact ⟨0, none, 0, Nat.zero_le _, by omega, by simp, rfl, Lib.hid (by simp), Lib.hid (Row.nil _ _), Lib.hid (Ext.refl _)⟩
  case round =>
   obtain ⟨j, p3, c3, hj, hg, rfl, rfl, NZ, R, E⟩ := hrel; have b0w := (E.out.cell zb 0).trans b0; have b1w := (E.out.cell zb 1).trans b1; have b2w := (E.out.cell zb 2).trans b2; have PL := Lib.hid (show ((x.list.take j).map (Hp.nameOf A)).length = j by simp [List.length_take, EM.out]; omega)
   by_cases hlt : j < m
   · obtain ⟨v, hv⟩ := rd_get (l := x.list) (j := j) (by rw [EM.out]; exact hlt); obtain ⟨lb, lo2, hlp, hlb, hlc⟩ := HS.out.cells (by rw [EM.out]; omega); have gl := (E.out.cell hlb (lo2 + j)).trans (hlc j v hv); have tk : decide ((j : Int) < (m : Int)) = true := decide_eq_true (by omega); have es : (x.list.take (j + 1)).map (Hp.nameOf A) = (x.list.take j).map (Hp.nameOf A) ++ [Hp.nameOf A v] := by
      obtain ⟨hl', rfl⟩ := List.getElem?_eq_some_iff.1 hv; rw [List.take_succ_eq_append_getElem hl', List.map_append]; rfl
     have hin : Hp.nameOf A v ∈ x.list.map (Hp.nameOf A) := List.mem_map.2 ⟨v, List.mem_of_getElem? hv, rfl⟩; have NV := Lib.hid (fun W hW => NAM.out v W hW); have nwf := NWF.out v; obtain ⟨y, hy⟩ : ∃ y, Hp.nameOf A v = y := ⟨_, rfl⟩
     rw [hy] at es hin NV nwf; have ES := Lib.hid es; obtain ⟨PJ, hPJ⟩ : ∃ PJ, (x.list.take j).map (Hp.nameOf A) = PJ := ⟨_, rfl⟩
     rw [hPJ] at R PL NZ ES ⊢; clear es hv hlc hy hPJ; subst hlp
     by_cases h0 : y = 0
     · subst h0; have HR2 := HR.out; rw [if_pos (by simpa using hin)] at HR2; simp only [Option.some.injEq, Prod.mk.injEq] at HR2; obtain ⟨rfl, rfl, rfl, rfl⟩ := HR2; clear hin
       go_wp2_with (go_at_call 146; refine (NV.out _ E.out).mono ?_; rintro e w4 ⟨rfl, hb4⟩; obtain ⟨hc4, hf4, hs4⟩ := hb4.cells)
       go_returns; exact ⟨rfl, H1.out.ext (E.out.trans hb4)⟩
     · have t0 : (y == 0) = false := by simpa using h0
       have NZ2 := Lib.hid (show ((x.list.take (j + 1)).map (Hp.nameOf A)).contains 0 = false by
        rw [ES.out]; have := NZ.out; simp only [List.contains_eq_mem, decide_eq_false_iff_not] at this ⊢; simp only [List.mem_append, List.mem_singleton]; exact fun hm => hm.elim this (fun e => h0 e.symm))
       clear hin h0; go_upto_region 13 with (go_at_call 146; refine (NV.out _ E.out).mono ?_; rintro e w4 ⟨rfl, hb4⟩; obtain ⟨hc4, hf4, hs4⟩ := hb4.cells)
       have E4 := Lib.hid (E.out.trans hb4); have gl4 := (hb4.cell (Nat.lt_of_lt_of_le hlb E.out.le) (lo2 + j)).trans gl; have b24 := (hb4.cell (Nat.lt_of_lt_of_le zb E.out.le) 2).trans b2w; have R4 := Lib.hid (R.out.ext hb4); have wsz : w1.heap.size ≤ w4.heap.size := E4.out.le; clear gl b0w b1w b2w hc4 hf4 hs4 R E hb4
       go_wp2_with (first
        | (go_at_call 146; refine (NV.out _ E4.out).mono ?_; rintro e w5 ⟨rfl, hb5⟩; obtain ⟨hc5, hf5, hs5⟩ := hb5.cells; have R5 := Lib.hid ((R4.out.ext hb5).ext (Ext.alloc (Ext.refl _) (.cells #[.int .i64 y] 3))); have E5 := Lib.hid (E4.out.trans hb5))
        | (at_builtin; refine wpList_append_int rfl _ _ rfl (y := y) rfl rfl R5.out (by go_simp) (by omega) (by omega) (by have := PL.out; omega) (by have := E5.out.le; simp; omega) ?_; intro g8 c8 x8 hR8 hG8; obtain ⟨row, hgr, hrow⟩ := id hG8; have E8 : Ext w1 x8 := ext_grow (E5.out.alloc _) hgr hrow; have R8H := Lib.hid hR8))
       go_roundg (m - (j + 1))
       case measure => omega
       case rel => exact ⟨j + 1, some ⟨g8, 0, none⟩, c8, by omega, Nat.le_refl _, by rw [ES.out]; simp, by go_num, NZ2, Lib.hid (by rw [ES.out]; exact R8H.out), Lib.hid E8⟩
   · have : j = m := by omega
     subst this; have tk : decide ((j : Int) < (j : Int)) = false := decide_eq_false (by omega); have eT : x.list.take j = x.list := List.take_of_length_le (by rw [EM.out]; exact Nat.le_refl _); rw [eT] at NZ R PL ⊢; have HR2 := HR.out; obtain ⟨KL, hKL⟩ : ∃ KL, x.list.map (Hp.nameOf A) = KL := ⟨_, rfl⟩
     rw [hKL] at NZ R PL HR2 ⊢; clear hKL; rw [if_neg (by rw [NZ.out]; simp)] at HR2; simp only [Option.bind_eq_bind, Option.bind_eq_some_iff, Option.some.injEq, Prod.mk.injEq] at HR2; obtain ⟨y, hx, rfl, rfl, rfl, rfl⟩ := HR2; have HX := Lib.hid hx; have RH := Lib.hid R.out.at_; have FAR := Lib.hid (show ∀ b o, p3 = some ⟨b, o, none⟩ → b ∉ r.own from fun b o e hm => by
      have h1 := R.out.far e; have h2 := own.out b hm; have := WSZ.out; omega)
     have N1 := Lib.hid (H1.out.ext E.out); clear hx R
     go_wp2_with (go_at_call 147; refine (rFind N1.out.toRW.at_ HW.out RH.out ha1 ha2 HX.out).mono ?_; rintro e w3 ⟨rfl, hN⟩)
     go_returns; exact ⟨rfl, N1.out.ext hN⟩
set_option maxRecDepth 100000 in
set_option maxHeartbeats 8000000 in
theorem rdo_hold {w : World} {r : Rd} {S : Hp.Hs} {B : Nat} {L : List Hp.Tl} {ch : Nat → List Nat} (h : RW w r S) (hw : Hp.Wf S B L ch) {p pa : Option Addr} {c ca f : Nat} {x : Hp.Act'} {A : List Int} (hk : x.kind = 4) (hA : SliceAt w pa ca A)
    {n at_ e0 : Int} {S' : Hp.Hs} (hr : Hp.rdo S A x = some (n, at_, e0, S')) :
    Calls Tryz.prog 94 #[.pointer (some ⟨r.rb, 0, none⟩), actV x p c f, .slice pa A.length ca] w (RTurned r w (.tuple #[.int .i64 n, .int .i64 at_, .int .i64 e0]) S') := by
  unfold Hp.rdo at hr; rw [if_neg (by omega), if_neg (by omega), if_pos (by omega)] at hr; simp only [hk, if_true] at hr; have H1 := Lib.hid ((RNow.refl h).ext (Ext.alloc (Ext.refl w) (.cells #[.int .u8 4, .int .i64 x.a, .slice p x.list.length c, .int .u8 f, .int .i64 x.n] 85))); have b0 : (w.alloc (.cells #[.int .u8 4, .int .i64 x.a, .slice p x.list.length c, .int .u8 f, .int .i64 x.n] 85)).cell? ⟨w.heap.size, 0, none⟩ = some (.int .u8 4) := by simp [go_sem]
  have zb := cell_lt b0; have NM := Lib.hid (rNamed (hA.ext (Ext.alloc (Ext.refl w) (.cells #[.int .u8 4, .int .i64 x.a, .slice p x.list.length c, .int .u8 f, .int .i64 x.n] 85))) x.a); have HW := Lib.hid hw; unfold actV; rw [hk]; obtain ⟨y, hy⟩ : ∃ y, Hp.nameOf A x.a = y := ⟨_, rfl⟩
  rw [hy] at hr NM; obtain ⟨na, hna⟩ : ∃ na, A.length = na := ⟨_, rfl⟩
  rw [hna] at NM ⊢; clear h hw hk hA hy hna
  by_cases h0 : y = 0
  · subst h0; rw [if_pos rfl] at hr; simp only [Option.some.injEq, Prod.mk.injEq] at hr; obtain ⟨rfl, rfl, rfl, rfl⟩ := hr; go_enter Tryz.func94, Tryz.ntmps94
    go_wp2_with (go_at_call 146; refine NM.out.mono ?_; rintro e w2 ⟨rfl, E2⟩; have b0' := (E2.cell zb 0).trans b0)
    go_returns; exact ⟨rfl, H1.out.ext E2⟩
  · rw [if_neg h0] at hr; simp only [Option.bind_eq_bind, Option.bind_eq_some_iff, Option.some.injEq, Prod.mk.injEq] at hr; obtain ⟨y2, hy2, rfl, rfl, rfl, rfl⟩ := hr; have HY := Lib.hid hy2; have t0 : (y == 0) = false := by simpa using h0
    clear hy2 h0; go_enter Tryz.func94, Tryz.ntmps94
    go_wp2_with (first
     | (go_at_call 146; refine NM.out.mono ?_; rintro e w2 ⟨rfl, E2⟩; have b0' := (E2.cell zb 0).trans b0)
     | (go_at_call 148; refine (rHold (H1.out.ext E2).toRW HW.out HY.out).mono ?_; rintro e w3 ⟨rfl, hN⟩))
    go_returns; exact ⟨rfl, (H1.out.ext E2).trans hN⟩
set_option maxRecDepth 100000 in
set_option maxHeartbeats 8000000 in
theorem rdo_drop {w : World} {r : Rd} {S : Hp.Hs} {B : Nat} {L : List Hp.Tl} {ch : Nat → List Nat} (h : RW w r S) (hw : Hp.Wf S B L ch) {p pa : Option Addr} {c ca f : Nat} {x : Hp.Act'} {A : List Int} (hk : x.kind = 5) (hA : SliceAt w pa ca A)
    {n at_ e0 : Int} {S' : Hp.Hs} (hr : Hp.rdo S A x = some (n, at_, e0, S')) :
    Calls Tryz.prog 94 #[.pointer (some ⟨r.rb, 0, none⟩), actV x p c f, .slice pa A.length ca] w (RTurned r w (.tuple #[.int .i64 n, .int .i64 at_, .int .i64 e0]) S') := by
  unfold Hp.rdo at hr; rw [if_neg (by omega), if_neg (by omega), if_pos (by omega)] at hr; simp only [hk, show ¬ (5 : Int) = 4 by decide, if_false] at hr; have H1 := Lib.hid ((RNow.refl h).ext (Ext.alloc (Ext.refl w) (.cells #[.int .u8 5, .int .i64 x.a, .slice p x.list.length c, .int .u8 f, .int .i64 x.n] 85))); have b0 : (w.alloc (.cells #[.int .u8 5, .int .i64 x.a, .slice p x.list.length c, .int .u8 f, .int .i64 x.n] 85)).cell? ⟨w.heap.size, 0, none⟩ = some (.int .u8 5) := by simp [go_sem]
  have zb := cell_lt b0; have NM := Lib.hid (rNamed (hA.ext (Ext.alloc (Ext.refl w) (.cells #[.int .u8 5, .int .i64 x.a, .slice p x.list.length c, .int .u8 f, .int .i64 x.n] 85))) x.a); have HW := Lib.hid hw; unfold actV; rw [hk]; obtain ⟨y, hy⟩ : ∃ y, Hp.nameOf A x.a = y := ⟨_, rfl⟩
  rw [hy] at hr NM; obtain ⟨na, hna⟩ : ∃ na, A.length = na := ⟨_, rfl⟩
  rw [hna] at NM ⊢; clear h hw hk hA hy hna
  by_cases h0 : y = 0
  · subst h0; rw [if_pos rfl] at hr; simp only [Option.some.injEq, Prod.mk.injEq] at hr; obtain ⟨rfl, rfl, rfl, rfl⟩ := hr; go_enter Tryz.func94, Tryz.ntmps94
    go_wp2_with (go_at_call 146; refine NM.out.mono ?_; rintro e w2 ⟨rfl, E2⟩; have b0' := (E2.cell zb 0).trans b0)
    go_returns; exact ⟨rfl, H1.out.ext E2⟩
  · rw [if_neg h0] at hr; simp only [Option.bind_eq_bind, Option.bind_eq_some_iff, Option.some.injEq, Prod.mk.injEq] at hr; obtain ⟨y2, hy2, rfl, rfl, rfl, rfl⟩ := hr; have HY := Lib.hid hy2; have t0 : (y == 0) = false := by simpa using h0
    clear hy2 h0; go_enter Tryz.func94, Tryz.ntmps94
    go_wp2_with (first
     | (go_at_call 146; refine NM.out.mono ?_; rintro e w2 ⟨rfl, E2⟩; have b0' := (E2.cell zb 0).trans b0)
     | (go_at_call 149; refine (rDrop (H1.out.ext E2).toRW HW.out HY.out).mono ?_; rintro e w3 ⟨rfl, hN⟩))
    go_returns; exact ⟨rfl, (H1.out.ext E2).trans hN⟩
set_option maxRecDepth 100000 in
set_option maxHeartbeats 8000000 in
theorem rdo_rest {w : World} {r : Rd} {S : Hp.Hs} (h : RW w r S) {p pa : Option Addr} {c ca f : Nat} {x : Hp.Act'} {A : List Int} (hk : x.kind < 1 ∨ 5 < x.kind)
    {n at_ e0 : Int} {S' : Hp.Hs} (hr : Hp.rdo S A x = some (n, at_, e0, S')) :
    Calls Tryz.prog 94 #[.pointer (some ⟨r.rb, 0, none⟩), actV x p c f, .slice pa A.length ca] w (RTurned r w (.tuple #[.int .i64 n, .int .i64 at_, .int .i64 e0]) S') := by
  unfold Hp.rdo at hr; rw [if_neg (by omega), if_neg (by omega), if_neg (by omega)] at hr; unfold actV; obtain ⟨kd, hkd⟩ : ∃ kd, x.kind = kd := ⟨_, rfl⟩
  rw [hkd] at hk hr ⊢; have H1 := Lib.hid ((RNow.refl h).ext (Ext.alloc (Ext.refl w) (.cells #[.int .u8 kd, .int .i64 x.a, .slice p x.list.length c, .int .u8 f, .int .i64 x.n] 85))); generalize A.length = na at *; have e1 : (kd == 1) = false := by simp; omega
  have e2 : (kd == 2) = false := by simp; omega
  have e3 : (kd == 3) = false := by simp; omega
  have e4 : (kd == 4) = false := by simp; omega
  have e5 : (kd == 5) = false := by simp; omega
  clear h hkd
  by_cases h67 : kd = 6 ∨ kd = 7
  · rw [if_pos h67] at hr; simp only [Option.some.injEq, Prod.mk.injEq] at hr; obtain ⟨rfl, rfl, rfl, rfl⟩ := hr
    rcases h67 with rfl | rfl
    · clear e1 e2 e3 e4 e5; go_enter Tryz.func94, Tryz.ntmps94
      go_wp2_with fail
      go_returns; exact ⟨rfl, H1.out⟩
    · clear e1 e2 e3 e4 e5; go_enter Tryz.func94, Tryz.ntmps94
      go_wp2_with fail
      go_returns; exact ⟨rfl, H1.out⟩
  · rw [if_neg h67] at hr; simp only [Option.some.injEq, Prod.mk.injEq] at hr; obtain ⟨rfl, rfl, rfl, rfl⟩ := hr; have e6 : (kd == 6) = false := by simp; omega
    have e7 : (kd == 7) = false := by simp; omega
    clear h67; go_enter Tryz.func94, Tryz.ntmps94
    go_wp2_with fail
    go_returns; exact ⟨rfl, H1.out⟩
theorem rdo_any {w : World} {r : Rd} {S : Hp.Hs} {B : Nat} {L : List Hp.Tl} {ch : Nat → List Nat} (h : RW w r S) (hw : Hp.Wf S B L ch) {p pa : Option Addr} {c ca f : Nat} {x : Hp.Act'} {A : List Int} (ok : ActOk x f) (hA : SliceAt w pa ca A) (hs : SliceAt w p c x.list)
    {n at_ e0 : Int} {S' : Hp.Hs} (hr : Hp.rdo S A x = some (n, at_, e0, S')) :
    Calls Tryz.prog 94 #[.pointer (some ⟨r.rb, 0, none⟩), actV x p c f, .slice pa A.length ca] w (RTurned r w (.tuple #[.int .i64 n, .int .i64 at_, .int .i64 e0]) S') := by
  have hk := ok.k0
  by_cases k1 : x.kind = 1
  · exact rdo_end h hw k1 ok.fault ok.f2 ok.n1 ok.n2 hr
  by_cases k2 : x.kind = 2
  · exact rdo_make h hw k2 hA hs ok.len ok.a1 ok.a2 hr
  by_cases k3 : x.kind = 3
  · exact rdo_find h hw k3 hA hs ok.len ok.a1 ok.a2 hr
  by_cases k4 : x.kind = 4
  · exact rdo_hold h hw k4 hA hr
  by_cases k5 : x.kind = 5
  · exact rdo_drop h hw k5 hA hr
  · exact rdo_rest h (by omega) hr
end Go.Proofs.YtdokmmhjmclmnaaGreat
