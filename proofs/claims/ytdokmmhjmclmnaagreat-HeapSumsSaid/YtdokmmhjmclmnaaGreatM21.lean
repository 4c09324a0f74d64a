/-
  Part 21 of a proof: PL12 PL13 HFn51 PL14 PL15.
-/
import Derived.Test.YtdokmmhjmclmnaaGreatM07
import Derived.Test.YtdokmmhjmclmnaaGreatM12
import Derived.Test.YtdokmmhjmclmnaaGreatM17
import Derived.Test.YtdokmmhjmclmnaaGreatM20
set_option linter.unusedSimpArgs false
set_option linter.unusedVariables false
set_option linter.unusedSectionVars false
set_option linter.unnecessarySimpa false
namespace Go.Proofs.YtdokmmhjmclmnaaGreat
namespace Hp
theorem lay_cells {f : Nat → Int} {z : List Int} : ∀ {T : List Nat} {s : Nat}, T.Pairwise (· < ·) → (∀ b ∈ T, 3 ≤ wz z (f b)) → Lay s (T.map fun b => (⟨place f z s T b, wz z (f b), false⟩ : Tl)) (s + widths f z T)
 | [], s, _, _ => by simp [Lay, widths]
 | a :: r, s, hp, h => by
  obtain ⟨p1, p2⟩ := List.pairwise_cons.1 hp
  refine ⟨by simp [place], h a (by simp), ?_⟩
  have ih := lay_cells (f := f) (z := z) (s := s + wz z (f a)) p2 fun b hb => h b (by simp [hb])
  have e : (r.map fun b => (⟨place f z s (a :: r) b, wz z (f b), false⟩ : Tl)) = r.map fun b => (⟨place f z (s + wz z (f a)) r b, wz z (f b), false⟩ : Tl) := by
   apply List.map_congr_left
   intro b hb
   have : b ≠ a := by have := p1 b hb; omega
   simp [place, this]
  show Lay (s + wz z (f a)) (List.map _ r) _
  rw [e, show s + widths f z (a :: r) = s + wz z (f a) + widths f z r by simp [widths, Nat.add_assoc]]
  exact ih
theorem free_sum {f : Nat → Int} {z : List Int} : ∀ {s n : Nat} {L : List Tl}, Lay s L n → (∀ t ∈ L, t.fr = false → t.k = wz z (f t.a)) → s + widths f z (adsOf L) = n ∨ s + widths f z (adsOf L) + 3 ≤ n
 | s, n, [], h, _ => .inl (by have : s = n := h; simpa [adsOf, widths] using this)
 | s, n, t :: r, h, hk => by
  obtain ⟨h1, h2, h3⟩ := h
  have ih := free_sum h3 fun u hu => hk u (by simp [hu])
  have e : adsOf (t :: r) = (if t.fr then [] else [t.a]) ++ adsOf r := by
   cases hf : t.fr <;> simp [adsOf, hf]
  rw [e, widths_app]
  cases hf : t.fr
  · have := hk t (by simp) hf
    simp only [Bool.false_eq_true, if_false, widths]
    omega
  · simp only [if_true, widths]
    omega
theorem ow_rep (n j : Nat) : ow (List.replicate n (0 : Int)) j = 0 := by
 unfold ow
 rw [List.getD_eq_getElem?_getD, List.getElem?_replicate]
 split <;> rfl
structure Moved (S S' : Hs) (M : List (Nat × Int)) (m : Nat → Nat) : Prop where
 sizes : S'.sizes = S.sizes
 order : S'.order = S.order
 len : S'.words.length = S.words.length
 taken : S'.taken = S.taken.map m
 up : KeysUp M
 get : ∀ b, getI b M = if b ∈ S.taken then some ((m b : Nat) : Int) else none
 tag : ∀ b ∈ S.taken, ow S'.words (m b) = ow S.words b
 hold : ∀ b ∈ S.taken, ow S'.words (m b + 2) = ow S.words (b + 2)
 fs : ∀ b ∈ S.taken, fz (ow S'.words) S.sizes (m b) = nz (ow S.words) S.sizes m b
 inj : ∀ a ∈ S.taken, ∀ b ∈ S.taken, m a = m b → a = b
theorem map_inj {m : Nat → Nat} {T : List Nat} (hi : ∀ a ∈ T, ∀ b ∈ T, m a = m b → a = b) : ∀ {l l' : List Int}, (∀ x ∈ l, ∃ k ∈ T, x = (k : Int)) → (∀ x ∈ l', ∃ k ∈ T, x = (k : Int)) → l.map (to' m) = l'.map (to' m) → l = l'
 | [], [], _, _, _ => rfl
 | [], _ :: _, _, _, h => by simp at h
 | _ :: _, [], _, _, h => by simp at h
 | x :: l, y :: l', h1, h2, h => by
  simp only [List.map_cons, List.cons.injEq] at h
  obtain ⟨a, ha, rfl⟩ := h1 x (by simp)
  obtain ⟨b, hb, rfl⟩ := h2 y (by simp)
  have e : m a = m b := by
   have := h.1
   unfold to' at this
   rw [Int.toNat_natCast, Int.toNat_natCast] at this
   omega
  rw [hi a ha b hb e, map_inj hi (fun z hz => h1 z (by simp [hz])) (fun z hz => h2 z (by simp [hz])) h.2]
theorem count_map {m : Nat → Nat} {T : List Nat} (hi : ∀ a ∈ T, ∀ b ∈ T, m a = m b → a = b) {b : Nat} (hb : b ∈ T) : ∀ {l : List Int}, (∀ x ∈ l, ∃ k ∈ T, x = (k : Int)) → (l.map (to' m)).count ((m b : Nat) : Int) = l.count (b : Int)
 | [], _ => rfl
 | x :: l, h => by
  obtain ⟨a, ha, rfl⟩ := h x (by simp)
  rw [List.map_cons, List.count_cons, List.count_cons, count_map hi hb fun z hz => h z (by simp [hz])]
  have : (to' m (a : Int) == ((m b : Nat) : Int)) = ((a : Int) == (b : Int)) := by
   unfold to'
   rw [Int.toNat_natCast, Bool.eq_iff_iff]
   simp only [beq_iff_eq]
   constructor
   · intro e
     rw [hi a ha b hb (by omega)]
   · intro e
     rw [show a = b by omega]
  rw [this]
theorem alike_map {m : Nat → Nat} {T : List Nat} (hi : ∀ a ∈ T, ∀ b ∈ T, m a = m b → a = b) {l : List Int} (h : ∀ x ∈ l, ∃ k ∈ T, x = (k : Int)) (ha : Hs.alike (l.map (to' m)) = true) : Hs.alike l = true := by
 cases l with
 | nil => rfl
 | cons x r =>
  obtain ⟨a, ha', rfl⟩ := h x (by simp)
  unfold Hs.alike at ha ⊢
  rw [List.all_eq_true] at ha ⊢
  intro y hy
  obtain ⟨b, hb, rfl⟩ := h y hy
  have h1 := ha (to' m (b : Int)) (List.mem_map_of_mem hy)
  have h2 : to' m (b : Int) = to' m (a : Int) := by simpa using h1
  unfold to' at h2
  rw [Int.toNat_natCast, Int.toNat_natCast] at h2
  have := hi b hb a ha' (by omega)
  simp [this]
theorem links_cells {f : Nat → Int} {l : Nat} {x : Int} : ∀ {P : List Tl}, (∀ t ∈ P, t.fr = false) → (Links f l P x ↔ f l = x) ∧ lastL l P = l
 | [], _ => ⟨Iff.rfl, rfl⟩
 | t :: r, h => by
  have := links_cells (f := f) (l := l) (x := x) (P := r) fun u hu => h u (by simp [hu])
  unfold Links lastL
  rw [h t (by simp)]
  simpa using this
theorem sep_cells : ∀ {P : List Tl}, (∀ t ∈ P, t.fr = false) → Sep P
 | [], _ => trivial
 | [_], _ => trivial
 | t :: u :: r, h => ⟨by rw [h t (by simp)]; simp, sep_cells fun v hv => h v (by simp [hv])⟩
set_option maxHeartbeats 1000000 in
theorem moved_all {S : Hs} {B : Nat} {L : List Tl} {ch : Nat → List Nat} (h : Wf S B L ch) : ∃ M m S' L' ch', S.moved = some (M, S') ∧ Moved S S' M m ∧ Wf S' B L' ch' ∧ (∃ P q, L' = P ++ q ∧ (∀ t ∈ P, t.fr = false) ∧ (q = [] ∨ ∃ t, q = [t] ∧ t.fr = true)) ∧ m = place (ow S.words) S.sizes 17 S.taken ∧ ch' = ccOf S m S.taken (fun _ => []) ∧ (∀ b ∈ S.taken, ow S'.words (m b + 1) = ow S.words (b + 1)) ∧
    L' = (S.taken.map fun b => (⟨m b, wz S.sizes (ow S.words b), false⟩ : Tl)) ++ (if 17 + widths (ow S.words) S.sizes S.taken < S.words.length then [⟨17 + widths (ow S.words) S.sizes S.taken, S.words.length - (17 + widths (ow S.words) S.sizes S.taken), true⟩] else []) := by
  have hlo := h.lo
  have hhi := h.hi
  have hw := h.widths_
  have hup := h.up
  have hfs : 17 + widths (ow S.words) S.sizes S.taken = S.words.length ∨ 17 + widths (ow S.words) S.sizes S.taken + 3 ≤ S.words.length := by
   rw [h.taken]
   exact free_sum h.parts.lay fun t ht hf => ((h.parts.ok t ht).cell hf).2
  obtain ⟨W0, M, v1, v2, v3, v4, v5, v6⟩ := moves_spec h S.taken (List.replicate S.words.length 0) 17 [] hup (fun a ha => ha) List.Pairwise.nil (by simp; omega)
  rw [List.length_replicate] at v2
  have hin := fun b (hb : b ∈ S.taken) => place_in (f := ow S.words) (z := S.sizes) (s := 17) hb
  have hmup := fun a (ha : a ∈ S.taken) b (hb : b ∈ S.taken) => place_up (f := ow S.words) (z := S.sizes) (s := 17) hup ha hb
  have hlay := lay_cells (f := ow S.words) (z := S.sizes) (s := 17) hup fun b hb => by have := h.part hb; omega
  generalize hm : place (ow S.words) S.sizes 17 S.taken = m at *
  generalize hnx : 17 + widths (ow S.words) S.sizes S.taken = next at *
  have hget : ∀ b, getI b M = if b ∈ S.taken then some ((m b : Nat) : Int) else none := fun b => by rw [v4]; rfl
  have z0 : ∀ j, j < 17 ∨ next ≤ j → ow W0 j = 0 := fun j hj => by rw [v6 j hj, ow_rep]
  have I0 : Mv S m next [] S.taken W0 (fun _ => []) := ⟨v2, v5, by simp, fun c hc => z0 c (.inl (by omega)), by simp, by simp, fun j hj => z0 j (by omega)⟩
  have hm2 : ∀ a ∈ S.taken, ∀ b ∈ S.taken, a < b → m a + wz S.sizes (ow S.words a) ≤ m b := fun a ha b hb hab => hmup a ha b hb hab
  obtain ⟨W1, w1, I⟩ := rechain_spec h (M := M) (m := m) (next := next) (by omega) (fun b hb => by rw [hget, if_pos hb]) (fun b hb => hin b hb) hm2 S.taken [] W0 _ (by simpa using hup) (by simp) I0
  simp only [List.nil_append, List.map_nil] at w1 I
  generalize hcc : ccOf S m S.taken (fun _ => []) = cc at *
  have hinj : ∀ a ∈ S.taken, ∀ b ∈ S.taken, m a = m b → a = b := fun a ha b hb e => by
   have pa := h.part ha
   have pb := h.part hb
   rcases Nat.lt_trichotomy a b with h1 | h1 | h1
   · have := hm2 a ha b hb h1; omega
   · exact h1
   · have := hm2 b hb a ha h1; omega
  have hI := I.len
  -- the words at last
  obtain ⟨W2, hrun, l2, g2, g16, gn⟩ : ∃ W2, S.moved = some (M, { S with words := W2, taken := S.taken.map m }) ∧ W2.length = S.words.length ∧ (∀ j, j ≠ 16 → j < next → ow W2 j = ow W1 j) ∧ (if next < S.words.length then ow W2 16 = next ∧ ow W2 (next + 1) = ((S.words.length - next : Nat) : Int) ∧ ∀ j, next ≤ j → j ≠ next + 1 → ow W2 j = 0 else ow W2 16 = 0) ∧ True := by
   by_cases hlt : next < S.words.length
   · obtain ⟨Wa, ea, la, ga⟩ := wr_ow (W := W1) (i := 16) (next : Int) (by omega)
     obtain ⟨Wb, eb, lb, gb⟩ := wr_ow (W := Wa) (i := next + 1) ((W0.length : Int) - next) (by omega)
     refine ⟨Wb, ?_, by omega, fun j h1 h2 => by rw [gb, if_neg (by omega), ga, if_neg h1], ?_, trivial⟩
     · unfold Hs.moved
       rw [v1]
       simp only [Option.bind_eq_bind, Option.bind_some]
       rw [w1]
       simp only [Option.bind_some]
       rw [if_pos (by omega), ea]
       simp only [Option.bind_some]
       rw [eb]
       rfl
     · rw [if_pos hlt]
       have := hin
       refine ⟨by rw [gb, if_neg (by omega), ga, if_pos rfl], by rw [gb, if_pos rfl]; omega, fun j h1 h2 => ?_⟩
       rw [gb, if_neg h2, ga, if_neg (by omega)]
       exact I.rest j (.inr h1)
   · refine ⟨W1, ?_, hI, fun _ _ _ => rfl, ?_, trivial⟩
     · unfold Hs.moved
       rw [v1]
       simp only [Option.bind_eq_bind, Option.bind_some]
       rw [w1]
       simp only [Option.bind_some]
       rw [if_neg (by omega)]
     · rw [if_neg hlt]
       exact I.rest 16 (.inl rfl)
  have D : ∀ b ∈ S.taken, ow W2 (m b) = ow S.words b ∧ ow W2 (m b + 1) = ow S.words (b + 1) ∧ ow W2 (m b + 2) = ow S.words (b + 2) ∧ ow W2 (m b + 3) = ow W1 (m b + 3) ∧ fz (ow W2) S.sizes (m b) = nz (ow S.words) S.sizes m b := fun b hb => by
   obtain ⟨d1, d2, d3, d4⟩ := I.done b hb
   have pb := h.part hb
   have qb := hin b hb
   have e0 : ow W2 (m b) = ow W1 (m b) := g2 _ (by omega) (by omega)
   refine ⟨e0.trans d1, (g2 _ (by omega) (by omega)).trans d2, (g2 _ (by omega) (by omega)).trans d3, g2 _ (by omega) (by omega), ?_⟩
   rw [← d4]
   unfold fz
   rw [e0]
   exact cut_congr fun k hk => g2 _ (by omega) (by rw [d1] at hk; omega)
  have kaddr : ∀ a ∈ S.taken, ∀ x ∈ kz (ow S.words) S.sizes a, ∃ k ∈ S.taken, x = (k : Int) := fun a ha x hx => by
   obtain ⟨b, hb, e, _⟩ := h.cells.kids a ha x hx
   exact ⟨b, hb, e⟩
  have DK : ∀ b ∈ S.taken, kz (ow W2) S.sizes (m b) = (kz (ow S.words) S.sizes b).map (to' m) := fun b hb => by
   obtain ⟨d1, _, _, _, d5⟩ := D b hb
   unfold kz
   rw [d1, d5]
   unfold nz
   split <;> simp
  have mT : ∀ x, x ∈ S.taken.map m ↔ ∃ b ∈ S.taken, m b = x := fun x => List.mem_map
  have fzn : ∀ b ∈ S.taken, isEnd (ow S.words b) = false → nz (ow S.words) S.sizes m b = (fz (ow S.words) S.sizes b).map (to' m) := fun b _ he => by simp [nz, he]
  have fze : ∀ b ∈ S.taken, isEnd (ow S.words b) = true → nz (ow S.words) S.sizes m b = fz (ow S.words) S.sizes b := fun b _ he => by simp [nz, he]
  have kfz : ∀ b ∈ S.taken, isEnd (ow S.words b) = false → ∀ x ∈ fz (ow S.words) S.sizes b, ∃ k ∈ S.taken, x = (k : Int) := fun b hb he x hx => kaddr b hb x (by unfold kz; rw [he]; simpa using hx)
  let P : List Tl := S.taken.map fun b => (⟨m b, wz S.sizes (ow S.words b), false⟩ : Tl)
  let q : List Tl := if next < S.words.length then [⟨next, S.words.length - next, true⟩] else []
  have hPf : ∀ t ∈ P, t.fr = false := fun t ht => by
   obtain ⟨b, _, rfl⟩ := List.mem_map.1 ht
   rfl
  have hq : q = [] ∧ next = S.words.length ∨ q = [⟨next, S.words.length - next, true⟩] ∧ next + 3 ≤ S.words.length := by
   by_cases hlt : next < S.words.length
   · exact .inr ⟨if_pos hlt, by omega⟩
   · exact .inl ⟨if_neg hlt, by omega⟩
  have hPlay : Lay 17 P next := hlay
  have hads : adsOf (P ++ q) = S.taken.map m := by
   rw [adsOf_app]
   have e1 : adsOf q = [] := by rcases hq with ⟨e, _⟩ | ⟨e, _⟩ <;> rw [e] <;> rfl
   have e2 : adsOf P = S.taken.map m := by
    unfold adsOf
    rw [List.filter_eq_self.2 fun t ht => by rw [hPf t ht]; rfl]
    show (S.taken.map _).map _ = _
    rw [List.map_map]
    rfl
   rw [e1, e2, List.append_nil]
  refine ⟨M, m, { S with words := W2, taken := S.taken.map m }, P ++ q, cc, hrun, ⟨rfl, rfl, l2, rfl, v3, hget, fun b hb => (D b hb).1, fun b hb => (D b hb).2.2.1, fun b hb => (D b hb).2.2.2.2, hinj⟩, ?_, ⟨P, q, rfl, hPf, ?_⟩, rfl, hcc.symm, fun b hb => (D b hb).2.1, rfl⟩
  · exact
    { fr := h.fr
      lo := by show 20 ≤ W2.length; omega
      hi := by show W2.length ≤ 100000; omega
      bd := h.bd
      parts := by
       show Parts (ow W2) S.sizes (P ++ q) W2.length
       rw [l2]
       refine ⟨Lay.app.2 ⟨next, hPlay, ?_⟩, Links.app.2 ?_, Sep.app.2 ⟨sep_cells hPf, ?_, by rw [ltF_none hPf]; simp⟩, fun t ht => ?_⟩
       · rcases hq with ⟨e, e'⟩ | ⟨e, e'⟩
         · rw [e]; exact e'
         · rw [e]
           refine ⟨rfl, by show 3 ≤ S.words.length - next; omega, ?_⟩
           show next + (S.words.length - next) = S.words.length
           omega
       · rw [(links_cells hPf).1, (links_cells (f := ow W2) (l := 16) (x := 0) hPf).2]
         rcases hq with ⟨e, e'⟩ | ⟨e, e'⟩
         · rw [e]
           rw [if_neg (by omega)] at g16
           exact ⟨g16, g16⟩
         · rw [e]
           rw [if_pos (by omega)] at g16
           exact ⟨g16.1, g16.1, g16.2.2 (next + 2) (by omega) (by omega)⟩
       · rcases hq with ⟨e, _⟩ | ⟨e, _⟩ <;> rw [e] <;> trivial
       · rcases List.mem_append.1 ht with ht | ht
         · obtain ⟨b, hb, rfl⟩ := List.mem_map.1 ht
           unfold PartOk
           simp only [Bool.false_eq_true, if_false]
           rw [(D b hb).1]
           exact ⟨h.cells.tags b hb, rfl⟩
         · rcases hq with ⟨e, e'⟩ | ⟨e, e'⟩
           · rw [e] at ht; cases ht
           · rw [e] at ht
             have : t = ⟨next, S.words.length - next, true⟩ := by simpa using ht
             subst this
             rw [if_pos (by omega)] at g16
             unfold PartOk
             simp only [if_true]
             exact ⟨g16.2.2 next (Nat.le_refl _) (by omega), g16.2.1, fun j h1 h2 => g16.2.2 j (by omega) (by omega)⟩
      taken := hads.symm
      chains := by
       show Chains (ow W2) S.sizes (S.taken.map m) cc
       refine ⟨fun c hc => (I.path c hc).congr (g2 _ (by omega) (by omega)) fun x hx => ?_, I.nd, fun c hc x => ?_⟩
       · obtain ⟨b, hb, rfl, _⟩ := (I.mem c hc x).1 hx
         exact (D b hb).2.2.2.1
       · rw [I.mem c hc x, mT]
         constructor
         · rintro ⟨b, hb, rfl, e⟩
           exact ⟨⟨b, hb, rfl⟩, by rw [(D b hb).1, (D b hb).2.2.2.2]; exact e⟩
         · rintro ⟨⟨b, hb, rfl⟩, e⟩
           rw [(D b hb).1, (D b hb).2.2.2.2] at e
           exact ⟨b, hb, rfl, e⟩
      cells := by
       show Cells (ow W2) S.sizes S.order (S.taken.map m)
       refine ⟨fun x hx => ?_, fun x hx => ?_, fun x hx y hy => ?_, fun x hx => ?_, fun x hx y hy h1 h2 => ?_⟩
       · obtain ⟨b, hb, rfl⟩ := (mT x).1 hx
         rw [(D b hb).1]
         exact h.cells.tags b hb
       · obtain ⟨b, hb, rfl⟩ := (mT x).1 hx
         rw [(D b hb).1]
         intro he
         have hwe : wz S.sizes (ow S.words b) = 5 := by simp [wz, he]
         have e5 := (D b hb).2.2.2.2
         rw [fze b hb he] at e5
         have e4 : ow W2 (m b + 4) = ow S.words (b + 4) := by
          have q1 := cut_get (f := ow W2) (i := m b + 4) (n := wz S.sizes (ow W2 (m b)) - 4) (k := 0) (by rw [(D b hb).1, hwe]; omega)
          have q2 := cut_get (f := ow S.words) (i := b + 4) (n := wz S.sizes (ow S.words b) - 4) (k := 0) (by rw [hwe]; omega)
          unfold fz at e5
          rw [e5, q2] at q1
          simpa using q1.symm
         rw [e4]
         exact h.cells.ends b hb he
       · obtain ⟨b, hb, rfl⟩ := (mT x).1 hx
         rw [DK b hb] at hy
         obtain ⟨y', hy', rfl⟩ := List.mem_map.1 hy
         obtain ⟨k, hk, rfl, hr⟩ := h.cells.kids b hb y' hy'
         refine ⟨m k, (mT _).2 ⟨k, hk, rfl⟩, by simp [to'], ?_⟩
         rw [(D b hb).1, (D k hk).1]
         exact hr
       · obtain ⟨b, hb, rfl⟩ := (mT x).1 hx
         rw [(D b hb).1, (D b hb).2.2.2.2]
         intro he
         rw [fzn b hb he]
         cases ha : Hs.alike ((fz (ow S.words) S.sizes b).map (to' m)) with
         | false => rfl
         | true =>
          have := alike_map hinj (kfz b hb he) ha
          rw [h.cells.flat b hb he] at this
          cases this
       · obtain ⟨a, ha, rfl⟩ := (mT x).1 hx
         obtain ⟨b, hb, rfl⟩ := (mT y).1 hy
         rw [(D a ha).1, (D b hb).1] at h1
         rw [(D a ha).2.2.2.2, (D b hb).2.2.2.2] at h2
         have : a = b := by
          refine h.cells.one a ha b hb h1 ?_
          cases he : isEnd (ow S.words a) with
          | true =>
           rw [fze a ha he, fze b hb (by rw [← h1]; exact he)] at h2
           exact h2
          | false =>
           have he' : isEnd (ow S.words b) = false := by rw [← h1]; exact he
           rw [fzn a ha he, fzn b hb he'] at h2
           exact map_inj hinj (kfz a ha he) (kfz b hb he') h2
         rw [this]
      uses := by
       intro x hx
       obtain ⟨b, hb, rfl⟩ := (mT x).1 hx
       show ow W2 (m b + 1) = cnt (ow W2) S.sizes (m b) (S.taken.map m)
       rw [(D b hb).2.1, h.uses b hb]
       have key : ∀ T : List Nat, (∀ c ∈ T, c ∈ S.taken) → cnt (ow W2) S.sizes (m b) (T.map m) = cnt (ow S.words) S.sizes b T := by
        intro T
        induction T with
        | nil => intro _; rfl
        | cons c T ih =>
         intro hT
         have hc := hT c (by simp)
         show List.count _ (kz (ow W2) S.sizes (m c)) + cnt _ _ _ (T.map m) = _
         rw [DK c hc, count_map hinj hb (kaddr c hc), ih fun d hd => hT d (by simp [hd])]
         rfl
       rw [key S.taken fun c hc => hc]
      holds := fun x hx => by
       obtain ⟨b, hb, rfl⟩ := (mT x).1 hx
       show 0 ≤ ow W2 (m b + 2) ∧ ow W2 (m b + 2) ≤ B
       rw [(D b hb).2.2.1]
       exact h.holds b hb }
  · rcases hq with ⟨e, _⟩ | ⟨e, _⟩
    · exact .inl e
    · exact .inr ⟨_, e, rfl⟩
theorem moved_wf {S : Hs} {B : Nat} {L : List Tl} {ch : Nat → List Nat} (h : Wf S B L ch) : ∃ M m S' L' ch', S.moved = some (M, S') ∧ Moved S S' M m ∧ Wf S' B L' ch' ∧ ∃ P q, L' = P ++ q ∧ (∀ t ∈ P, t.fr = false) ∧ (q = [] ∨ ∃ t, q = [t] ∧ t.fr = true) := by
 obtain ⟨M, m, S', L', ch', h1, h2, h3, h4, _⟩ := moved_all h
 exact ⟨M, m, S', L', ch', h1, h2, h3, h4⟩
end Hp
end Go.Proofs.YtdokmmhjmclmnaaGreat
namespace Go.Proofs.YtdokmmhjmclmnaaGreat
namespace Hp
theorem isEnd_of {fault : Int} (h0 : 0 ≤ fault) (h4 : fault ≤ 4) : isEnd (20 + fault) = true := by
 simp [isEnd, within]
 omega
theorem new_end {S : Hs} {fault n : Int} (h0 : 0 ≤ fault) (h4 : fault ≤ 4) (hn : fault > 0 → n = 0) (h1 : -9999 ≤ n) (h2 : n ≤ 9999) : New S (20 + fault) [n] := by
 have he := isEnd_of h0 h4
 refine ⟨by simp [okTag, he], by simp [wz, he], fun _ x hx => ?_, fun h => ?_, fun h => ?_⟩
 · have : x = n := by simpa using hx
   subst this
   exact ⟨h1, h2, fun h => hn (by omega)⟩
 · rw [he] at h; cases h
 · rw [he] at h; cases h
structure Grown (S S' : Hs) : Prop where
 sizes : S'.sizes = S.sizes
 order : S'.order = S.order
 len : S'.words.length = S.words.length
theorem Grown.refl (S : Hs) : Grown S S := ⟨rfl, rfl, rfl⟩
theorem Grown.trans {A B C : Hs} (h : Grown A B) (k : Grown B C) : Grown A C := ⟨k.sizes.trans h.sizes, k.order.trans h.order, k.len.trans h.len⟩
def Good (S : Hs) (B : Nat) : Prop := ∃ L ch, Wf S B L ch
theorem Wf.more {S : Hs} {B B' : Nat} {L : List Tl} {ch : Nat → List Nat} (h : Wf S B L ch) (hB : B ≤ B') (hb : B' ≤ 100000) : Wf S B' L ch :=
 { h with bd := hb, holds := fun a ha => by have := h.holds a ha; omega }
theorem add_good {S : Hs} {B : Nat} (h : Good S B) {t : Int} {fs : List Int} (hn : New S t fs) : ∃ a S', S.add t fs = some (a, S') ∧ Good S' B ∧ Grown S S' := by
 obtain ⟨L, ch, h⟩ := h
 rcases add_wf h hn with ⟨a, _, _, _, e⟩ | ⟨_, ⟨_, e⟩ | ⟨P, u, Q, S', _, _, _, _, e, hp, hw⟩⟩
 · exact ⟨a, S, e, ⟨L, ch, h⟩, .refl _⟩
 · exact ⟨0, S, e, ⟨L, ch, h⟩, .refl _⟩
 · exact ⟨u.a, S', e, ⟨_, _, hw⟩, ⟨hp.sizes, hp.order, hp.len⟩⟩
theorem end_good {S : Hs} {B : Nat} (h : Good S B) {fault n : Int} (h0 : 0 ≤ fault) : ∃ r e S', S.end' fault n = some (r, e, S') ∧ Good S' B ∧ Grown S S' := by
 unfold Hs.end'
 split
 · exact ⟨0, 4, S, rfl, h, .refl _⟩
 · rename_i hc
   simp only [not_or, Bool.not_eq_false, within, Bool.and_eq_true, decide_eq_true_eq] at hc
   obtain ⟨h1, h2, h3⟩ := hc
   obtain ⟨a, S', e, hg, hr⟩ := add_good h (new_end (S := S) (fault := fault) (n := n) h0 (by omega) (fun hf => by omega) h3.1 h3.2)
   rw [e]
   simp only [Option.bind_eq_bind, Option.bind_some]
   unfold Hs.full
   simp only
   split
   · exact ⟨_, _, S', rfl, hg, hr⟩
   · exact ⟨_, _, S', rfl, hg, hr⟩
theorem laters_total {S : Hs} {B : Nat} {L : List Tl} {ch : Nat → List Nat} (h : Wf S B L ch) (c : Int) : ∀ (l : List Int), (∀ x ∈ l, S.has x = true) → ∃ b, S.laters c l = some b ∧ (b = true ↔ ∀ x ∈ l, ∃ k ∈ S.taken, x = (k : Int) ∧ rank S.order (c + 1) < rank S.order (ow S.words k))
 | [], _ => ⟨true, rfl, by simp⟩
 | x :: l, hl => by
  obtain ⟨k, rfl, hk⟩ := has_yes (hl x (by simp))
  obtain ⟨b, h1, h2⟩ := laters_total h c l fun y hy => hl y (by simp [hy])
  have ht := h.tag_le hk
  unfold Hs.laters
  rw [show adr (k : Int) = some k by simp [adr]]
  simp only [Option.bind_eq_bind, Option.bind_some, h.tag_ hk]
  rw [ck_in (by omega) (by omega)]
  simp only [Option.bind_some]
  by_cases hr : rank S.order (ow S.words k) > rank S.order (c + 1)
  · rw [if_pos hr, h1]
    refine ⟨b, rfl, h2.trans ⟨fun hh y hy => ?_, fun hh y hy => hh y (by simp [hy])⟩⟩
    rcases List.mem_cons.1 hy with rfl | hy
    · exact ⟨k, hk, rfl, hr⟩
    · exact hh y hy
  · rw [if_neg hr]
    refine ⟨false, rfl, ⟨(fun h => by cases h), fun hh => ?_⟩⟩
    obtain ⟨k', hk', e, hr'⟩ := hh (k : Int) (by simp)
    have : k = k' := by omega
    subst this
    exact absurd hr' hr
theorem checkNode_total {S : Hs} {B : Nat} {L : List Tl} {ch : Nat → List Nat} (h : Wf S B L ch) (c : Int) (l : List Int) : ∃ e, S.checkNode c l = some e ∧ (e = 0 → isNode S.sizes (c + 1) = true ∧ l.length = wz S.sizes (c + 1) - 4 ∧ ∀ x ∈ l, ∃ k ∈ S.taken, x = (k : Int) ∧ rank S.order (c + 1) < rank S.order (ow S.words k)) := by
 unfold Hs.checkNode
 cases hw : within 0 ((S.sizes.length : Int) - 1) c with
 | false => exact ⟨3, by simp, fun h => by cases h⟩
 | true =>
  simp only [within, Bool.and_eq_true, decide_eq_true_eq] at hw
  have hc : c.toNat < S.sizes.length := by omega
  simp only [Bool.true_eq_false, if_false]
  rw [rd_ow hc]
  simp only [Option.bind_eq_bind, Option.bind_some]
  by_cases h1 : (l.length : Int) ≠ ow S.sizes c.toNat
  · exact ⟨4, by rw [if_pos h1], fun h => by cases h⟩
  · rw [if_neg h1]
    cases hh : l.all S.has with
    | false => exact ⟨7, by simp, fun h => by cases h⟩
    | true =>
     simp only [Bool.true_eq_false, if_false]
     rw [List.all_eq_true] at hh
     obtain ⟨b, e1, e2⟩ := laters_total h c l hh
     rw [e1]
     simp only [Option.bind_some]
     cases b with
     | false => exact ⟨2, by simp, fun h => by cases h⟩
     | true =>
      refine ⟨0, by simp, fun _ => ⟨?_, ?_, e2.1 rfl⟩⟩
      · simp [isNode, within]
        omega
      · have hne : isEnd (c + 1) = false := by
          have := h.fr.few
          simp [isEnd, within]
          omega
        have e3 : S.sizes.getD (c + 1 - 1).toNat 0 = ow S.sizes c.toNat := by
         rw [show c + 1 - 1 = c by omega]
         rfl
        unfold wz
        rw [hne, e3]
        simp only [Bool.false_eq_true, if_false]
        omega
theorem new_node {S : Hs} {B : Nat} {L : List Tl} {ch : Nat → List Nat} (h : Wf S B L ch) {c : Int} {l : List Int} (h1 : isNode S.sizes (c + 1) = true) (h2 : l.length = wz S.sizes (c + 1) - 4) (h3 : ∀ x ∈ l, ∃ k ∈ S.taken, x = (k : Int) ∧ rank S.order (c + 1) < rank S.order (ow S.words k)) (h4 : Hs.alike l = false) : New S (c + 1) l := by
 have hne : isEnd (c + 1) = false := by
  have := h.fr.few
  simp only [isNode, within, Bool.and_eq_true, decide_eq_true_eq] at h1
  simp [isEnd, within]
  omega
 exact ⟨by simp [okTag, h1], h2, (fun he => by rw [hne] at he; cases he), fun _ => h3, fun _ => h4⟩
theorem make_good {S : Hs} {B : Nat} (h : Good S B) (c : Int) (l : List Int) : ∃ r e S', S.make c l = some (r, e, S') ∧ Good S' B ∧ Grown S S' := by
 obtain ⟨L, ch, hw⟩ := id h
 obtain ⟨e, h1, h2⟩ := checkNode_total hw c l
 unfold Hs.make
 rw [h1]
 simp only [Option.bind_eq_bind, Option.bind_some]
 by_cases he : e ≠ 0
 · rw [if_pos he]
   exact ⟨_, _, S, rfl, h, .refl _⟩
 · rw [if_neg he]
   obtain ⟨k1, k2, k3⟩ := h2 (by omega)
   have hwz := wz_ok hw.fr.toFr (t := c + 1) (by simp [okTag, k1])
   cases ha : Hs.alike l with
   | true =>
    simp only [if_true]
    cases l with
    | nil => simp at k2; omega
    | cons x l => exact ⟨x, 0, S, rfl, h, .refl _⟩
   | false =>
    simp only [Bool.false_eq_true, if_false]
    obtain ⟨a, S', e, hg, hr⟩ := add_good h (new_node hw k1 k2 k3 ha)
    rw [e]
    simp only [Option.bind_some]
    unfold Hs.full
    simp only
    split
    · exact ⟨_, _, S', rfl, hg, hr⟩
    · exact ⟨_, _, S', rfl, hg, hr⟩
theorem look_total {S : Hs} {B : Nat} {L : List Tl} {ch : Nat → List Nat} (h : Wf S B L ch) {t : Int} {fs : List Int} (hn : New S t fs) : ∃ a, S.look t fs = some a := by
 rcases look_spec h (ck_of h hn) (cz_lt _ _) with ⟨a, _, _, _, e⟩ | ⟨_, e⟩
 · exact ⟨a, e⟩
 · exact ⟨0, e⟩
theorem find_total {S : Hs} {B : Nat} (h : Good S B) (c : Int) (l : List Int) : ∃ r e, S.find c l = some (r, e) := by
 obtain ⟨L, ch, hw⟩ := h
 obtain ⟨e, h1, h2⟩ := checkNode_total hw c l
 unfold Hs.find
 rw [h1]
 simp only [Option.bind_eq_bind, Option.bind_some]
 by_cases he : e ≠ 0
 · rw [if_pos he]
   exact ⟨_, _, rfl⟩
 · rw [if_neg he]
   obtain ⟨k1, k2, k3⟩ := h2 (by omega)
   have hwz := wz_ok hw.fr.toFr (t := c + 1) (by simp [okTag, k1])
   cases ha : Hs.alike l with
   | true =>
    simp only [if_true]
    cases l with
    | nil => simp at k2; omega
    | cons x l => exact ⟨x, 0, rfl⟩
   | false =>
    simp only [Bool.false_eq_true, if_false]
    obtain ⟨a, e⟩ := look_total hw (new_node hw k1 k2 k3 ha)
    rw [e]
    simp only [Option.bind_some]
    split
    · exact ⟨_, _, rfl⟩
    · exact ⟨_, _, rfl⟩
theorem hold_good {S : Hs} {B : Nat} (h : Good S B) (hB : B < 100000) (a : Int) : ∃ e S', S.hold a = some (e, S') ∧ Good S' (B + 1) ∧ Grown S S' := by
 obtain ⟨L, ch, hw⟩ := h
 cases hh : S.has a with
 | false =>
  refine ⟨7, S, by simp [Hs.hold, hh], ⟨L, ch, hw.more (by omega) (by omega)⟩, .refl _⟩
 | true =>
  obtain ⟨k, rfl, hk⟩ := has_yes hh
  obtain ⟨W, e, hw', hl, _⟩ := hold_wf hw hB hk
  exact ⟨0, _, e, ⟨L, ch, hw'⟩, ⟨rfl, rfl, hl⟩⟩
theorem drop_good {S : Hs} {B : Nat} (h : Good S B) (a : Int) : ∃ e S', S.drop a = some (e, S') ∧ Good S' B ∧ Grown S S' := by
 obtain ⟨L, ch, hw⟩ := id h
 cases hh : S.has a with
 | false => exact ⟨7, S, by simp [Hs.drop, hh], h, .refl _⟩
 | true =>
  obtain ⟨k, rfl, hk⟩ := has_yes hh
  by_cases h0 : ow S.words (k + 2) = 0
  · exact ⟨9, S, drop_no hw hk h0, h, .refl _⟩
  · obtain ⟨W, e, hw', hl, _⟩ := drop_wf hw hk h0
    exact ⟨0, _, e, ⟨L, ch, hw'⟩, ⟨rfl, rfl, hl⟩⟩
theorem collect_good {S : Hs} {B : Nat} (h : Good S B) : ∃ n S', S.collect = some (n, S') ∧ Good S' B ∧ Grown S S' := by
 obtain ⟨L, ch, hw⟩ := h
 obtain ⟨T, hT⟩ := live_total hw
 obtain ⟨S', L', e, hc, hw'⟩ := collect_wf hw hT
 exact ⟨_, S', e, ⟨_, _, hw'⟩, ⟨hc.sizes, hc.order, hc.len⟩⟩
theorem moved_good {S : Hs} {B : Nat} (h : Good S B) : ∃ M S', S.moved = some (M, S') ∧ Good S' B ∧ Grown S S' := by
 obtain ⟨L, ch, hw⟩ := h
 obtain ⟨M, m, S', L', ch', e, hm, hw', _⟩ := moved_wf hw
 exact ⟨M, S', e, ⟨_, _, hw'⟩, ⟨hm.sizes, hm.order, hm.len⟩⟩
theorem do_good {s : Sc} {B : Nat} (h : Good s.S B) (hB : B < 100000) (x : Act') (hf : 0 ≤ x.fault) : ∃ s', s.do' x = some s' ∧ Good s'.S (B + 1) ∧ Grown s.S s'.S := by
 have up : ∀ {S : Hs}, Good S B → Good S (B + 1) := fun ⟨L, ch, h⟩ => ⟨L, ch, h.more (by omega) (by omega)⟩
 unfold Sc.do'
 split
 · obtain ⟨r, e, S', e1, hg, hr⟩ := end_good h (fault := x.fault) (n := x.n) hf
   rw [e1]
   exact ⟨_, rfl, up hg, hr⟩
 · split
   · dsimp only
     split
     · exact ⟨_, rfl, up h, .refl _⟩
     · split
       · obtain ⟨r, e, S', e1, hg, hr⟩ := make_good h x.a (x.list.map (nameOf s.ats))
         rw [e1]
         exact ⟨_, rfl, up hg, hr⟩
       · obtain ⟨r, e, e1⟩ := find_total h x.a (x.list.map (nameOf s.ats))
         rw [e1]
         exact ⟨_, rfl, up h, .refl _⟩
   · split
     · split
       · exact ⟨_, rfl, up h, .refl _⟩
       · split
         · obtain ⟨e, S', e1, hg, hr⟩ := hold_good h hB (nameOf s.ats x.a)
           rw [e1]
           exact ⟨_, rfl, hg, hr⟩
         · obtain ⟨e, S', e1, hg, hr⟩ := drop_good h (nameOf s.ats x.a)
           rw [e1]
           exact ⟨_, rfl, up hg, hr⟩
     · split
       · obtain ⟨n, S', e1, hg, hr⟩ := collect_good h
         rw [e1]
         exact ⟨_, rfl, up hg, hr⟩
       · split
         · obtain ⟨n, S', e1, hg, hr⟩ := collect_good h
           obtain ⟨M, S2, e2, hg2, hr2⟩ := moved_good hg
           rw [e1]
           simp only [Option.bind_eq_bind, Option.bind_some]
           show ∃ s', ((S'.moved).bind _) = some s' ∧ _
           rw [e2]
           exact ⟨_, rfl, up hg2, hr.trans hr2⟩
         · exact ⟨_, rfl, up h, .refl _⟩
theorem play_good : ∀ (l : List Act') (s : Sc) (B : Nat), Good s.S B → B + l.length ≤ 100000 → (∀ x ∈ l, 0 ≤ x.fault) → ∃ s', s.play l = some s' ∧ Good s'.S (B + l.length) ∧ Grown s.S s'.S
 | [], s, B, h, _, _ => ⟨s, rfl, h, .refl _⟩
 | x :: l, s, B, h, hB, hf => by
  simp only [List.length_cons] at hB
  obtain ⟨s1, e1, h1, g1⟩ := do_good h (by omega) x (hf x (by simp))
  obtain ⟨s2, e2, h2, g2⟩ := play_good l s1 (B + 1) h1 (by omega) fun y hy => hf y (by simp [hy])
  refine ⟨s2, ?_, ?_, g1.trans g2⟩
  · unfold Sc.play
    rw [e1]
    exact e2
  · rw [List.length_cons, show B + (l.length + 1) = B + 1 + l.length by omega]
    exact h2
theorem new_wf {z o : List Int} (hz : FrOk z o) {n : Nat} (h1 : 20 ≤ n) (h2 : n ≤ 100000) : ∃ S, Hp.new z o n = some S ∧ S.sizes = z ∧ S.order = o ∧ S.words.length = n ∧ Wf S 0 [⟨17, n - 17, true⟩] (fun _ => []) := by
 obtain ⟨W1, e1, l1, g1⟩ := wr_ow (W := List.replicate n (0 : Int)) (i := 16) 17 (by simp; omega)
 rw [List.length_replicate] at l1
 obtain ⟨W2, e2, l2, g2⟩ := wr_ow (W := W1) (i := 18) ((n : Int) - 17) (by omega)
 have G : ∀ j, ow W2 j = if j = 18 then (n : Int) - 17 else if j = 16 then 17 else 0 := fun j => by rw [g2, g1, ow_rep]
 refine ⟨⟨z, o, W2, []⟩, ?_, rfl, rfl, l2.trans l1, ?_⟩
 · unfold Hp.new
   rw [e1]
   simp only [Option.bind_eq_bind, Option.bind_some]
   rw [e2]
   rfl
 · exact
   { fr := hz
     lo := by show 20 ≤ W2.length; omega
     hi := by show W2.length ≤ 100000; omega
     bd := by omega
     parts := by
      show Parts (ow W2) z _ W2.length
      refine ⟨⟨rfl, by show 3 ≤ n - 17; omega, ?_⟩, ⟨?_, ?_⟩, trivial, fun t ht => ?_⟩
      · show 17 + (n - 17) = W2.length
        omega
      · rw [G]; rfl
      · show ow W2 (17 + 2) = 0
        rw [G]; rfl
      · have : t = ⟨17, n - 17, true⟩ := by simpa using ht
        subst this
        unfold PartOk
        simp only [if_true]
        refine ⟨by rw [G]; rfl, ?_, fun j h1 h2 => ?_⟩
        · show ow W2 18 = ((n - 17 : Nat) : Int)
          rw [G, if_pos rfl]
          omega
        · rw [G, if_neg (by omega), if_neg (by omega)]
     taken := rfl
     chains := ⟨fun c hc => by show ow W2 c = 0; rw [G, if_neg (by omega), if_neg (by omega)], by simp, by simp⟩
     cells := ⟨by simp, by simp, by simp, by simp, by simp⟩
     uses := fun a ha => by cases ha
     holds := fun a ha => by cases ha }
end Hp
end Go.Proofs.YtdokmmhjmclmnaaGreat
namespace Go.Proofs.YtdokmmhjmclmnaaGreat
open Go.RowKit Go.Maps Go.Sort Go.Shelf
theorem wpList_next_left {P : Program} (w : World) {ops : Array Oper} {rest : List Oper} {o : Oper} {a : Act} {Q : Exit → Act → World → Prop} (hg : o.guard = none) (it : Operand) (hop : o.op = Op.next it false)
    (hk : P.underlying 3 = some (.int .i64)) (he : P.underlying 4 = some .bool) (b r n : Nat) (T : List Nat) (left : Lit → Bool) (cnt : Nat) (hit : a.eval it = .pointer (some ⟨r, 0, none⟩))
    (h : w.ranges P 3 (plainElem (H := Unit) P 4) b r n (mapOf T) left cnt)
    (hDone : (∀ kl, left kl = false) → wpList P ops Q rest (a.put o.dst (.tuple #[.bool false])) w)
    (hMore : ∀ (x : Nat) (c : Value) (w' : World) (cnt' : Nat), x ∈ T → left (.int .i64 x) = true → w'.ranges P 3 (plainElem (H := Unit) P 4) b r n (mapOf T) (fun z => left z && !z.sameKey (.int .i64 x)) cnt' → cnt' < cnt →
     But [r] w w' → (Instr.entry (.pointer (some ⟨r, 0, none⟩))).run P w' = .ok (.tuple #[.int .i64 x, c]) w' → wpList P ops Q rest (a.put o.dst (.tuple #[.bool true, .int .i64 x, c])) w') :
    wpList P ops Q (o :: rest) a w := by
  refine wpList_next_ranges w hg it hop 3 (int_keyed hk) (plainElem (H := Unit) P 4) (Value.int .i64) Value.bool (fun key kl hkey => by obtain ⟨x, rfl, _⟩ := Maps.keyOf_int_inv hk hkey; exact ⟨x, rfl⟩)
   (fun v y hv => by
    unfold plainElem at hv
    rw [he] at hv
    cases v <;> simp at hv
    exact ⟨_, rfl⟩) b r n _ left cnt hit h (fun _ hl => hDone hl) ?_
  intro x c kl y w' cnt' hkey hl hv hat hrg hlt hgr _ hen
  obtain ⟨x', ex, rfl, _⟩ := Maps.keyOf_int_inv hk hkey
  cases ex
  have hy : y = (.lit (.bool c), []) := by
   unfold plainElem at hv
   rw [he] at hv
   simpa using hv.symm
  subst hy
  have hin : hasLit T (.int .i64 x) = true := by
   cases hh : hasLit T (.int .i64 x) with
   | true => rfl
   | false =>
    have := hat (.map [])
    rw [at_mapOf_false hh] at this
    cases this
  obtain ⟨m, hm, e⟩ := (hasLit_iff T _).1 hin
  cases e
  exact hMore m (.bool c) w' cnt' hm hl hrg hlt (but_grown hgr) hen
structure SeenInv (T D : List Nat) (left : Lit → Bool) : Prop where
 nd : D.Nodup
 sub : ∀ x ∈ D, x ∈ T
 all : ∀ x ∈ T, left (.int .i64 (x : Int)) = false → x ∈ D
 out : ∀ x ∈ D, left (.int .i64 (x : Int)) = false
theorem SeenInv.nil (T : List Nat) : SeenInv T [] (Maps.has (mapOf T)) where
 nd := List.Pairwise.nil
 sub := by simp
 all x hx h := by
  rw [has_mapOf, hasLit_int] at h
  have : T.contains x = true := by simpa using hx
  rw [this] at h
  cases h
 out := by simp
theorem SeenInv.step {T D : List Nat} {left : Lit → Bool} {x : Nat} (h : SeenInv T D left) (hx : x ∈ T) (hl : left (.int .i64 (x : Int)) = true) : SeenInv T (D ++ [x]) (fun z => left z && !z.sameKey (.int .i64 x)) := by
 have hn : x ∉ D := fun hm => by
  have := h.out x hm
  rw [hl] at this
  cases this
 refine ⟨List.nodup_append.2 ⟨h.nd, by simp, fun a ha b hb e => ?_⟩, fun y hy => ?_, fun y hy hh => ?_, fun y hy => ?_⟩
 · have : b = x := by simpa using hb
   subst this e
   exact hn ha
 · rcases List.mem_append.1 hy with hy | hy
   · exact h.sub y hy
   · have : y = x := by simpa using hy
     subst this
     exact hx
 · rcases left_false hh with h1 | rfl
   · simp [h.all y hy h1]
   · simp
 · rcases List.mem_append.1 hy with hy | hy
   · show (left (.int .i64 (y : Int)) && _) = false
     rw [h.out y hy]
     rfl
   · have : y = x := by simpa using hy
     subst this
     show (left (.int .i64 (y : Int)) && !(Lit.int .i64 (y : Int)).sameKey (.int .i64 y)) = false
     simp [Lit.sameKey]
theorem SeenInv.perm {T D : List Nat} {left : Lit → Bool} (h : SeenInv T D left) (hT : T.Nodup) (hl : ∀ kl, left kl = false) : D.Perm T := by
 rw [List.perm_ext_iff_of_nodup h.nd hT]
 exact fun x => ⟨h.sub x, fun hx => h.all x hx (hl _)⟩
theorem Hp.Wf.cnt_le' {S : Hp.Hs} {B : Nat} {L : List Hp.Tl} {ch : Nat → List Nat} (h : Hp.Wf S B L ch) (a : Nat) : Hp.cnt (Hp.ow S.words) S.sizes a S.taken ≤ 100000 := by
 have h1 := Hp.cnt_le (f := Hp.ow S.words) (z := S.sizes) a S.taken
 have h3 := h.widths_
 have h4 := h.hi
 omega
theorem cnt_sub {f : Nat → Int} {z : List Int} {a : Nat} : ∀ {D T : List Nat}, D.Nodup → (∀ x ∈ D, x ∈ T) → Hp.cnt f z a D ≤ Hp.cnt f z a T
 | [], _, _, _ => Nat.zero_le _
 | b :: D, T, hd, hs => by
  obtain ⟨d1, d2⟩ := List.nodup_cons.1 hd
  have hb := hs b (by simp)
  have h1 := cnt_sub (f := f) (z := z) (a := a) (D := D) (T := T.erase b) d2 fun x hx => (List.mem_erase_of_ne (by rintro rfl; exact d1 hx)).2 (hs x (by simp [hx]))
  have h2 := Hp.cnt_perm (f := f) (z := z) (a := a) (List.perm_cons_erase hb)
  rw [h2]
  show (Hp.kz f z b).count (a : Int) + Hp.cnt f z a D ≤ (Hp.kz f z b).count (a : Int) + Hp.cnt f z a (T.erase b)
  omega
def CollPost (w W : World) (T : List Nat) (e : Ending) (w' : World) : Prop := ∃ p c ss, e = .returned (.slice p ss.length c) ∧ ss.Perm (natInts T) ∧ SliceAt w' p c ss ∧ Ext W w'
theorem collectB_call {w : World} {g : Nat} {T : List Nat} (h : MapAt Tryz.prog w g T) (hT : ∀ x ∈ T, x < 1000000) :
    Calls Tryz.prog 129 #[.func (.func 171) #[] #[.pointer (some ⟨w.heap.size, 0, none⟩)]] (w.alloc (.cells #[.map (some g)] 102)) (CollPost w (w.alloc (.cells #[.map (some g)] 102)) T) := by
  have hbl := h.lt
  have hlen := sorted_len h.sorted hT
  have hown := h.owns
  have hseq : SeqGives Fence.wide 3 Tryz.prog 171 #[.pointer (some ⟨w.heap.size, 0, none⟩)] encZ (fun ss => ss.Perm (intKeys (mapOf T))) (Maps.size (mapOf T)) (w.alloc (.cells #[.map (some g)] 102)) :=
   AnyZI.keys_gives (ρ := Tryz.keysB_ren) { Tryz.keysB with } Fence.wide _ trivial rfl (by omega) w.heap.size g T.length (mapOf T) _ (by simp) (by simp) (hown.alloc _)
  have cS := AnyZI.collect_in (ρ := Tryz.sortedA_ren) { Tryz.sortedA with } Fence.wide 5 trivial trivial rfl (by omega) 171 #[.pointer (some ⟨w.heap.size, 0, none⟩)] trivial (enters_of Tryz.func171 (by kernel_rfl) rfl) _ _ (by rw [size_mapOf]; unfold maxLen; omega) (by rw [size_mapOf]; omega) _ hseq
  refine (callsIn_wide.1 cS).mono ?_
  rintro e w' ⟨v, ss, rfl, hS, hrow, hnil, hb⟩
  rw [intKeys_mapOf] at hS
  have hl : ss.length = T.length := by rw [hS.length_eq, natInts_length]
  have hbd : ∀ x ∈ ss, -9223372036854775808 ≤ x ∧ x ≤ 9223372036854775807 := by
   intro x hx
   obtain ⟨y, hy, rfl⟩ := List.mem_map.1 (hS.mem_iff.1 hx)
   have := hT y hy
   omega
  rcases hrow.2 with ⟨rfl, hz⟩ | ⟨gb, cap, cur, rfl, hbase, hgb, r1, r2, r3, r4⟩
  · have : ss = [] := List.eq_nil_of_length_eq_zero hz
    subst this
    exact ⟨none, 0, [], rfl, hS, ⟨by simp, by omega, by simp, fun h => by simp at h⟩, hb⟩
  · refine ⟨some ⟨gb, 0, none⟩, cap, ss, rfl, hS, ⟨by omega, by unfold maxLen at *; omega, hbd, fun h0 => ⟨gb, 0, rfl, (Array.getElem?_eq_some_iff.1 hgb).1, fun j x hj => ?_⟩⟩, hb⟩
    have hj2 : (ss.map encZ)[j]? = some (.int .i64 x) := by
     unfold Hp.rd at hj
     simp [hj, encZ]
    have := hrow.cells (g := gb) rfl j _ hj2
    rw [Addr.add_lit] at this
    simpa using this
def CountsAre (S : Hp.Hs) (D : List Nat) (part : List Int) (M : List (Nat × Int)) : Prop := ∀ y : Nat, (getI y M).getD 0 = ((Hp.cnt (Hp.ow S.words) S.sizes y D + part.count (y : Int) : Nat) : Int)
theorem CountsAre.put {S : Hp.Hs} {D : List Nat} {part : List Int} {M : List (Nat × Int)} {b : Nat} (h : CountsAre S D part M) (hu : KeysUp M) : CountsAre S D (part ++ [(b : Int)]) (putI b ((getI b M).getD 0 + 1) M) := fun y => by
 rw [getI_put hu, List.count_append]
 by_cases e : y = b
 · subst e
   rw [if_pos rfl, Option.getD_some, h y]
   simp
   omega
 · rw [if_neg e, h y]
   have : List.count (y : Int) [(b : Int)] = 0 := by
    rw [List.count_eq_zero]
    simp
    omega
   rw [this]
   rfl
theorem keys_len {M : List (Nat × Int)} {n : Nat} (h : KeysUp M) (hb : ∀ q ∈ M, q.1 < n) : M.length ≤ n := by
 have h1 : (M.map fun q => q.1).Pairwise (· < ·) := by
  rw [List.pairwise_map]
  exact h
 have := sorted_len (n := n) h1 (fun a ha => by
  obtain ⟨q, hq, rfl⟩ := List.mem_map.1 ha
  exact hb q hq)
 simpa using this
set_option maxRecDepth 100000 in
set_option maxHeartbeats 8000000 in
theorem areUsed_any {w0 w : World} {lb : Nat} {d : Hd} {S : Hp.Hs} {v : Value} {p : Option Addr} {k : Nat} {G : List Int} {B : Nat} {L : List Hp.Tl} {ch : Nat → List Nat} (h : LdAt w0 w lb d S v p k G) (hw : Hp.Wf S B L ch) :
    Calls Tryz.prog 64 #[.pointer (some ⟨lb, 0, none⟩)] w fun e w' => e = .returned (.bool true) ∧ Ext w w' := by
  have H := Lib.hid h
  have HW := Lib.hid hw
  have hhi := hw.hi
  have z1 := h.toHAt.own_lt
  have zl := h.lt1
  clear h hw
  have hmm := @run_makeMap Tryz.prog
  go_enter Tryz.func64, Tryz.ntmps64
  go_upto_region 2 with (fail)
  have E0 : Ext w (((w.alloc (.cells #[.pointer (some ⟨lb, 0, none⟩)] 107)).alloc (.map #[] 0)).alloc (.cells #[.map (some (w.heap.size + 1))] 119)) := exx
  have x1 : (((w.alloc (.cells #[.pointer (some ⟨lb, 0, none⟩)] 107)).alloc (.map #[] 0)).alloc (.cells #[.map (some (w.heap.size + 1))] 119)).cell? ⟨w.heap.size, 0, none⟩ = some (.pointer (some ⟨lb, 0, none⟩)) := by go_simp
  have x3 : (((w.alloc (.cells #[.pointer (some ⟨lb, 0, none⟩)] 107)).alloc (.map #[] 0)).alloc (.cells #[.map (some (w.heap.size + 1))] 119)).cell? ⟨w.heap.size + 1 + 1, 0, none⟩ = some (.map (some (w.heap.size + 1))) := by go_simp
  have sz : (((w.alloc (.cells #[.pointer (some ⟨lb, 0, none⟩)] 107)).alloc (.map #[] 0)).alloc (.cells #[.map (some (w.heap.size + 1))] 119)).heap.size = w.heap.size + 3 := by simp
  have MI0 : MapIAt Tryz.prog (((w.alloc (.cells #[.pointer (some ⟨lb, 0, none⟩)] 107)).alloc (.map #[] 0)).alloc (.cells #[.map (some (w.heap.size + 1))] 119)) (w.heap.size + 1) [] := by
   have := (MapIAt.made (P := Tryz.prog) (w.alloc (.cells #[.pointer (some ⟨lb, 0, none⟩)] 107))).ext (Ext.alloc (Ext.refl _) (.cells #[.map (some (w.heap.size + 1))] 119))
   simpa using this
  generalize ((w.alloc (.cells #[.pointer (some ⟨lb, 0, none⟩)] 107)).alloc (.map #[] 0)).alloc (.cells #[.map (some (w.heap.size + 1))] 119) = wc at *
  have N0 := Lib.hid (H.out.ext E0)
  have h0 := N0.out.h0
  have c3 := N0.out.c3
  have ownd := N0.out.map.owns
  go_wp2_with (at_range; refine wpList_range_own _ rfl _ 102 rfl 3 4 (int_keyed Tryz.underlying3) Tryz.underlying102 _ d.gm _ _ rfl ownd ?_; intro w1 hrg0 hg0 hs0; go_frame)
  have E1 : Ext wc w1 := ⟨hg0.os, hg0.tape, hg0.output, hg0.size, fun k hk => hg0.block k hk (by simp)⟩
  have E01 := Lib.hid (E0.trans E1)
  have MI1 := Lib.hid (MI0.ext E1)
  have RG := Lib.hid hrg0
  have y1 := (E1.cell (b := w.heap.size) (by omega) 0).trans x1
  have y3 := (E1.cell (b := w.heap.size + 1 + 1) (by omega) 0).trans x3
  have Y := Lib.hid (And.intro y1 y3)
  have sz1 : wc.heap.size < w1.heap.size := by omega
  rw [sz] at sz1 RG ⊢
  clear hrg0 ownd c3 h0 hg0 hs0 E1 E0 MI0 x1 x3 y1 y3 N0 sz
  generalize hrr : w.heap.size + 3 = rr at RG sz1 ⊢
  go_loopg [4] (Maps.size (mapOf S.taken)) (fun g _ wr => ∃ (left : Lit → Bool) (cnt : Nat) (D : List Nat) (M : List (Nat × Int)), cnt ≤ g ∧ Hid (wr.ranges Tryz.prog 3 (plainElem (H := Unit) Tryz.prog 4) d.gm rr S.taken.length (mapOf S.taken) left cnt) ∧ Hid (MapIAt Tryz.prog wr (w.heap.size + 1) M) ∧ Hid (Ext w wr) ∧ Hid (wr.cell? ⟨w.heap.size, 0, none⟩ = some (.pointer (some ⟨lb, 0, none⟩)) ∧ wr.cell? ⟨w.heap.size + 1 + 1, 0, none⟩ = some (.map (some (w.heap.size + 1)))) ∧ Hid (CountsAre S D [] M) ∧ Hid (∀ q ∈ M, q.1 < S.words.length) ∧ Aside (SeenInv S.taken D left))
  case atStart => exact ⟨_, _, [], [], Nat.le_refl _, RG, MI1, E01, Y, Lib.hid (fun y => by simp [getI, Hp.cnt]), Lib.hid (by simp), SeenInv.nil _⟩
  case round =>
   obtain ⟨left, cnt, D, M, hg, RR, MM, EE, YY, CA, KB, SI⟩ := hrel
   clear RG MI1 E01 Y
   go_wp2_with (at_next; refine wpList_next_left _ rfl _ rfl Tryz.underlying3 Tryz.underlying4 d.gm rr _ S.taken left cnt rfl RR.out ?_ ?_)
   · intro hl
     have hperm := SI.out.perm (Hp.up_nodup HW.out.up) hl
     have hca : ∀ y : Nat, (getI y M).getD 0 = ((Hp.cnt (Hp.ow S.words) S.sizes y S.taken : Nat) : Int) := fun y => by
      rw [CA.out y, Hp.cnt_perm hperm]
      simp
     have N := Lib.hid (H.out.ext EE.out)
     have h0 := N.out.h0
     have c3 := N.out.c3
     obtain ⟨y1, y3⟩ := YY.out
     have KEYS := Lib.hid (fun W => keysB_call d.gm W)
     have hlt6 : ∀ x ∈ S.taken, x < 1000000 := fun x hx => by have := HW.out.part hx; omega
     have COLL := Lib.hid (collectB_call N.out.map hlt6)
     have HCA := Lib.hid hca
     clear hca hperm hlt6
     go_wp2_with (first
      | (go_at_call 130; refine (KEYS.out _).mono ?_; rintro e w5 ⟨rfl, rfl⟩)
      | (go_at_call 129; refine COLL.out.mono ?_; rintro e w6 ⟨p6, c6, ss, rfl, hP6, hS6, hE6⟩))
     have EX6 : Ext wr w6 := Ext.trans (exx) hE6
     have N6 := Lib.hid (N.out.ext EX6)
     have SAYS : SaysAll w6 131 #[] #[.pointer (some ⟨w.heap.size, 0, none⟩), .pointer (some ⟨w.heap.size + 1 + 1, 0, none⟩)] ss (fun _ => true) := fun j x hx _ W hW => by
      obtain ⟨a, ha, rfl⟩ := List.mem_map.1 (hP6.mem_iff.1 (List.mem_of_getElem? hx))
      have pa := HW.out.part ha
      have zz1 := cell_lt y1
      have zz3 := cell_lt y3
      have EXW := EX6.trans hW
      have hc := areUsed1_any (a := a) (N6.out.ext hW) ((EXW.cell zz1 0).trans y1) ((EXW.cell zz3 0).trans y3) (MM.out.ext EXW) (by omega)
      have hu := HW.out.uses a ha
      have hh := HW.out.holds a ha
      have e1 : Hp.usedB S.words M (a : Int) = true := by
       unfold Hp.usedB
       rw [Int.toNat_natCast, Hp.rd_ow (by omega), Hp.rd_ow (by omega)]
       simp only [Bool.and_eq_true, beq_iff_eq, decide_eq_true_eq]
       rw [HCA.out a, hu]
       exact ⟨rfl, hh.1⟩
      rw [e1] at hc
      simpa using hc
     have EV := Lib.hid (every_any (b := true) (enters_of Tryz.func131 (by kernel_rfl) rfl) hS6 SAYS (by simp))
     have EEX := Lib.hid (EE.out.trans EX6)
     clear SAYS hS6 hP6 EX6
     refine EV.out.mono ?_
     rintro e w7 ⟨rfl, hE7⟩
     go_wp2_with fail
     go_returns
     exact ⟨rfl, EEX.out.trans hE7⟩
   · intro x c w' cnt' hx hlx hrg' hlt hbut hen
     have hbx : But [rr] wr w' := hbut
     have E2 := Lib.hid (But.toExt EE.out hbut (by simp; omega))
     have N := Lib.hid (H.out.ext E2.out)
     have h0 := N.out.h0
     obtain ⟨y1, y3⟩ := YY.out
     have y1' := (hbut.cell (cell_lt y1) (by simp; omega) 0).trans y1
     have y3' := (hbut.cell (cell_lt y3) (by simp; omega) 0).trans y3
     have M2 := Lib.hid (MM.out.but hbut (by simp; omega))
     have Y2 := Lib.hid (And.intro y1' y3')
     have RN := Lib.hid hrg'
     have px := HW.out.part hx
     have S2 := SI.out.step hx hlx
     have S2H := Lib.hid S2
     obtain ⟨ks, hks⟩ : ∃ ks, Hp.kz (Hp.ow S.words) S.sizes x = ks := ⟨_, rfl⟩
     obtain ⟨t, ht⟩ : ∃ t, Hp.ow S.words x = t := ⟨_, rfl⟩
     have ktag := HW.out.tag_ hx
     rw [ht] at ktag
     have kkids := HW.out.kids_ hx
     rw [hks] at kkids
     have KIDS := Lib.hid (fun W (hW : Ext w W) => kids_any (H.out.ext hW).toHAt ktag kkids)
     have KAT := Lib.hid (fun W (hW : Ext w W) => kids_at (H.out.ext hW).toHAt ktag kkids)
     have kl := Hp.kz_len (f := Hp.ow S.words) (z := S.sizes) (a := x)
     rw [hks] at kl
     have kl12 : ks.length ≤ 12 := by omega
     have KN : ∀ j y, Hp.rd ks j = some y → ∃ b : Nat, y = b ∧ b ∈ S.taken := fun j y hy => by
      rw [← hks] at hy
      obtain ⟨b, hb, e, _⟩ := HW.out.cells.kids x hx y (List.mem_of_getElem? hy)
      exact ⟨b, e, hb⟩
     have KNH := Lib.hid KN
     have HKS := Lib.hid hks
     obtain ⟨pk, hpk⟩ : ∃ pk, kp d x t = pk := ⟨_, rfl⟩
     rw [hpk] at KIDS KAT
     clear hrg' hbut hx hlx S2 px ktag kkids hks ht kl KN y1 y3 YY EE RR MM SI hpk hmm
     have CB : Hid (∀ y, Hp.cnt (Hp.ow S.words) S.sizes y D ≤ 100000) := Lib.hid (fun y => by
      have h1 := cnt_sub (f := Hp.ow S.words) (z := S.sizes) (a := y) (D := D) (T := S.taken) (by
       have := S2H.out.nd
       exact (List.nodup_append.1 this).1) (fun q hq => S2H.out.sub q (by simp [hq]))
      have h2 := HW.out.cnt_le' y
      omega)
     go_wp2_with (go_at_call 80; refine (KIDS.out _ E2.out).mono ?_; rintro e w5 ⟨rfl, hE5⟩)
     have RN5 := Lib.hid (ranges_of RN.out (hE5.block _ (by have := RN.out.lt; have := N.out.map.lt; omega)) (hE5.block _ RN.out.lt))
     have M5 := Lib.hid (M2.out.ext hE5)
     have E5 := Lib.hid (E2.out.trans hE5)
     have Y5 := Lib.hid (And.intro ((hE5.cell (cell_lt Y2.out.1) 0).trans Y2.out.1) ((hE5.cell (cell_lt Y2.out.2) 0).trans Y2.out.2))
     go_loopg [27] ks.length (fun g i wx => ∃ (j : Nat) (M' : List (Nat × Int)), j ≤ ks.length ∧ ks.length - j ≤ g ∧ i = .int .i64 j ∧ Hid (wx.ranges Tryz.prog 3 (plainElem (H := Unit) Tryz.prog 4) d.gm rr S.taken.length (mapOf S.taken) (fun z => left z && !z.sameKey (.int .i64 x)) cnt') ∧ Hid (MapIAt Tryz.prog wx (w.heap.size + 1) M') ∧ Hid (Ext w wx) ∧ Hid (wx.cell? ⟨w.heap.size, 0, none⟩ = some (.pointer (some ⟨lb, 0, none⟩)) ∧ wx.cell? ⟨w.heap.size + 1 + 1, 0, none⟩ = some (.map (some (w.heap.size + 1)))) ∧ Hid (CountsAre S D (ks.take j) M') ∧ Hid (∀ q ∈ M', q.1 < S.words.length))
     case atStart => exact ⟨0, M, Nat.zero_le _, by omega, rfl, RN5, M5, E5, Y5, Lib.hid (by simpa using CA.out), KB⟩
     case round =>
      obtain ⟨j, M', hj, hg2, rfl, R6, M6, E6, Y6, C6, K6⟩ := hrel
      clear RN5 M5 E5 Y5 RN M2 E2 Y2 N h0 y1' y3' hE5
      obtain ⟨y1, y3⟩ := Y6.out
      by_cases hlt2 : j < ks.length
      · obtain ⟨y, hy⟩ := rd_get (l := ks) (j := j) hlt2
        obtain ⟨b, rfl, hb⟩ := KNH.out j y hy
        obtain ⟨kb, ko, hkp, hkb, hkc⟩ := (KAT.out _ E6.out).cells (by omega)
        have gk := hkc j _ hy
        have pb := HW.out.part hb
        have tk : decide ((j : Int) < (ks.length : Int)) = true := decide_eq_true (by omega)
        have tk2 : decide (j < ks.length) = true := decide_eq_true (by omega)
        have hlk := M6.out.look (t := 119) Tryz.underlying3 Tryz.underlying119 (Tryz.zeroValue3 wr) (k := b) (by omega)
        have hcv := C6.out b
        have hcb := CB.out b
        have hcl := List.count_le_length (a := (b : Int)) (l := ks.take j)
        have hcl2 : (ks.take j).length ≤ ks.length := List.length_take_le' _ _
        obtain ⟨cv, hcv2⟩ : ∃ cv, (getI b M').getD 0 = cv := ⟨_, rfl⟩
        rw [hcv2] at hlk hcv
        have hcv3 : 0 ≤ cv ∧ cv ≤ 200000 := by omega
        obtain ⟨cv1, cv2⟩ := hcv3
        have hml := keys_len M6.out.up K6.out
        obtain ⟨w7, hup, hm7, ht7⟩ := M6.out.put (t := 119) Tryz.underlying3 Tryz.underlying119 (by unfold maxLen; omega) (a := b) (x := cv + 1) (by omega) (by omega) (by omega)
        have B7 : But [w.heap.size + 1] wr w7 := (But.refl _ _).turned ht7 (.inl (by simp))
        have E7 := Lib.hid (But.toExt E6.out B7 (by simp))
        have own1 := H.out.toHAt.own_lt _ d.gm_own
        have R7 := Lib.hid (ranges_of R6.out (B7.block _ (by have := E6.out.le; omega) (by simp; omega)) (B7.block _ R6.out.lt (by simp; omega)))
        have Y7 := Lib.hid (And.intro ((B7.cell (cell_lt y1) (by simp) 0).trans y1) ((B7.cell (cell_lt y3) (by simp) 0).trans y3))
        have M7 := Lib.hid hm7
        have C7 : Hid (CountsAre S D (ks.take (j + 1)) (putI b (cv + 1) M')) := Lib.hid (by
         rw [take_snocI hy, ← hcv2]
         exact C6.out.put M6.out.up)
        have K7 : Hid (∀ q ∈ putI b (cv + 1) M', q.1 < S.words.length) := Lib.hid (fun q hq => by
         rcases keys_put hq with e | ⟨q', hq', e⟩
         · rw [e]; omega
         · rw [← e]; exact K6.out q' hq')
        clear hcv hcb hcl hcl2 hcv2 hml hm7 ht7 B7 own1 hkc hy hb pb
        subst hkp
        go_wp2_with fail
        go_roundg (ks.length - (j + 1))
        case measure => omega
        case rel => exact ⟨j + 1, _, by omega, Nat.le_refl _, by go_num, R7, M7, E7, Y7, C7, K7⟩
      · have : j = ks.length := by omega
        subst this
        have tk : decide ((ks.length : Int) < (ks.length : Int)) = false := decide_eq_false (by omega)
        have tk2 : decide (ks.length < ks.length) = false := decide_eq_false (by omega)
        have C8 : Hid (CountsAre S (D ++ [x]) [] M') := Lib.hid (fun y => by
         rw [C6.out y, List.take_length, Hp.cnt_app]
         show _ = ((Hp.cnt _ _ y D + (List.count (y : Int) (Hp.kz (Hp.ow S.words) S.sizes x) + 0) + 0 : Nat) : Int)
         rw [HKS.out]
         rfl)
        go_wp2_with fail
        go_roundg cnt'
        case measure => omega
        case rel => exact ⟨_, cnt', D ++ [x], M', Nat.le_refl _, R6, M6, E6, Y6, C8, K6, (show Aside _ from S2H.out)⟩
end Go.Proofs.YtdokmmhjmclmnaaGreat
namespace Go.Proofs.YtdokmmhjmclmnaaGreat
namespace Hp
def bef : Nat → List Tl → Nat → Nat
 | l, [], _ => l
 | l, _ :: _, 0 => l
 | _, t :: r, i + 1 => bef (t.a + 2) r i
theorem bef_zero (l : Nat) (F : List Tl) : bef l F 0 = l := by cases F <;> rfl
theorem bef_succ : ∀ {l : Nat} {F : List Tl} {i : Nat} {t : Tl}, F[i]? = some t → bef l F (i + 1) = t.a + 2
 | _, [], _, _, h => by simp at h
 | l, u :: r, 0, t, h => by
  have : u = t := by simpa using h
  subst this
  show bef (u.a + 2) r 0 = _
  exact bef_zero _ _
 | l, u :: r, i + 1, t, h => by
  show bef (u.a + 2) r (i + 1) = _
  exact bef_succ (by simpa using h)
def freeOf (L : List Tl) : List Tl := L.filter fun t => t.fr
theorem mem_freeOf {L : List Tl} {t : Tl} : t ∈ freeOf L ↔ t ∈ L ∧ t.fr = true := by simp [freeOf]
theorem links_free {f : Nat → Int} : ∀ {l : Nat} {L : List Tl}, Links f l L 0 → (∀ i t, (freeOf L)[i]? = some t → f (bef l (freeOf L) i) = (t.a : Int)) ∧ f (bef l (freeOf L) (freeOf L).length) = 0
 | l, [], h => ⟨by simp [freeOf], h⟩
 | l, t :: r, h => by
  unfold Links at h
  cases hf : t.fr with
  | false =>
   rw [hf] at h
   have e : freeOf (t :: r) = freeOf r := by simp [freeOf, hf]
   rw [e]
   exact links_free (by simpa using h)
  | true =>
   rw [hf] at h
   simp only [if_true] at h
   have e : freeOf (t :: r) = t :: freeOf r := by simp [freeOf, hf]
   obtain ⟨h1, h2⟩ := links_free h.2
   rw [e]
   refine ⟨fun i u hu => ?_, h2⟩
   cases i with
   | zero =>
    have : t = u := by simpa using hu
    subst this
    exact h.1
   | succ i => exact h1 i u (by simpa using hu)
theorem free_far : ∀ {s n : Nat} {L : List Tl}, Lay s L n → Sep L → (freeOf L).Pairwise fun t u => t.a + t.k < u.a
 | _, _, [], _, _ => List.Pairwise.nil
 | s, n, t :: r, h, hs => by
  obtain ⟨h1, h2, h3⟩ := h
  have ih := free_far h3 hs.tail
  cases hf : t.fr with
  | false =>
   have e : freeOf (t :: r) = freeOf r := by simp [freeOf, hf]
   rw [e]
   exact ih
  | true =>
   have e : freeOf (t :: r) = t :: freeOf r := by simp [freeOf, hf]
   rw [e]
   refine List.pairwise_cons.2 ⟨fun u hu => ?_, ih⟩
   obtain ⟨hu1, hu2⟩ := mem_freeOf.1 hu
   cases r with
   | nil => cases hu1
   | cons v r =>
    obtain ⟨q1, q2, q3⟩ := h3
    rcases List.mem_cons.1 hu1 with rfl | hu1
    · exact absurd ⟨hf, hu2⟩ hs.1
    · have := q3.mem hu1
      omega
structure Frees (f : Nat → Int) (n : Nat) (F : List Tl) : Prop where
 link : ∀ i t, F[i]? = some t → f (bef 16 F i) = (t.a : Int)
 last : f (bef 16 F F.length) = 0
 part : ∀ t ∈ F, 17 ≤ t.a ∧ 3 ≤ t.k ∧ t.a + t.k ≤ n ∧ f t.a = 0 ∧ f (t.a + 1) = t.k ∧ ∀ j, t.a + 3 ≤ j → j < t.a + t.k → f j = 0
 far : ∀ i t u, F[i]? = some t → F[i + 1]? = some u → t.a + t.k < u.a
theorem Parts.frees {f : Nat → Int} {z : List Int} {L : List Tl} {n : Nat} (h : Parts f z L n) : Frees f n (freeOf L) where
 link := (links_free h.links).1
 last := (links_free h.links).2
 part t ht := by
  obtain ⟨h1, h2⟩ := mem_freeOf.1 ht
  have := h.lay.mem h1
  have := (h.ok t h1).free h2
  exact ⟨by omega, by omega, by omega, this.1, this.2.1, this.2.2⟩
 far i t u h1 h2 := by
  have hp := free_far h.lay h.sep
  rw [List.pairwise_iff_getElem] at hp
  obtain ⟨l1, e1⟩ := List.getElem?_eq_some_iff.1 h1
  obtain ⟨l2, e2⟩ := List.getElem?_eq_some_iff.1 h2
  have := hp i (i + 1) l1 l2 (by omega)
  rw [e1, e2] at this
  exact this
end Hp
end Go.Proofs.YtdokmmhjmclmnaaGreat
namespace Go.Proofs.YtdokmmhjmclmnaaGreat
namespace Hp
def allCh (ch : Nat → List Nat) : Nat → List Nat
 | 0 => []
 | c + 1 => allCh ch c ++ ch c
theorem mem_allCh {ch : Nat → List Nat} {a : Nat} : ∀ {k : Nat}, a ∈ allCh ch k ↔ ∃ c, c < k ∧ a ∈ ch c
 | 0 => by simp [allCh]
 | k + 1 => by
  unfold allCh
  rw [List.mem_append, mem_allCh]
  constructor
  · rintro (⟨c, h1, h2⟩ | h)
    · exact ⟨c, by omega, h2⟩
    · exact ⟨k, by omega, h⟩
  · rintro ⟨c, h1, h2⟩
    by_cases e : c = k
    · subst e; exact .inr h2
    · exact .inl ⟨c, by omega, h2⟩
theorem allCh_nodup {f : Nat → Int} {z : List Int} {Lv : List Nat} {ch : Nat → List Nat} (h : Chains f z Lv ch) : ∀ {k : Nat}, k ≤ 16 → (allCh ch k).Nodup
 | 0, _ => List.Pairwise.nil
 | k + 1, hk => by
  unfold allCh
  refine List.nodup_append.2 ⟨allCh_nodup h (by omega), h.nodup k (by omega), fun a ha b hb e => ?_⟩
  subst e
  obtain ⟨c, h1, h2⟩ := mem_allCh.1 ha
  have e1 := ((h.mem c (by omega) a).1 h2).2
  have e2 := ((h.mem k (by omega) a).1 hb).2
  omega
theorem allCh_sub {f : Nat → Int} {z : List Int} {Lv : List Nat} {ch : Nat → List Nat} (h : Chains f z Lv ch) {k : Nat} (hk : k ≤ 16) : ∀ a ∈ allCh ch k, a ∈ Lv := fun a ha => by
 obtain ⟨c, h1, h2⟩ := mem_allCh.1 ha
 exact ((h.mem c (by omega) a).1 h2).1
theorem allCh_all {f : Nat → Int} {z : List Int} {Lv : List Nat} {ch : Nat → List Nat} (h : Chains f z Lv ch) (hn : Lv.Nodup) : (allCh ch 16).length = Lv.length := by
 have h1 := nodup_len (allCh_nodup h (Nat.le_refl 16)) (allCh_sub h (Nat.le_refl 16))
 have h2 := nodup_len hn (m := allCh ch 16) fun a ha => mem_allCh.2 ⟨_, cz_lt _ _, (h.mem _ (cz_lt _ _) a).2 ⟨ha, rfl⟩⟩
 omega
def PathV (f : Nat → Int) : Int → List Nat → Prop
 | x, [] => x = 0
 | x, a :: r => x = (a : Int) ∧ a ≠ 0 ∧ PathV f (f (a + 3)) r
theorem Path.v {f : Nat → Int} : ∀ {l : Nat} {r : List Nat}, Path f l r → PathV f (f l) r
 | _, [], h => h
 | _, _ :: _, h => ⟨h.1, h.2.1, Path.v h.2.2⟩
end Hp
end Go.Proofs.YtdokmmhjmclmnaaGreat
