/-
  Part 19 of a proof: PL12 PL13 HFn51 HFn52 PL14 PL15 PL16 PL17 PL21 PL18 PL19.
-/
import Derived.DeepKeys4
import Derived.Maps.Own
import Derived.Test.YtdokmmhjmclmnaaGreatMP06
import Derived.Test.YtdokmmhjmclmnaaGreatMP09
import Derived.Test.YtdokmmhjmclmnaaGreatMP10
import Derived.Test.YtdokmmhjmclmnaaGreatMP15
import Derived.Test.YtdokmmhjmclmnaaGreatMP18
set_option linter.unusedSimpArgs false
set_option linter.unusedVariables false
set_option linter.unusedSectionVars false
set_option linter.unnecessarySimpa false
namespace Go.Proofs.YtdokmmhjmclmnaaGreat
namespace Hp
theorem lay_cells {f : Nat → Int} {z : List Int} : ∀ {T : List Nat} {s : Nat}, T.Pairwise (· < ·) → (∀ b ∈ T, 3 ≤ wz z (f b)) → Lay s (T.map fun b => (⟨place f z s T b, wz z (f b), false⟩ : Tl)) (s + widths f z T)
 | [], s, _, _ => by simp [Lay, widths]
 | a :: r, s, hp, h => by
  obtain ⟨p1, p2⟩ := List.pairwise_cons.1 hp; refine ⟨by simp [place], h a (by simp), ?_⟩; have ih := lay_cells (f := f) (z := z) (s := s + wz z (f a)) p2 fun b hb => h b (by simp [hb])
  have e : (r.map fun b => (⟨place f z s (a :: r) b, wz z (f b), false⟩ : Tl)) = r.map fun b => (⟨place f z (s + wz z (f a)) r b, wz z (f b), false⟩ : Tl) := by
   apply List.map_congr_left; intro b hb; have : b ≠ a := by have := p1 b hb; omega
   simp [place, this]
  show Lay (s + wz z (f a)) (List.map _ r) _; rw [e, show s + widths f z (a :: r) = s + wz z (f a) + widths f z r by simp [widths, Nat.add_assoc]]; exact ih
theorem free_sum {f : Nat → Int} {z : List Int} : ∀ {s n : Nat} {L : List Tl}, Lay s L n → (∀ t ∈ L, t.fr = false → t.k = wz z (f t.a)) → s + widths f z (adsOf L) = n ∨ s + widths f z (adsOf L) + 3 ≤ n
 | s, n, [], h, _ => .inl (by have : s = n := h; simpa [adsOf, widths] using this)
 | s, n, t :: r, h, hk => by
  obtain ⟨h1, h2, h3⟩ := h; have ih := free_sum h3 fun u hu => hk u (by simp [hu])
  have e : adsOf (t :: r) = (if t.fr then [] else [t.a]) ++ adsOf r := by
   cases hf : t.fr <;> simp [adsOf, hf]
  rw [e, widths_app]
  cases hf : t.fr
  · have := hk t (by simp) hf; simp only [Bool.false_eq_true, if_false, widths]; omega
  · simp only [if_true, widths]; omega
theorem ow_rep (n j : Nat) : ow (List.replicate n (0 : Int)) j = 0 := by
 unfold ow
 rw [List.getD_eq_getElem?_getD, List.getElem?_replicate]
 split <;> rfl
structure Moved (S S' : Hs) (M : List (Nat × Int)) (m : Nat → Nat) : Prop where
 sizes : S'.sizes = S.sizes
 order : S'.order = S.order
 len : S'.words.length = S.words.length
 taken : S'.taken = S.taken.map m
 up : KeysUp M
 get : ∀ b, getI b M = if b ∈ S.taken then some ((m b : Nat) : Int) else none
 tag : ∀ b ∈ S.taken, ow S'.words (m b) = ow S.words b
 hold : ∀ b ∈ S.taken, ow S'.words (m b + 2) = ow S.words (b + 2)
 fs : ∀ b ∈ S.taken, fz (ow S'.words) S.sizes (m b) = nz (ow S.words) S.sizes m b
 inj : ∀ a ∈ S.taken, ∀ b ∈ S.taken, m a = m b → a = b
theorem map_inj {m : Nat → Nat} {T : List Nat} (hi : ∀ a ∈ T, ∀ b ∈ T, m a = m b → a = b) : ∀ {l l' : List Int}, (∀ x ∈ l, ∃ k ∈ T, x = (k : Int)) → (∀ x ∈ l', ∃ k ∈ T, x = (k : Int)) → l.map (to' m) = l'.map (to' m) → l = l'
 | [], [], _, _, _ => rfl
 | [], _ :: _, _, _, h => by simp at h
 | _ :: _, [], _, _, h => by simp at h
 | x :: l, y :: l', h1, h2, h => by
  simp only [List.map_cons, List.cons.injEq] at h; obtain ⟨a, ha, rfl⟩ := h1 x (by simp); obtain ⟨b, hb, rfl⟩ := h2 y (by simp); have e : m a = m b := by
   have := h.1; unfold to' at this; rw [Int.toNat_natCast, Int.toNat_natCast] at this; omega
  rw [hi a ha b hb e, map_inj hi (fun z hz => h1 z (by simp [hz])) (fun z hz => h2 z (by simp [hz])) h.2]
theorem count_map {m : Nat → Nat} {T : List Nat} (hi : ∀ a ∈ T, ∀ b ∈ T, m a = m b → a = b) {b : Nat} (hb : b ∈ T) : ∀ {l : List Int}, (∀ x ∈ l, ∃ k ∈ T, x = (k : Int)) → (l.map (to' m)).count ((m b : Nat) : Int) = l.count (b : Int)
 | [], _ => rfl
 | x :: l, h => by
  obtain ⟨a, ha, rfl⟩ := h x (by simp); rw [List.map_cons, List.count_cons, List.count_cons, count_map hi hb fun z hz => h z (by simp [hz])]; have : (to' m (a : Int) == ((m b : Nat) : Int)) = ((a : Int) == (b : Int)) := by
   unfold to'; rw [Int.toNat_natCast, Bool.eq_iff_iff]; simp only [beq_iff_eq]; constructor
   · intro e; rw [hi a ha b hb (by omega)]
   · intro e; rw [show a = b by omega]
  rw [this]
theorem alike_map {m : Nat → Nat} {T : List Nat} (hi : ∀ a ∈ T, ∀ b ∈ T, m a = m b → a = b) {l : List Int} (h : ∀ x ∈ l, ∃ k ∈ T, x = (k : Int)) (ha : Hs.alike (l.map (to' m)) = true) : Hs.alike l = true := by
 cases l with
 | nil => rfl
 | cons x r =>
  obtain ⟨a, ha', rfl⟩ := h x (by simp); unfold Hs.alike at ha ⊢; rw [List.all_eq_true] at ha ⊢; intro y hy; obtain ⟨b, hb, rfl⟩ := h y hy; have h1 := ha (to' m (b : Int)) (List.mem_map_of_mem hy); have h2 : to' m (b : Int) = to' m (a : Int) := by simpa using h1
  unfold to' at h2; rw [Int.toNat_natCast, Int.toNat_natCast] at h2; have := hi b hb a ha' (by omega); simp [this]
theorem links_cells {f : Nat → Int} {l : Nat} {x : Int} : ∀ {P : List Tl}, (∀ t ∈ P, t.fr = false) → (Links f l P x ↔ f l = x) ∧ lastL l P = l
 | [], _ => ⟨Iff.rfl, rfl⟩
 | t :: r, h => by
  have := links_cells (f := f) (l := l) (x := x) (P := r) fun u hu => h u (by simp [hu])
  unfold Links lastL; rw [h t (by simp)]
  simpa using this
theorem sep_cells : ∀ {P : List Tl}, (∀ t ∈ P, t.fr = false) → Sep P
 | [], _ => trivial
 | [_], _ => trivial
 | t :: u :: r, h => ⟨by rw [h t (by simp)]; simp, sep_cells fun v hv => h v (by simp [hv])⟩
set_option maxHeartbeats 1000000 in
theorem moved_all {S : Hs} {B : Nat} {L : List Tl} {ch : Nat → List Nat} (h : Wf S B L ch) : ∃ M m S' L' ch', S.moved = some (M, S') ∧ Moved S S' M m ∧ Wf S' B L' ch' ∧ (∃ P q, L' = P ++ q ∧ (∀ t ∈ P, t.fr = false) ∧ (q = [] ∨ ∃ t, q = [t] ∧ t.fr = true)) ∧ m = place (ow S.words) S.sizes 17 S.taken ∧ ch' = ccOf S m S.taken (fun _ => []) ∧ (∀ b ∈ S.taken, ow S'.words (m b + 1) = ow S.words (b + 1)) ∧
    L' = (S.taken.map fun b => (⟨m b, wz S.sizes (ow S.words b), false⟩ : Tl)) ++ (if 17 + widths (ow S.words) S.sizes S.taken < S.words.length then [⟨17 + widths (ow S.words) S.sizes S.taken, S.words.length - (17 + widths (ow S.words) S.sizes S.taken), true⟩] else []) := by
  have hlo := h.lo; have hhi := h.hi; have hw := h.widths_; have hup := h.up; have hfs : 17 + widths (ow S.words) S.sizes S.taken = S.words.length ∨ 17 + widths (ow S.words) S.sizes S.taken + 3 ≤ S.words.length := by
   rw [h.taken]; exact free_sum h.parts.lay fun t ht hf => ((h.parts.ok t ht).cell hf).2
  obtain ⟨W0, M, v1, v2, v3, v4, v5, v6⟩ := moves_spec h S.taken (List.replicate S.words.length 0) 17 [] hup (fun a ha => ha) List.Pairwise.nil (by simp; omega); rw [List.length_replicate] at v2; have hin := fun b (hb : b ∈ S.taken) => place_in (f := ow S.words) (z := S.sizes) (s := 17) hb
  have hmup := fun a (ha : a ∈ S.taken) b (hb : b ∈ S.taken) => place_up (f := ow S.words) (z := S.sizes) (s := 17) hup ha hb
  have hlay := lay_cells (f := ow S.words) (z := S.sizes) (s := 17) hup fun b hb => by have := h.part hb; omega
  generalize hm : place (ow S.words) S.sizes 17 S.taken = m at *; generalize hnx : 17 + widths (ow S.words) S.sizes S.taken = next at *; have hget : ∀ b, getI b M = if b ∈ S.taken then some ((m b : Nat) : Int) else none := fun b => by rw [v4]; rfl
  have z0 : ∀ j, j < 17 ∨ next ≤ j → ow W0 j = 0 := fun j hj => by rw [v6 j hj, ow_rep]
  have I0 : Mv S m next [] S.taken W0 (fun _ => []) := ⟨v2, v5, by simp, fun c hc => z0 c (.inl (by omega)), by simp, by simp, fun j hj => z0 j (by omega)⟩
  have hm2 : ∀ a ∈ S.taken, ∀ b ∈ S.taken, a < b → m a + wz S.sizes (ow S.words a) ≤ m b := fun a ha b hb hab => hmup a ha b hb hab
  obtain ⟨W1, w1, I⟩ := rechain_spec h (M := M) (m := m) (next := next) (by omega) (fun b hb => by rw [hget, if_pos hb]) (fun b hb => hin b hb) hm2 S.taken [] W0 _ (by simpa using hup) (by simp) I0; simp only [List.nil_append, List.map_nil] at w1 I; generalize hcc : ccOf S m S.taken (fun _ => []) = cc at *; have hinj : ∀ a ∈ S.taken, ∀ b ∈ S.taken, m a = m b → a = b := fun a ha b hb e => by
   have pa := h.part ha; have pb := h.part hb
   rcases Nat.lt_trichotomy a b with h1 | h1 | h1
   · have := hm2 a ha b hb h1; omega
   · exact h1
   · have := hm2 b hb a ha h1; omega
  have hI := I.len
  -- the words at last
  obtain ⟨W2, hrun, l2, g2, g16, gn⟩ : ∃ W2, S.moved = some (M, { S with words := W2, taken := S.taken.map m }) ∧ W2.length = S.words.length ∧ (∀ j, j ≠ 16 → j < next → ow W2 j = ow W1 j) ∧ (if next < S.words.length then ow W2 16 = next ∧ ow W2 (next + 1) = ((S.words.length - next : Nat) : Int) ∧ ∀ j, next ≤ j → j ≠ next + 1 → ow W2 j = 0 else ow W2 16 = 0) ∧ True := by
   by_cases hlt : next < S.words.length
   · obtain ⟨Wa, ea, la, ga⟩ := wr_ow (W := W1) (i := 16) (next : Int) (by omega); obtain ⟨Wb, eb, lb, gb⟩ := wr_ow (W := Wa) (i := next + 1) ((W0.length : Int) - next) (by omega); refine ⟨Wb, ?_, by omega, fun j h1 h2 => by rw [gb, if_neg (by omega), ga, if_neg h1], ?_, trivial⟩
     · unfold Hs.moved; rw [v1]; simp only [Option.bind_eq_bind, Option.bind_some]; rw [w1]; simp only [Option.bind_some]; rw [if_pos (by omega), ea]; simp only [Option.bind_some]; rw [eb]; rfl
     · rw [if_pos hlt]; have := hin; refine ⟨by rw [gb, if_neg (by omega), ga, if_pos rfl], by rw [gb, if_pos rfl]; omega, fun j h1 h2 => ?_⟩; rw [gb, if_neg h2, ga, if_neg (by omega)]; exact I.rest j (.inr h1)
   · refine ⟨W1, ?_, hI, fun _ _ _ => rfl, ?_, trivial⟩
     · unfold Hs.moved; rw [v1]; simp only [Option.bind_eq_bind, Option.bind_some]; rw [w1]; simp only [Option.bind_some]; rw [if_neg (by omega)]
     · rw [if_neg hlt]; exact I.rest 16 (.inl rfl)
  have D : ∀ b ∈ S.taken, ow W2 (m b) = ow S.words b ∧ ow W2 (m b + 1) = ow S.words (b + 1) ∧ ow W2 (m b + 2) = ow S.words (b + 2) ∧ ow W2 (m b + 3) = ow W1 (m b + 3) ∧ fz (ow W2) S.sizes (m b) = nz (ow S.words) S.sizes m b := fun b hb => by
   obtain ⟨d1, d2, d3, d4⟩ := I.done b hb; have pb := h.part hb; have qb := hin b hb; have e0 : ow W2 (m b) = ow W1 (m b) := g2 _ (by omega) (by omega); refine ⟨e0.trans d1, (g2 _ (by omega) (by omega)).trans d2, (g2 _ (by omega) (by omega)).trans d3, g2 _ (by omega) (by omega), ?_⟩; rw [← d4]; unfold fz; rw [e0]; exact cut_congr fun k hk => g2 _ (by omega) (by rw [d1] at hk; omega)
  have kaddr : ∀ a ∈ S.taken, ∀ x ∈ kz (ow S.words) S.sizes a, ∃ k ∈ S.taken, x = (k : Int) := fun a ha x hx => by
   obtain ⟨b, hb, e, _⟩ := h.cells.kids a ha x hx; exact ⟨b, hb, e⟩
  have DK : ∀ b ∈ S.taken, kz (ow W2) S.sizes (m b) = (kz (ow S.words) S.sizes b).map (to' m) := fun b hb => by
   obtain ⟨d1, _, _, _, d5⟩ := D b hb; unfold kz; rw [d1, d5]; unfold nz
   split <;> simp
  have mT : ∀ x, x ∈ S.taken.map m ↔ ∃ b ∈ S.taken, m b = x := fun x => List.mem_map
  have fzn : ∀ b ∈ S.taken, isEnd (ow S.words b) = false → nz (ow S.words) S.sizes m b = (fz (ow S.words) S.sizes b).map (to' m) := fun b _ he => by simp [nz, he]
  have fze : ∀ b ∈ S.taken, isEnd (ow S.words b) = true → nz (ow S.words) S.sizes m b = fz (ow S.words) S.sizes b := fun b _ he => by simp [nz, he]
  have kfz : ∀ b ∈ S.taken, isEnd (ow S.words b) = false → ∀ x ∈ fz (ow S.words) S.sizes b, ∃ k ∈ S.taken, x = (k : Int) := fun b hb he x hx => kaddr b hb x (by unfold kz; rw [he]; simpa using hx)
  let P : List Tl := S.taken.map fun b => (⟨m b, wz S.sizes (ow S.words b), false⟩ : Tl)
  let q : List Tl := if next < S.words.length then [⟨next, S.words.length - next, true⟩] else []
  have hPf : ∀ t ∈ P, t.fr = false := fun t ht => by
   obtain ⟨b, _, rfl⟩ := List.mem_map.1 ht; rfl
  have hq : q = [] ∧ next = S.words.length ∨ q = [⟨next, S.words.length - next, true⟩] ∧ next + 3 ≤ S.words.length := by
   by_cases hlt : next < S.words.length
   · exact .inr ⟨if_pos hlt, by omega⟩
   · exact .inl ⟨if_neg hlt, by omega⟩
  have hPlay : Lay 17 P next := hlay; have hads : adsOf (P ++ q) = S.taken.map m := by
   rw [adsOf_app]; have e1 : adsOf q = [] := by rcases hq with ⟨e, _⟩ | ⟨e, _⟩ <;> rw [e] <;> rfl
   have e2 : adsOf P = S.taken.map m := by
    unfold adsOf; rw [List.filter_eq_self.2 fun t ht => by rw [hPf t ht]; rfl]; show (S.taken.map _).map _ = _; rw [List.map_map]; rfl
   rw [e1, e2, List.append_nil]
  refine ⟨M, m, { S with words := W2, taken := S.taken.map m }, P ++ q, cc, hrun, ⟨rfl, rfl, l2, rfl, v3, hget, fun b hb => (D b hb).1, fun b hb => (D b hb).2.2.1, fun b hb => (D b hb).2.2.2.2, hinj⟩, ?_, ⟨P, q, rfl, hPf, ?_⟩, rfl, hcc.symm, fun b hb => (D b hb).2.1, rfl⟩
  · exact
    { fr := h.fr
      lo := by show 20 ≤ W2.length; omega
      hi := by show W2.length ≤ 100000; omega
      bd := h.bd
      parts := by
       show Parts (ow W2) S.sizes (P ++ q) W2.length; rw [l2]; refine ⟨Lay.app.2 ⟨next, hPlay, ?_⟩, Links.app.2 ?_, Sep.app.2 ⟨sep_cells hPf, ?_, by rw [ltF_none hPf]; simp⟩, fun t ht => ?_⟩
       · rcases hq with ⟨e, e'⟩ | ⟨e, e'⟩
         · rw [e]; exact e'
         · rw [e]; refine ⟨rfl, by show 3 ≤ S.words.length - next; omega, ?_⟩; show next + (S.words.length - next) = S.words.length; omega
       · rw [(links_cells hPf).1, (links_cells (f := ow W2) (l := 16) (x := 0) hPf).2]
         rcases hq with ⟨e, e'⟩ | ⟨e, e'⟩
         · rw [e]; rw [if_neg (by omega)] at g16; exact ⟨g16, g16⟩
         · rw [e]; rw [if_pos (by omega)] at g16; exact ⟨g16.1, g16.1, g16.2.2 (next + 2) (by omega) (by omega)⟩
       · rcases hq with ⟨e, _⟩ | ⟨e, _⟩ <;> rw [e] <;> trivial
       · rcases List.mem_append.1 ht with ht | ht
         · obtain ⟨b, hb, rfl⟩ := List.mem_map.1 ht; unfold PartOk; simp only [Bool.false_eq_true, if_false]; rw [(D b hb).1]; exact ⟨h.cells.tags b hb, rfl⟩
         · rcases hq with ⟨e, e'⟩ | ⟨e, e'⟩
           · rw [e] at ht; cases ht
           · rw [e] at ht; have : t = ⟨next, S.words.length - next, true⟩ := by simpa using ht
             subst this; rw [if_pos (by omega)] at g16; unfold PartOk; simp only [if_true]; exact ⟨g16.2.2 next (Nat.le_refl _) (by omega), g16.2.1, fun j h1 h2 => g16.2.2 j (by omega) (by omega)⟩
      taken := hads.symm
      chains := by
       show Chains (ow W2) S.sizes (S.taken.map m) cc; refine ⟨fun c hc => (I.path c hc).congr (g2 _ (by omega) (by omega)) fun x hx => ?_, I.nd, fun c hc x => ?_⟩
       · obtain ⟨b, hb, rfl, _⟩ := (I.mem c hc x).1 hx; exact (D b hb).2.2.2.1
       · rw [I.mem c hc x, mT]; constructor
         · rintro ⟨b, hb, rfl, e⟩; exact ⟨⟨b, hb, rfl⟩, by rw [(D b hb).1, (D b hb).2.2.2.2]; exact e⟩
         · rintro ⟨⟨b, hb, rfl⟩, e⟩; rw [(D b hb).1, (D b hb).2.2.2.2] at e; exact ⟨b, hb, rfl, e⟩
      cells := by
       show Cells (ow W2) S.sizes S.order (S.taken.map m); refine ⟨fun x hx => ?_, fun x hx => ?_, fun x hx y hy => ?_, fun x hx => ?_, fun x hx y hy h1 h2 => ?_⟩
       · obtain ⟨b, hb, rfl⟩ := (mT x).1 hx; rw [(D b hb).1]; exact h.cells.tags b hb
       · obtain ⟨b, hb, rfl⟩ := (mT x).1 hx; rw [(D b hb).1]; intro he; have hwe : wz S.sizes (ow S.words b) = 5 := by simp [wz, he]
         have e5 := (D b hb).2.2.2.2; rw [fze b hb he] at e5; have e4 : ow W2 (m b + 4) = ow S.words (b + 4) := by
          have q1 := cut_get (f := ow W2) (i := m b + 4) (n := wz S.sizes (ow W2 (m b)) - 4) (k := 0) (by rw [(D b hb).1, hwe]; omega); have q2 := cut_get (f := ow S.words) (i := b + 4) (n := wz S.sizes (ow S.words b) - 4) (k := 0) (by rw [hwe]; omega); unfold fz at e5; rw [e5, q2] at q1
          simpa using q1.symm
         rw [e4]; exact h.cells.ends b hb he
       · obtain ⟨b, hb, rfl⟩ := (mT x).1 hx; rw [DK b hb] at hy; obtain ⟨y', hy', rfl⟩ := List.mem_map.1 hy; obtain ⟨k, hk, rfl, hr⟩ := h.cells.kids b hb y' hy'; refine ⟨m k, (mT _).2 ⟨k, hk, rfl⟩, by simp [to'], ?_⟩; rw [(D b hb).1, (D k hk).1]; exact hr
       · obtain ⟨b, hb, rfl⟩ := (mT x).1 hx; rw [(D b hb).1, (D b hb).2.2.2.2]; intro he; rw [fzn b hb he]
         cases ha : Hs.alike ((fz (ow S.words) S.sizes b).map (to' m)) with
         | false => rfl
         | true =>
          have := alike_map hinj (kfz b hb he) ha; rw [h.cells.flat b hb he] at this
          cases this
       · obtain ⟨a, ha, rfl⟩ := (mT x).1 hx; obtain ⟨b, hb, rfl⟩ := (mT y).1 hy; rw [(D a ha).1, (D b hb).1] at h1; rw [(D a ha).2.2.2.2, (D b hb).2.2.2.2] at h2; have : a = b := by
          refine h.cells.one a ha b hb h1 ?_
          cases he : isEnd (ow S.words a) with
          | true =>
           rw [fze a ha he, fze b hb (by rw [← h1]; exact he)] at h2; exact h2
          | false =>
           have he' : isEnd (ow S.words b) = false := by rw [← h1]; exact he
           rw [fzn a ha he, fzn b hb he'] at h2; exact map_inj hinj (kfz a ha he) (kfz b hb he') h2
         rw [this]
      uses := by
       intro x hx; obtain ⟨b, hb, rfl⟩ := (mT x).1 hx; show ow W2 (m b + 1) = cnt (ow W2) S.sizes (m b) (S.taken.map m); rw [(D b hb).2.1, h.uses b hb]; have key : ∀ T : List Nat, (∀ c ∈ T, c ∈ S.taken) → cnt (ow W2) S.sizes (m b) (T.map m) = cnt (ow S.words) S.sizes b T := by
        intro T
        induction T with
        | nil => intro _; rfl
        | cons c T ih =>
         intro hT; have hc := hT c (by simp); show List.count _ (kz (ow W2) S.sizes (m c)) + cnt _ _ _ (T.map m) = _; rw [DK c hc, count_map hinj hb (kaddr c hc), ih fun d hd => hT d (by simp [hd])]; rfl
       rw [key S.taken fun c hc => hc]
      holds := fun x hx => by
       obtain ⟨b, hb, rfl⟩ := (mT x).1 hx; show 0 ≤ ow W2 (m b + 2) ∧ ow W2 (m b + 2) ≤ B
       rw [(D b hb).2.2.1]; exact h.holds b hb }
  · rcases hq with ⟨e, _⟩ | ⟨e, _⟩
    · exact .inl e
    · exact .inr ⟨_, e, rfl⟩
theorem moved_wf {S : Hs} {B : Nat} {L : List Tl} {ch : Nat → List Nat} (h : Wf S B L ch) : ∃ M m S' L' ch', S.moved = some (M, S') ∧ Moved S S' M m ∧ Wf S' B L' ch' ∧ ∃ P q, L' = P ++ q ∧ (∀ t ∈ P, t.fr = false) ∧ (q = [] ∨ ∃ t, q = [t] ∧ t.fr = true) := by
 obtain ⟨M, m, S', L', ch', h1, h2, h3, h4, _⟩ := moved_all h
 exact ⟨M, m, S', L', ch', h1, h2, h3, h4⟩
end Hp
namespace Hp
theorem isEnd_of {fault : Int} (h0 : 0 ≤ fault) (h4 : fault ≤ 4) : isEnd (20 + fault) = true := by
 simp [isEnd, within]
 omega
theorem new_end {S : Hs} {fault n : Int} (h0 : 0 ≤ fault) (h4 : fault ≤ 4) (hn : fault > 0 → n = 0) (h1 : -9999 ≤ n) (h2 : n ≤ 9999) : New S (20 + fault) [n] := by
 have he := isEnd_of h0 h4
 refine ⟨by simp [okTag, he], by simp [wz, he], fun _ x hx => ?_, fun h => ?_, fun h => ?_⟩
 · have : x = n := by simpa using hx
   subst this; exact ⟨h1, h2, fun h => hn (by omega)⟩
 · rw [he] at h; cases h
 · rw [he] at h; cases h
structure Grown (S S' : Hs) : Prop where
 sizes : S'.sizes = S.sizes
 order : S'.order = S.order
 len : S'.words.length = S.words.length
theorem Grown.refl (S : Hs) : Grown S S := ⟨rfl, rfl, rfl⟩
theorem Grown.trans {A B C : Hs} (h : Grown A B) (k : Grown B C) : Grown A C := ⟨k.sizes.trans h.sizes, k.order.trans h.order, k.len.trans h.len⟩
def Good (S : Hs) (B : Nat) : Prop := ∃ L ch, Wf S B L ch
theorem Wf.more {S : Hs} {B B' : Nat} {L : List Tl} {ch : Nat → List Nat} (h : Wf S B L ch) (hB : B ≤ B') (hb : B' ≤ 100000) : Wf S B' L ch :=
 { h with bd := hb, holds := fun a ha => by have := h.holds a ha; omega }
theorem add_good {S : Hs} {B : Nat} (h : Good S B) {t : Int} {fs : List Int} (hn : New S t fs) : ∃ a S', S.add t fs = some (a, S') ∧ Good S' B ∧ Grown S S' := by
 obtain ⟨L, ch, h⟩ := h
 rcases add_wf h hn with ⟨a, _, _, _, e⟩ | ⟨_, ⟨_, e⟩ | ⟨P, u, Q, S', _, _, _, _, e, hp, hw⟩⟩
 · exact ⟨a, S, e, ⟨L, ch, h⟩, .refl _⟩
 · exact ⟨0, S, e, ⟨L, ch, h⟩, .refl _⟩
 · exact ⟨u.a, S', e, ⟨_, _, hw⟩, ⟨hp.sizes, hp.order, hp.len⟩⟩
theorem end_good {S : Hs} {B : Nat} (h : Good S B) {fault n : Int} (h0 : 0 ≤ fault) : ∃ r e S', S.end' fault n = some (r, e, S') ∧ Good S' B ∧ Grown S S' := by
 unfold Hs.end'
 split
 · exact ⟨0, 4, S, rfl, h, .refl _⟩
 · rename_i hc; simp only [not_or, Bool.not_eq_false, within, Bool.and_eq_true, decide_eq_true_eq] at hc; obtain ⟨h1, h2, h3⟩ := hc; obtain ⟨a, S', e, hg, hr⟩ := add_good h (new_end (S := S) (fault := fault) (n := n) h0 (by omega) (fun hf => by omega) h3.1 h3.2); rw [e]; simp only [Option.bind_eq_bind, Option.bind_some]; unfold Hs.full; simp only
   split
   · exact ⟨_, _, S', rfl, hg, hr⟩
   · exact ⟨_, _, S', rfl, hg, hr⟩
theorem laters_total {S : Hs} {B : Nat} {L : List Tl} {ch : Nat → List Nat} (h : Wf S B L ch) (c : Int) : ∀ (l : List Int), (∀ x ∈ l, S.has x = true) → ∃ b, S.laters c l = some b ∧ (b = true ↔ ∀ x ∈ l, ∃ k ∈ S.taken, x = (k : Int) ∧ rank S.order (c + 1) < rank S.order (ow S.words k))
 | [], _ => ⟨true, rfl, by simp⟩
 | x :: l, hl => by
  obtain ⟨k, rfl, hk⟩ := has_yes (hl x (by simp)); obtain ⟨b, h1, h2⟩ := laters_total h c l fun y hy => hl y (by simp [hy])
  have ht := h.tag_le hk; unfold Hs.laters; rw [show adr (k : Int) = some k by simp [adr]]; simp only [Option.bind_eq_bind, Option.bind_some, h.tag_ hk]; rw [ck_in (by omega) (by omega)]; simp only [Option.bind_some]
  by_cases hr : rank S.order (ow S.words k) > rank S.order (c + 1)
  · rw [if_pos hr, h1]; refine ⟨b, rfl, h2.trans ⟨fun hh y hy => ?_, fun hh y hy => hh y (by simp [hy])⟩⟩
    rcases List.mem_cons.1 hy with rfl | hy
    · exact ⟨k, hk, rfl, hr⟩
    · exact hh y hy
  · rw [if_neg hr]; refine ⟨false, rfl, ⟨(fun h => by cases h), fun hh => ?_⟩⟩; obtain ⟨k', hk', e, hr'⟩ := hh (k : Int) (by simp); have : k = k' := by omega
    subst this; exact absurd hr' hr
theorem checkNode_total {S : Hs} {B : Nat} {L : List Tl} {ch : Nat → List Nat} (h : Wf S B L ch) (c : Int) (l : List Int) : ∃ e, S.checkNode c l = some e ∧ (e = 0 → isNode S.sizes (c + 1) = true ∧ l.length = wz S.sizes (c + 1) - 4 ∧ ∀ x ∈ l, ∃ k ∈ S.taken, x = (k : Int) ∧ rank S.order (c + 1) < rank S.order (ow S.words k)) := by
 unfold Hs.checkNode
 cases hw : within 0 ((S.sizes.length : Int) - 1) c with
 | false => exact ⟨3, by simp, fun h => by cases h⟩
 | true =>
  simp only [within, Bool.and_eq_true, decide_eq_true_eq] at hw; have hc : c.toNat < S.sizes.length := by omega
  simp only [Bool.true_eq_false, if_false]; rw [rd_ow hc]; simp only [Option.bind_eq_bind, Option.bind_some]
  by_cases h1 : (l.length : Int) ≠ ow S.sizes c.toNat
  · exact ⟨4, by rw [if_pos h1], fun h => by cases h⟩
  · rw [if_neg h1]
    cases hh : l.all S.has with
    | false => exact ⟨7, by simp, fun h => by cases h⟩
    | true =>
     simp only [Bool.true_eq_false, if_false]; rw [List.all_eq_true] at hh; obtain ⟨b, e1, e2⟩ := laters_total h c l hh; rw [e1]; simp only [Option.bind_some]
     cases b with
     | false => exact ⟨2, by simp, fun h => by cases h⟩
     | true =>
      refine ⟨0, by simp, fun _ => ⟨?_, ?_, e2.1 rfl⟩⟩
      · simp [isNode, within]; omega
      · have hne : isEnd (c + 1) = false := by
          have := h.fr.few; simp [isEnd, within]; omega
        have e3 : S.sizes.getD (c + 1 - 1).toNat 0 = ow S.sizes c.toNat := by
         rw [show c + 1 - 1 = c by omega]; rfl
        unfold wz; rw [hne, e3]; simp only [Bool.false_eq_true, if_false]; omega
theorem new_node {S : Hs} {B : Nat} {L : List Tl} {ch : Nat → List Nat} (h : Wf S B L ch) {c : Int} {l : List Int} (h1 : isNode S.sizes (c + 1) = true) (h2 : l.length = wz S.sizes (c + 1) - 4) (h3 : ∀ x ∈ l, ∃ k ∈ S.taken, x = (k : Int) ∧ rank S.order (c + 1) < rank S.order (ow S.words k)) (h4 : Hs.alike l = false) : New S (c + 1) l := by
 have hne : isEnd (c + 1) = false := by
  have := h.fr.few; simp only [isNode, within, Bool.and_eq_true, decide_eq_true_eq] at h1; simp [isEnd, within]; omega
 exact ⟨by simp [okTag, h1], h2, (fun he => by rw [hne] at he; cases he), fun _ => h3, fun _ => h4⟩
theorem make_good {S : Hs} {B : Nat} (h : Good S B) (c : Int) (l : List Int) : ∃ r e S', S.make c l = some (r, e, S') ∧ Good S' B ∧ Grown S S' := by
 obtain ⟨L, ch, hw⟩ := id h
 obtain ⟨e, h1, h2⟩ := checkNode_total hw c l
 unfold Hs.make
 rw [h1]
 simp only [Option.bind_eq_bind, Option.bind_some]
 by_cases he : e ≠ 0
 · rw [if_pos he]; exact ⟨_, _, S, rfl, h, .refl _⟩
 · rw [if_neg he]; obtain ⟨k1, k2, k3⟩ := h2 (by omega); have hwz := wz_ok hw.fr.toFr (t := c + 1) (by simp [okTag, k1])
   cases ha : Hs.alike l with
   | true =>
    simp only [if_true]
    cases l with
    | nil => simp at k2; omega
    | cons x l => exact ⟨x, 0, S, rfl, h, .refl _⟩
   | false =>
    simp only [Bool.false_eq_true, if_false]; obtain ⟨a, S', e, hg, hr⟩ := add_good h (new_node hw k1 k2 k3 ha); rw [e]; simp only [Option.bind_some]; unfold Hs.full; simp only
    split
    · exact ⟨_, _, S', rfl, hg, hr⟩
    · exact ⟨_, _, S', rfl, hg, hr⟩
theorem look_total {S : Hs} {B : Nat} {L : List Tl} {ch : Nat → List Nat} (h : Wf S B L ch) {t : Int} {fs : List Int} (hn : New S t fs) : ∃ a, S.look t fs = some a := by
 rcases look_spec h (ck_of h hn) (cz_lt _ _) with ⟨a, _, _, _, e⟩ | ⟨_, e⟩
 · exact ⟨a, e⟩
 · exact ⟨0, e⟩
theorem find_total {S : Hs} {B : Nat} (h : Good S B) (c : Int) (l : List Int) : ∃ r e, S.find c l = some (r, e) := by
 obtain ⟨L, ch, hw⟩ := h
 obtain ⟨e, h1, h2⟩ := checkNode_total hw c l
 unfold Hs.find
 rw [h1]
 simp only [Option.bind_eq_bind, Option.bind_some]
 by_cases he : e ≠ 0
 · rw [if_pos he]; exact ⟨_, _, rfl⟩
 · rw [if_neg he]; obtain ⟨k1, k2, k3⟩ := h2 (by omega); have hwz := wz_ok hw.fr.toFr (t := c + 1) (by simp [okTag, k1])
   cases ha : Hs.alike l with
   | true =>
    simp only [if_true]
    cases l with
    | nil => simp at k2; omega
    | cons x l => exact ⟨x, 0, rfl⟩
   | false =>
    simp only [Bool.false_eq_true, if_false]; obtain ⟨a, e⟩ := look_total hw (new_node hw k1 k2 k3 ha); rw [e]; simp only [Option.bind_some]
    split
    · exact ⟨_, _, rfl⟩
    · exact ⟨_, _, rfl⟩
theorem hold_good {S : Hs} {B : Nat} (h : Good S B) (hB : B < 100000) (a : Int) : ∃ e S', S.hold a = some (e, S') ∧ Good S' (B + 1) ∧ Grown S S' := by
 obtain ⟨L, ch, hw⟩ := h
 cases hh : S.has a with
 | false =>
  refine ⟨7, S, by simp [Hs.hold, hh], ⟨L, ch, hw.more (by omega) (by omega)⟩, .refl _⟩
 | true =>
  obtain ⟨k, rfl, hk⟩ := has_yes hh; obtain ⟨W, e, hw', hl, _⟩ := hold_wf hw hB hk; exact ⟨0, _, e, ⟨L, ch, hw'⟩, ⟨rfl, rfl, hl⟩⟩
theorem drop_good {S : Hs} {B : Nat} (h : Good S B) (a : Int) : ∃ e S', S.drop a = some (e, S') ∧ Good S' B ∧ Grown S S' := by
 obtain ⟨L, ch, hw⟩ := id h
 cases hh : S.has a with
 | false => exact ⟨7, S, by simp [Hs.drop, hh], h, .refl _⟩
 | true =>
  obtain ⟨k, rfl, hk⟩ := has_yes hh
  by_cases h0 : ow S.words (k + 2) = 0
  · exact ⟨9, S, drop_no hw hk h0, h, .refl _⟩
  · obtain ⟨W, e, hw', hl, _⟩ := drop_wf hw hk h0; exact ⟨0, _, e, ⟨L, ch, hw'⟩, ⟨rfl, rfl, hl⟩⟩
theorem collect_good {S : Hs} {B : Nat} (h : Good S B) : ∃ n S', S.collect = some (n, S') ∧ Good S' B ∧ Grown S S' := by
 obtain ⟨L, ch, hw⟩ := h
 obtain ⟨T, hT⟩ := live_total hw
 obtain ⟨S', L', e, hc, hw'⟩ := collect_wf hw hT
 exact ⟨_, S', e, ⟨_, _, hw'⟩, ⟨hc.sizes, hc.order, hc.len⟩⟩
theorem moved_good {S : Hs} {B : Nat} (h : Good S B) : ∃ M S', S.moved = some (M, S') ∧ Good S' B ∧ Grown S S' := by
 obtain ⟨L, ch, hw⟩ := h
 obtain ⟨M, m, S', L', ch', e, hm, hw', _⟩ := moved_wf hw
 exact ⟨M, S', e, ⟨_, _, hw'⟩, ⟨hm.sizes, hm.order, hm.len⟩⟩
theorem do_good {s : Sc} {B : Nat} (h : Good s.S B) (hB : B < 100000) (x : Act') (hf : 0 ≤ x.fault) : ∃ s', s.do' x = some s' ∧ Good s'.S (B + 1) ∧ Grown s.S s'.S := by
 have up : ∀ {S : Hs}, Good S B → Good S (B + 1) := fun ⟨L, ch, h⟩ => ⟨L, ch, h.more (by omega) (by omega)⟩
 unfold Sc.do'
 split
 · obtain ⟨r, e, S', e1, hg, hr⟩ := end_good h (fault := x.fault) (n := x.n) hf; rw [e1]; exact ⟨_, rfl, up hg, hr⟩
 · split
   · dsimp only
     split
     · exact ⟨_, rfl, up h, .refl _⟩
     · split
       · obtain ⟨r, e, S', e1, hg, hr⟩ := make_good h x.a (x.list.map (nameOf s.ats)); rw [e1]; exact ⟨_, rfl, up hg, hr⟩
       · obtain ⟨r, e, e1⟩ := find_total h x.a (x.list.map (nameOf s.ats)); rw [e1]; exact ⟨_, rfl, up h, .refl _⟩
   · split
     · split
       · exact ⟨_, rfl, up h, .refl _⟩
       · split
         · obtain ⟨e, S', e1, hg, hr⟩ := hold_good h hB (nameOf s.ats x.a); rw [e1]; exact ⟨_, rfl, hg, hr⟩
         · obtain ⟨e, S', e1, hg, hr⟩ := drop_good h (nameOf s.ats x.a); rw [e1]; exact ⟨_, rfl, up hg, hr⟩
     · split
       · obtain ⟨n, S', e1, hg, hr⟩ := collect_good h; rw [e1]; exact ⟨_, rfl, up hg, hr⟩
       · split
         · obtain ⟨n, S', e1, hg, hr⟩ := collect_good h; obtain ⟨M, S2, e2, hg2, hr2⟩ := moved_good hg; rw [e1]; simp only [Option.bind_eq_bind, Option.bind_some]; show ∃ s', ((S'.moved).bind _) = some s' ∧ _
           rw [e2]; exact ⟨_, rfl, up hg2, hr.trans hr2⟩
         · exact ⟨_, rfl, up h, .refl _⟩
theorem play_good : ∀ (l : List Act') (s : Sc) (B : Nat), Good s.S B → B + l.length ≤ 100000 → (∀ x ∈ l, 0 ≤ x.fault) → ∃ s', s.play l = some s' ∧ Good s'.S (B + l.length) ∧ Grown s.S s'.S
 | [], s, B, h, _, _ => ⟨s, rfl, h, .refl _⟩
 | x :: l, s, B, h, hB, hf => by
  simp only [List.length_cons] at hB; obtain ⟨s1, e1, h1, g1⟩ := do_good h (by omega) x (hf x (by simp)); obtain ⟨s2, e2, h2, g2⟩ := play_good l s1 (B + 1) h1 (by omega) fun y hy => hf y (by simp [hy])
  refine ⟨s2, ?_, ?_, g1.trans g2⟩
  · unfold Sc.play; rw [e1]; exact e2
  · rw [List.length_cons, show B + (l.length + 1) = B + 1 + l.length by omega]; exact h2
theorem new_wf {z o : List Int} (hz : FrOk z o) {n : Nat} (h1 : 20 ≤ n) (h2 : n ≤ 100000) : ∃ S, Hp.new z o n = some S ∧ S.sizes = z ∧ S.order = o ∧ S.words.length = n ∧ Wf S 0 [⟨17, n - 17, true⟩] (fun _ => []) := by
 obtain ⟨W1, e1, l1, g1⟩ := wr_ow (W := List.replicate n (0 : Int)) (i := 16) 17 (by simp; omega)
 rw [List.length_replicate] at l1
 obtain ⟨W2, e2, l2, g2⟩ := wr_ow (W := W1) (i := 18) ((n : Int) - 17) (by omega)
 have G : ∀ j, ow W2 j = if j = 18 then (n : Int) - 17 else if j = 16 then 17 else 0 := fun j => by rw [g2, g1, ow_rep]
 refine ⟨⟨z, o, W2, []⟩, ?_, rfl, rfl, l2.trans l1, ?_⟩
 · unfold Hp.new; rw [e1]; simp only [Option.bind_eq_bind, Option.bind_some]; rw [e2]; rfl
 · exact
   { fr := hz
     lo := by show 20 ≤ W2.length; omega
     hi := by show W2.length ≤ 100000; omega
     bd := by omega
     parts := by
      show Parts (ow W2) z _ W2.length; refine ⟨⟨rfl, by show 3 ≤ n - 17; omega, ?_⟩, ⟨?_, ?_⟩, trivial, fun t ht => ?_⟩
      · show 17 + (n - 17) = W2.length; omega
      · rw [G]; rfl
      · show ow W2 (17 + 2) = 0; rw [G]; rfl
      · have : t = ⟨17, n - 17, true⟩ := by simpa using ht
        subst this; unfold PartOk; simp only [if_true]; refine ⟨by rw [G]; rfl, ?_, fun j h1 h2 => ?_⟩
        · show ow W2 18 = ((n - 17 : Nat) : Int); rw [G, if_pos rfl]; omega
        · rw [G, if_neg (by omega), if_neg (by omega)]
     taken := rfl
     chains := ⟨fun c hc => by show ow W2 c = 0; rw [G, if_neg (by omega), if_neg (by omega)], by simp, by simp⟩
     cells := ⟨by simp, by simp, by simp, by simp, by simp⟩
     uses := fun a ha => by cases ha
     holds := fun a ha => by cases ha }
end Hp
open Go.RowKit Go.Maps Go.Sort Go.Shelf
structure SeenInv (T D : List Nat) (left : Lit → Bool) : Prop where
 nd : D.Nodup
 sub : ∀ x ∈ D, x ∈ T
 all : ∀ x ∈ T, left (.int .i64 (x : Int)) = false → x ∈ D
 out : ∀ x ∈ D, left (.int .i64 (x : Int)) = false
theorem SeenInv.nil (T : List Nat) : SeenInv T [] (Maps.has (mapOf T)) where
 nd := List.Pairwise.nil
 sub := by simp
 all x hx h := by
  rw [has_mapOf, hasLit_int] at h; have : T.contains x = true := by simpa using hx
  rw [this] at h
  cases h
 out := by simp
theorem SeenInv.step {T D : List Nat} {left : Lit → Bool} {x : Nat} (h : SeenInv T D left) (hx : x ∈ T) (hl : left (.int .i64 (x : Int)) = true) : SeenInv T (D ++ [x]) (fun z => left z && !z.sameKey (.int .i64 x)) := by
 have hn : x ∉ D := fun hm => by
  have := h.out x hm; rw [hl] at this
  cases this
 refine ⟨List.nodup_append.2 ⟨h.nd, by simp, fun a ha b hb e => ?_⟩, fun y hy => ?_, fun y hy hh => ?_, fun y hy => ?_⟩
 · have : b = x := by simpa using hb
   subst this e; exact hn ha
 · rcases List.mem_append.1 hy with hy | hy
   · exact h.sub y hy
   · have : y = x := by simpa using hy
     subst this; exact hx
 · rcases left_false hh with h1 | rfl
   · simp [h.all y hy h1]
   · simp
 · rcases List.mem_append.1 hy with hy | hy
   · show (left (.int .i64 (y : Int)) && _) = false; rw [h.out y hy]; rfl
   · have : y = x := by simpa using hy
     subst this; show (left (.int .i64 (y : Int)) && !(Lit.int .i64 (y : Int)).sameKey (.int .i64 y)) = false; simp [Lit.sameKey]
theorem SeenInv.perm {T D : List Nat} {left : Lit → Bool} (h : SeenInv T D left) (hT : T.Nodup) (hl : ∀ kl, left kl = false) : D.Perm T := by
 rw [List.perm_ext_iff_of_nodup h.nd hT]
 exact fun x => ⟨h.sub x, fun hx => h.all x hx (hl _)⟩
def CountsAre (S : Hp.Hs) (D : List Nat) (part : List Int) (M : List (Nat × Int)) : Prop := ∀ y : Nat, (getI y M).getD 0 = ((Hp.cnt (Hp.ow S.words) S.sizes y D + part.count (y : Int) : Nat) : Int)
theorem CountsAre.put {S : Hp.Hs} {D : List Nat} {part : List Int} {M : List (Nat × Int)} {b : Nat} (h : CountsAre S D part M) (hu : KeysUp M) : CountsAre S D (part ++ [(b : Int)]) (putI b ((getI b M).getD 0 + 1) M) := fun y => by
 rw [getI_put hu, List.count_append]
 by_cases e : y = b
 · subst e; rw [if_pos rfl, Option.getD_some, h y]; simp; omega
 · rw [if_neg e, h y]; have : List.count (y : Int) [(b : Int)] = 0 := by
    rw [List.count_eq_zero]; simp; omega
   rw [this]; rfl
open Go.RowKit Go.Maps
theorem cellKT : Tryz.prog.keyTypeAt 3 152 = true := by kernel_rfl
theorem cellTI : Tryz.prog.tiled 3 152 = true := by kernel_rfl
theorem three_le : 3 + 1 ≤ 10000 := Nat.le_of_ble_eq_true (by kernel_rfl)
theorem cellLaw : WideMaps.KeyLaw Tryz.prog 152 := deep_law (m := 3) three_le cellKT cellTI (by rw [Tryz.underlying152])
theorem cellKeyed : Maps.Keyed Tryz.prog 152 := Maps.Keyed.of_law cellLaw
theorem keyLits_int (d : Nat) {x : Int} (h : -9223372036854775808 ≤ x ∧ x ≤ 9223372036854775807) : Tryz.prog.keyLits (d + 1) 3 [.int .i64 x] = some [.int .i64 x] := by
 unfold Program.keyLits
 rw [Tryz.underlying3]
 have wf : (Lit.int .i64 x).wf = true := WalkArith.wf_i64 (by omega)
 simp [wf]
theorem types_le : 3 ≤ Tryz.prog.types.size := Nat.le_of_ble_eq_true (by kernel_rfl)
theorem cellsOf_cell : Tryz.prog.cellsOf 152 = 13 := by kernel_rfl
theorem cellsOf_arr : Tryz.prog.cellsOf 150 = 12 := by kernel_rfl
theorem cellsOf_int : Tryz.prog.cellsOf 3 = 1 := by kernel_rfl
theorem keyType_cell : Tryz.prog.keyType 152 = true := by kernel_rfl
theorem keyOf_cell {l : List Int} (hl : l.length = 13) (h : ∀ x ∈ l, -9223372036854775808 ≤ x ∧ x ≤ 9223372036854775807) : ∃ k, keyOf Tryz.prog 152 (.agg (ints l).toArray) = some k := by
 match l, hl with
 | [a0, a1, a2, a3, a4, a5, a6, a7, a8, a9, a10, a11, a12], _ =>
  obtain ⟨d, hd⟩ : ∃ d, Tryz.prog.types.size = d + 2 := ⟨Tryz.prog.types.size - 2, by have := types_le; omega⟩
  have e : ∀ x ∈ [a0, a1, a2, a3, a4, a5, a6, a7, a8, a9, a10, a11, a12], ∀ d, Tryz.prog.keyLits (d + 1) 3 [.int .i64 x] = some [.int .i64 x] := fun x hx d => keyLits_int d (h x hx)
  have arr : ∃ k, Tryz.prog.keyLits (d + 2) 150 [.int .i64 a1, .int .i64 a2, .int .i64 a3, .int .i64 a4, .int .i64 a5, .int .i64 a6, .int .i64 a7, .int .i64 a8, .int .i64 a9, .int .i64 a10, .int .i64 a11, .int .i64 a12] = some k := by
   unfold Program.keyLits; rw [Tryz.underlying150]; simp only [cellsOf_arr, cellsOf_int]; simp [List.range, List.range.loop, e a1 (by simp), e a2 (by simp), e a3 (by simp), e a4 (by simp), e a5 (by simp), e a6 (by simp), e a7 (by simp), e a8 (by simp), e a9 (by simp), e a10 (by simp), e a11 (by simp), e a12 (by simp)]
  obtain ⟨k, hk⟩ := arr; have top : ∃ k, Tryz.prog.keyLits (d + 3) 152 [.int .i64 a0, .int .i64 a1, .int .i64 a2, .int .i64 a3, .int .i64 a4, .int .i64 a5, .int .i64 a6, .int .i64 a7, .int .i64 a8, .int .i64 a9, .int .i64 a10, .int .i64 a11, .int .i64 a12] = some k := by
   unfold Program.keyLits; rw [Tryz.underlying152]; simp only [cellsOf_cell]; simp [cellsOf_arr, cellsOf_int, e a0 (by simp), hk]
  obtain ⟨k', hk'⟩ := top; unfold keyOf; rw [Tryz.underlying152]; simp only; have hf : (Value.agg (ints [a0, a1, a2, a3, a4, a5, a6, a7, a8, a9, a10, a11, a12]).toArray).formed Tryz.prog 152 = true := by
   simp [Value.formed, Tryz.underlying152, cellsOf_cell, ints]
  rw [keyType_cell, hf, hd]; simp only [Bool.and_self, if_true]; rw [show (Value.agg (ints [a0, a1, a2, a3, a4, a5, a6, a7, a8, a9, a10, a11, a12]).toArray).cells.toList = [.int .i64 a0, .int .i64 a1, .int .i64 a2, .int .i64 a3, .int .i64 a4, .int .i64 a5, .int .i64 a6, .int .i64 a7, .int .i64 a8, .int .i64 a9, .int .i64 a10, .int .i64 a11, .int .i64 a12] from rfl, hk']; exact ⟨_, rfl⟩
def KeysAt (w : World) (g : Nat) (Ks : List (List Int)) : Prop := ∃ D : DataW Unit, w.ownsMap Tryz.prog 152 (plainElem (H := Unit) Tryz.prog 4) g Ks.length D ∧ ∀ (l : List Int) (kl : Lit), l ∉ Ks → keyOf Tryz.prog 152 (.agg (ints l).toArray) = some kl → ∀ z, D.atKey kl z = z
theorem ints_inj : ∀ {a b : List Int}, ints a = ints b → a = b
 | [], [], _ => rfl
 | [], _ :: _, h => by simp [ints] at h
 | _ :: _, [], h => by simp [ints] at h
 | x :: a, y :: b, h => by
  simp only [ints, List.map_cons, List.cons.injEq] at h; obtain ⟨h1, h2⟩ := h; injection h1 with _ h1
  rw [h1, ints_inj h2]
namespace KeysAt
variable {w w' : World} {g : Nat} {Ks : List (List Int)}
theorem made (w : World) : KeysAt (w.alloc (.map #[] 0)) w.heap.size [] :=
 ⟨_, World.ownsMap_made w Tryz.prog 152 (plainElem (H := Unit) Tryz.prog 4), fun _ _ _ _ _ => rfl⟩
theorem lt (h : KeysAt w g Ks) : g < w.heap.size := by
 obtain ⟨D, h1, _⟩ := h
 exact h1.lt
theorem ofBlock (h : KeysAt w g Ks) (e : w'.heap[g]? = w.heap[g]?) : KeysAt w' g Ks := by
 obtain ⟨D, ⟨es, clock, hb, r⟩, h2⟩ := h
 exact ⟨D, ⟨es, clock, e.trans hb, r⟩, h2⟩
theorem but (h : KeysAt w g Ks) {l : List Nat} (k : But l w w') (hg : g ∉ l) : KeysAt w' g Ks := h.ofBlock (k.block g h.lt hg)
theorem ext (h : KeysAt w g Ks) (k : Ext w w') : KeysAt w' g Ks := h.ofBlock (k.block g h.lt)
theorem look (h : KeysAt w g Ks) {l : List Int} (hl : l.length = 13) (hb : ∀ x ∈ l, -9223372036854775808 ≤ x ∧ x ≤ 9223372036854775807) (hn : l ∉ Ks) : (Instr.lookup 149 (.map (some g)) (.agg (ints l).toArray) false).run Tryz.prog w = .ok (.bool false) w := by
 obtain ⟨D, h1, h2⟩ := h
 obtain ⟨kl, hk⟩ := keyOf_cell hl hb
 obtain ⟨v, ps, hrun, hv⟩ := h1.lookup cellKeyed Tryz.underlying149 (Tryz.zeroValue4 w) (plainElem_bool Tryz.underlying4 false) hk
 rw [hrun]
 rw [h2 l kl hn hk] at hv
 rw [plainElem_bool_inv Tryz.underlying4 hv]
theorem put (h : KeysAt w g Ks) {l : List Int} (hl : l.length = 13) (hb : ∀ x ∈ l, -9223372036854775808 ≤ x ∧ x ≤ 9223372036854775807) (hn : Ks.length < maxLen) : ∃ w', (Instr.mapUpdate 149 (.map (some g)) (.agg (ints l).toArray) (.bool true)).run Tryz.prog w = .ok () w' ∧ KeysAt w' g (l :: Ks) ∧ w.mapTurned w' g := by
 obtain ⟨D, h1, h2⟩ := h
 obtain ⟨kl, hk⟩ := keyOf_cell hl hb
 obtain ⟨w', hrun, ho, ht⟩ := h1.store cellKeyed Tryz.underlying149 hn hk (plainElem_bool Tryz.underlying4 true)
 refine ⟨w', hrun, ⟨_, ho, fun l' kl' hm hk' z => ?_⟩, ht⟩
 simp only [List.mem_cons, not_or] at hm
 rw [atKey_put_other (fun e => hm.1 ?_)]
 · exact h2 l' kl' hm.2 hk' z
 · subst e; have h3 := Value.agg.inj (cellKeyed.inj hk' hk); exact ints_inj (List.toArray_inj h3)
end KeysAt
namespace Hp
def bef : Nat → List Tl → Nat → Nat
 | l, [], _ => l
 | l, _ :: _, 0 => l
 | _, t :: r, i + 1 => bef (t.a + 2) r i
def freeOf (L : List Tl) : List Tl := L.filter fun t => t.fr
theorem mem_freeOf {L : List Tl} {t : Tl} : t ∈ freeOf L ↔ t ∈ L ∧ t.fr = true := by simp [freeOf]
theorem links_free {f : Nat → Int} : ∀ {l : Nat} {L : List Tl}, Links f l L 0 → (∀ i t, (freeOf L)[i]? = some t → f (bef l (freeOf L) i) = (t.a : Int)) ∧ f (bef l (freeOf L) (freeOf L).length) = 0
 | l, [], h => ⟨by simp [freeOf], h⟩
 | l, t :: r, h => by
  unfold Links at h
  cases hf : t.fr with
  | false =>
   rw [hf] at h; have e : freeOf (t :: r) = freeOf r := by simp [freeOf, hf]
   rw [e]; exact links_free (by simpa using h)
  | true =>
   rw [hf] at h; simp only [if_true] at h; have e : freeOf (t :: r) = t :: freeOf r := by simp [freeOf, hf]
   obtain ⟨h1, h2⟩ := links_free h.2; rw [e]; refine ⟨fun i u hu => ?_, h2⟩
   cases i with
   | zero =>
    have : t = u := by simpa using hu
    subst this; exact h.1
   | succ i => exact h1 i u (by simpa using hu)
theorem free_far : ∀ {s n : Nat} {L : List Tl}, Lay s L n → Sep L → (freeOf L).Pairwise fun t u => t.a + t.k < u.a
 | _, _, [], _, _ => List.Pairwise.nil
 | s, n, t :: r, h, hs => by
  obtain ⟨h1, h2, h3⟩ := h; have ih := free_far h3 hs.tail
  cases hf : t.fr with
  | false =>
   have e : freeOf (t :: r) = freeOf r := by simp [freeOf, hf]
   rw [e]; exact ih
  | true =>
   have e : freeOf (t :: r) = t :: freeOf r := by simp [freeOf, hf]
   rw [e]; refine List.pairwise_cons.2 ⟨fun u hu => ?_, ih⟩; obtain ⟨hu1, hu2⟩ := mem_freeOf.1 hu
   cases r with
   | nil => cases hu1
   | cons v r =>
    obtain ⟨q1, q2, q3⟩ := h3
    rcases List.mem_cons.1 hu1 with rfl | hu1
    · exact absurd ⟨hf, hu2⟩ hs.1
    · have := q3.mem hu1; omega
structure Frees (f : Nat → Int) (n : Nat) (F : List Tl) : Prop where
 link : ∀ i t, F[i]? = some t → f (bef 16 F i) = (t.a : Int)
 last : f (bef 16 F F.length) = 0
 part : ∀ t ∈ F, 17 ≤ t.a ∧ 3 ≤ t.k ∧ t.a + t.k ≤ n ∧ f t.a = 0 ∧ f (t.a + 1) = t.k ∧ ∀ j, t.a + 3 ≤ j → j < t.a + t.k → f j = 0
 far : ∀ i t u, F[i]? = some t → F[i + 1]? = some u → t.a + t.k < u.a
theorem Parts.frees {f : Nat → Int} {z : List Int} {L : List Tl} {n : Nat} (h : Parts f z L n) : Frees f n (freeOf L) where
 link := (links_free h.links).1
 last := (links_free h.links).2
 part t ht := by
  obtain ⟨h1, h2⟩ := mem_freeOf.1 ht; have := h.lay.mem h1; have := (h.ok t h1).free h2; exact ⟨by omega, by omega, by omega, this.1, this.2.1, this.2.2⟩
 far i t u h1 h2 := by
  have hp := free_far h.lay h.sep; rw [List.pairwise_iff_getElem] at hp; obtain ⟨l1, e1⟩ := List.getElem?_eq_some_iff.1 h1; obtain ⟨l2, e2⟩ := List.getElem?_eq_some_iff.1 h2; have := hp i (i + 1) l1 l2 (by omega); rw [e1, e2] at this; exact this
end Hp
namespace Hp
def PathV (f : Nat → Int) : Int → List Nat → Prop
 | x, [] => x = 0
 | x, a :: r => x = (a : Int) ∧ a ≠ 0 ∧ PathV f (f (a + 3)) r
theorem Path.v {f : Nat → Int} : ∀ {l : Nat} {r : List Nat}, Path f l r → PathV f (f l) r
 | _, [], h => h
 | _, _ :: _, h => ⟨h.1, h.2.1, Path.v h.2.2⟩
end Hp
namespace Hp
theorem lay_len : ∀ {s n : Nat} {L : List Tl}, Lay s L n → s + 3 * L.length ≤ n
 | _, _, [], h => by have : _ = _ := h; simp; omega
 | s, n, t :: r, h => by
  have := lay_len h.2.2; have := h.2.1; simp only [List.length_cons]; omega
theorem Wf.nodup {S : Hs} {B : Nat} {L : List Tl} {ch : Nat → List Nat} (h : Wf S B L ch) : S.taken.Nodup := h.up.imp fun h => by omega
end Hp
namespace Hp
def prodM (l : List Int) : Int := l.foldl (fun n s => min 3000 (n * s)) 1
theorem prodM_snoc (l : List Int) (x : Int) : prodM (l ++ [x]) = min 3000 (prodM l * x) := by simp [prodM, List.foldl_append]
theorem prod_min : ∀ (l : List Int) (a : Int), (∀ s ∈ l, 1 ≤ s ∧ s ≤ 12) → 1 ≤ a → l.foldl (fun n s => min 3000 (n * s)) (min 3000 a) = min 3000 (l.foldl (· * ·) a) ∧ 1 ≤ l.foldl (· * ·) a
 | [], a, _, ha => ⟨rfl, ha⟩
 | x :: l, a, h, ha => by
  obtain ⟨h1, h2⟩ := h x (by simp); have hx : 1 ≤ a * x := by
   have := Int.mul_le_mul ha h1 (by omega) (by omega); omega
  obtain ⟨i1, i2⟩ := prod_min l (a * x) (fun s hs => h s (by simp [hs])) hx; refine ⟨?_, i2⟩; simp only [List.foldl_cons]; rw [show min 3000 (min 3000 a * x) = min 3000 (a * x) from ?_]
  · exact i1
  · by_cases hc : a ≤ 3000
    · rw [Int.min_eq_right hc]
    · rw [Int.min_eq_left (show (3000 : Int) ≤ a by omega)]; have e1 : (3000 : Int) ≤ 3000 * x := by omega
      have e2 : (3000 : Int) ≤ a * x := by
       have := Int.mul_le_mul (show (3000 : Int) ≤ a by omega) h1 (by omega) (by omega); omega
      rw [Int.min_eq_left e1, Int.min_eq_left e2]
theorem prodM_is {l : List Int} (h : ∀ s ∈ l, 1 ≤ s ∧ s ≤ 12) : prodM l = min 3000 (l.foldl (· * ·) 1) ∧ 1 ≤ l.foldl (· * ·) 1 := by
 have := prod_min l 1 h (by omega)
 exact this
theorem prodM_big {l : List Int} (h : ∀ s ∈ l, 1 ≤ s ∧ s ≤ 12) : prodM l > 2000 ↔ l.foldl (· * ·) 1 > 2000 := by
 rw [(prodM_is h).1]
 omega
def OrdTo (n : Nat) (o : List Int) (i : Nat) : Prop := ∀ k x, k < i → rd o k = some x → (0 ≤ x ∧ x ≤ (n : Int) - 1) ∧ ∀ m y, m < k → rd o m = some y → y ≠ x
def OrdOk (n : Nat) (o : List Int) : Prop := o.length = n ∧ OrdTo n o n
theorem OrdOk.nodup {n : Nat} {o : List Int} (h : OrdOk n o) : o.Nodup := by
 rw [List.nodup_iff_pairwise_ne, List.pairwise_iff_getElem]
 intro i j hi hj hij e
 have := (h.2 j o[j] (by have := h.1; omega) (by unfold rd; rw [List.getElem?_eq_getElem])).2 i o[i] hij (by unfold rd; rw [List.getElem?_eq_getElem])
 exact this e
theorem OrdOk.rng {n : Nat} {o : List Int} (h : OrdOk n o) : ∀ x ∈ o, 0 ≤ x ∧ x < n := fun x hx => by
 obtain ⟨i, hi, rfl⟩ := List.getElem_of_mem hx
 have := (h.2 i o[i] (by have := h.1; omega) (by unfold rd; rw [List.getElem?_eq_getElem])).1
 omega
theorem mem_upto {n : Nat} {x : Int} : x ∈ upto n ↔ 0 ≤ x ∧ x < n := by
 unfold upto
 rw [List.mem_map]
 constructor
 · rintro ⟨k, hk, rfl⟩; have := List.mem_range.1 hk; omega
 · intro h; exact ⟨x.toNat, List.mem_range.2 (by omega), by omega⟩
theorem nodup_lenI : ∀ {l m : List Int}, l.Nodup → (∀ a ∈ l, a ∈ m) → l.length ≤ m.length
 | [], _, _, _ => Nat.zero_le _
 | a :: r, m, hp, hm => by
  have ha : a ∈ m := hm a (by simp); obtain ⟨h1, h2⟩ := List.nodup_cons.1 hp; have := nodup_lenI (l := r) (m := m.erase a) h2 (fun b hb => (List.mem_erase_of_ne (by rintro rfl; exact h1 hb)).2 (hm b (by simp [hb]))); rw [List.length_erase_of_mem ha] at this; have := List.length_pos_of_mem ha; simp only [List.length_cons]; omega
theorem upto_up (n : Nat) : (upto n).Pairwise (· < ·) := by
 unfold upto
 rw [List.pairwise_map]
 exact List.pairwise_lt_range.imp fun h => by omega
theorem full_perm {o : List Int} {n : Nat} (hl : o.length = n) (hn : o.Nodup) (hr : ∀ x ∈ o, 0 ≤ x ∧ x < n) : o.Perm (upto n) := by
 have hsub : ∀ x ∈ upto n, x ∈ o := fun x hx => by
  apply Classical.byContradiction; intro hne; have := nodup_lenI (l := x :: o) (m := upto n) (List.nodup_cons.2 ⟨hne, hn⟩) (fun a ha => by
   rcases List.mem_cons.1 ha with rfl | ha
   · exact hx
   · exact mem_upto.2 (hr a ha))
  rw [upto_length] at this; simp only [List.length_cons] at this; omega
 refine (List.perm_ext_iff_of_nodup hn ((upto_up n).imp fun h => by omega)).2 fun a => ⟨fun ha => mem_upto.2 (hr a ha), hsub a⟩
theorem ordOk_iff {o : List Int} {n : Nat} : OrdOk n o ↔ sortI o = upto n := by
 constructor
 · intro h; refine List.Perm.eq_of_pairwise (le := fun a b : Int => a ≤ b) (fun a b _ _ h1 h2 => by omega) (sorted_sortI o) ((upto_up n).imp fun h => by omega) ((perm_sortI o).trans (full_perm h.1 h.nodup h.rng))
 · intro h; have hp : o.Perm (upto n) := h ▸ (perm_sortI o).symm; have hl : o.length = n := by rw [hp.length_eq, upto_length]
   have hn : o.Nodup := hp.nodup_iff.2 ((upto_up n).imp fun h => by omega); refine ⟨hl, fun k x hk hx => ⟨?_, fun m y hm hy e => ?_⟩⟩
   · have := mem_upto.1 (hp.mem_iff.1 (List.mem_of_getElem? hx)); omega
   · obtain ⟨l1, e1⟩ := List.getElem?_eq_some_iff.1 hx; obtain ⟨l2, e2⟩ := List.getElem?_eq_some_iff.1 hy; rw [List.nodup_iff_pairwise_ne, List.pairwise_iff_getElem] at hn; exact hn m k l2 l1 hm (by rw [e1, e2]; exact e)
theorem frameErr_ok {z o : List Int} (h : frameErr z o = 0) : FrOk z o ∧ z.foldl (· * ·) 1 ≤ 2000 := by
 unfold frameErr at h
 split at h
 · cases h
 · split at h
   · cases h
   · split at h
     · cases h
     · split at h
       · rename_i h1 h2 h3 h4; have ho := ordOk_iff.2 h4; have hp : o.Perm (upto z.length) := h4 ▸ (perm_sortI o).symm; refine ⟨{ few := by omega, pos := fun s hs => ?_, len := ho.1, perm := fun i hi => hp.mem_iff.2 (mem_upto.2 (by omega)), rng := ho.rng, nodup := ho.nodup }, by omega⟩; have h2' : z.all (fun n => decide (1 ≤ n) && decide (n ≤ 12)) = true := by simpa using h2
         have := List.all_eq_true.1 h2' s hs
         simpa using this
       · cases h
end Hp
namespace Hp
theorem lay_same {f g : Nat → Int} {z : List Int} : ∀ {s n : Nat} {L L' : List Tl}, Lay s L n → Lay s L' n → Sep L → Sep L' → (∀ t ∈ L, t.fr = false → t.k = wz z (f t.a)) → (∀ t ∈ L', t.fr = false → t.k = wz z (g t.a)) → adsOf L = adsOf L' → (∀ a ∈ adsOf L, f a = g a) → L = L'
 | s, n, [], L', h, h', _, _, _, _, _, _ => by
  have e : s = n := h
  cases L' with
  | nil => rfl
  | cons t r =>
   obtain ⟨_, h2, h3⟩ := h'; have := h3.le; omega
 | s, n, t :: r, [], h, h', _, _, _, _, _, _ => by
  have e : s = n := h'; obtain ⟨_, h2, h3⟩ := h; have := h3.le; omega
 | s, n, t :: r, t' :: r', h, h', hs, hs', hk, hk', ha, hf => by
  obtain ⟨e1, h2, h3⟩ := h; obtain ⟨e1', h2', h3'⟩ := h'; have eqa : ∀ (u : Tl) (q : List Tl), adsOf (u :: q) = (if u.fr then [] else [u.a]) ++ adsOf q := fun u q => by
   cases hf : u.fr <;> simp [adsOf, hf]
  rw [eqa t r, eqa t' r'] at ha; rw [eqa t r] at hf; have lo : ∀ a ∈ adsOf r, s + t.k ≤ a := fun a ha => by
   obtain ⟨u, hu, _, rfl⟩ := mem_adsOf.1 ha; exact (h3.mem hu).1
  have lo' : ∀ a ∈ adsOf r', s + t'.k ≤ a := fun a ha => by
   obtain ⟨u, hu, _, rfl⟩ := mem_adsOf.1 ha; exact (h3'.mem hu).1
  cases hb : t.fr with
  | false =>
   cases hb' : t'.fr with
   | false =>
    simp only [hb, hb', Bool.false_eq_true, if_false, List.singleton_append, List.cons.injEq] at ha hf; have k1 := hk t (by simp) hb; have k2 := hk' t' (by simp) hb'; have ft := hf t.a (by simp); rw [ha.1] at ft k1; rw [ft, ← k2] at k1; rw [k1] at h3; have ih := lay_same h3 h3' hs.tail hs'.tail (fun u hu => hk u (by simp [hu])) (fun u hu => hk' u (by simp [hu])) ha.2 (fun a h => hf a (by simp [h])); rw [ih]
    congr 1
    obtain ⟨a, k, fr⟩ := t; obtain ⟨a', k', fr'⟩ := t'; simp only at *; subst hb hb' k1; rw [ha.1]
   | true =>
    simp only [hb, hb', Bool.false_eq_true, if_false, if_true, List.singleton_append, List.nil_append] at ha; have := lo' t.a (by rw [← ha]; simp); omega
  | true =>
   cases hb' : t'.fr with
   | false =>
    simp only [hb, hb', Bool.false_eq_true, if_false, if_true, List.singleton_append, List.nil_append] at ha; have := lo t'.a (by rw [ha]; simp); omega
   | true =>
    simp only [hb, hb', if_true, List.nil_append] at ha hf; have key : t.k = t'.k := by
     cases r with
     | nil =>
      have e : s + t.k = n := h3
      cases r' with
      | nil =>
       have e' : s + t'.k = n := h3'; omega
      | cons u' q' =>
       have hu : u'.fr = false := by
        cases hq : u'.fr with
        | false => rfl
        | true => exact absurd ⟨hb', hq⟩ hs'.1
       rw [eqa u' q'] at ha; simp [hu, adsOf] at ha
     | cons u q =>
      have hu : u.fr = false := by
       cases hq : u.fr with
       | false => rfl
       | true => exact absurd ⟨hb, hq⟩ hs.1
      cases r' with
      | nil =>
       rw [eqa u q] at ha; simp [hu, adsOf] at ha
      | cons u' q' =>
       have hu' : u'.fr = false := by
        cases hq : u'.fr with
        | false => rfl
        | true => exact absurd ⟨hb', hq⟩ hs'.1
       rw [eqa u q, eqa u' q'] at ha; simp only [hu, hu', Bool.false_eq_true, if_false, List.singleton_append, List.cons.injEq] at ha; have := h3.1; have := h3'.1; omega
    rw [key] at h3; have ih := lay_same h3 h3' hs.tail hs'.tail (fun u hu => hk u (by simp [hu])) (fun u hu => hk' u (by simp [hu])) ha hf; rw [ih]
    congr 1
    obtain ⟨a, k, fr⟩ := t; obtain ⟨a', k', fr'⟩ := t'; simp only at *; subst hb hb' key; rw [e1, e1']
theorem path_same {f g : Nat → Int} : ∀ {r : List Nat} {l l' : Nat}, Path f l r → Path g l' r → f l = g l' ∧ ∀ a ∈ r, f (a + 3) = g (a + 3)
 | [], l, l', h, h' => by
  have e : f l = 0 := h; have e' : g l' = 0 := h'; exact ⟨by omega, by simp⟩
 | b :: r, l, l', h, h' => by
  obtain ⟨h1, _, h3⟩ := h; obtain ⟨h1', _, h3'⟩ := h'; obtain ⟨k1, k2⟩ := path_same h3 h3'; refine ⟨by omega, fun a ha => ?_⟩
  rcases List.mem_cons.1 ha with rfl | ha
  · exact k1
  · exact k2 a ha
theorem Lay.cover : ∀ {s n j : Nat} {L : List Tl}, Lay s L n → s ≤ j → j < n → ∃ t ∈ L, t.a ≤ j ∧ j < t.a + t.k
 | s, n, j, [], h, h1, h2 => by
  have e : s = n := h; omega
 | s, n, j, t :: r, h, h1, h2 => by
  obtain ⟨e, hk, hr⟩ := h
  by_cases hj : j < s + t.k
  · exact ⟨t, by simp, by omega, by omega⟩
  · obtain ⟨u, hu, k⟩ := hr.cover (by omega) h2; exact ⟨u, by simp [hu], k⟩
theorem cnt_eq {f g : Nat → Int} {z : List Int} {a : Nat} : ∀ {Src : List Nat}, (∀ b ∈ Src, kz f z b = kz g z b) → cnt f z a Src = cnt g z a Src
 | [], _ => rfl
 | b :: r, h => by
  unfold cnt; rw [h b (by simp), cnt_eq fun c hc => h c (by simp [hc])]
end Hp
namespace Hp
end Hp
namespace Hp
end Hp
end Go.Proofs.YtdokmmhjmclmnaaGreat
