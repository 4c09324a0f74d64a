/-
  Part 17 of a proof: PL6 PL7 RegPlan HFn32 HFn33.
-/
import Derived.Test.YtdokmmhjmclmnaaGreatMP06
import Derived.Test.YtdokmmhjmclmnaaGreatMP08
import Derived.Test.YtdokmmhjmclmnaaGreatMP10
import Derived.Test.YtdokmmhjmclmnaaGreatMP16
set_option linter.unusedSimpArgs false
set_option linter.unusedVariables false
set_option linter.unusedSectionVars false
set_option linter.unnecessarySimpa false
namespace Go.Proofs.YtdokmmhjmclmnaaGreat
namespace Hp
structure New (S : Hs) (t : Int) (fs : List Int) : Prop where
 tag : okTag S.sizes t = true
 len : fs.length = wz S.sizes t - 4
 ends : isEnd t = true → ∀ x ∈ fs, -9999 ≤ x ∧ x ≤ 9999 ∧ (20 < t → x = 0)
 kids : isEnd t = false → ∀ x ∈ fs, ∃ b ∈ S.taken, x = (b : Int) ∧ rank S.order t < rank S.order (ow S.words b)
 flat : isEnd t = false → Hs.alike fs = false
def ksOf (t : Int) (fs : List Int) : List Int := if isEnd t then [] else fs
structure Put (S S' : Hs) (t : Int) (fs : List Int) (a : Nat) : Prop where
 sizes : S'.sizes = S.sizes
 order : S'.order = S.order
 len : S'.words.length = S.words.length
 taken : S'.taken = Hs.insert a S.taken
 new : a ∉ S.taken
 tag : ow S'.words a = t
 fs : fz (ow S'.words) S.sizes a = fs
 one : ow S'.words (a + 1) = 0
 two : ow S'.words (a + 2) = 0
 old : Same (ow S.words) (ow S'.words) S.sizes S.taken
 hold : ∀ b ∈ S.taken, ow S'.words (b + 2) = ow S.words (b + 2)
theorem ck_of {S : Hs} {B : Nat} {L : List Tl} {ch : Nat → List Nat} (h : Wf S B L ch) {t : Int} {fs : List Int} (hn : New S t fs) : chain t fs = some (cz t fs) := by
 have h1 := okTag_le h.fr.toFr hn.tag
 have h2 := wz_ok h.fr.toFr hn.tag
 refine chain_cz (by omega) (fun x hx => ?_) (by rw [hn.len]; omega)
 cases he : isEnd t with
 | true => have := hn.ends he x hx; omega
 | false =>
  obtain ⟨b, hb, rfl, _⟩ := hn.kids he x hx; have := h.part hb; have := h.hi; omega
theorem getD_cut {fs : List Int} {i : Nat} {g : Nat → Int} (h : ∀ k, k < fs.length → g (i + k) = fs.getD k 0) : cut g i fs.length = fs := by
 apply List.ext_getElem?
 intro k
 by_cases hk : k < fs.length
 · rw [cut_get hk, h k hk, List.getElem?_eq_getElem hk]; simp [List.getD, List.getElem?_eq_getElem hk]
 · rw [List.getElem?_eq_none (by rw [cut_length]; omega), List.getElem?_eq_none (by omega)]
theorem Links.move {f g : Nat → Int} : ∀ {l l' : Nat} {L : List Tl} {x : Int}, Links f l L x → g l' = f l → (∀ t ∈ L, t.fr = true → g (t.a + 2) = f (t.a + 2)) → Links g l' L x
 | _, _, [], _, h, e, _ => e.trans h
 | l, l', t :: r, x, h, e, hm => by
  unfold Links at h ⊢
  cases hf : t.fr
  · rw [hf] at h; simp only [Bool.false_eq_true, if_false] at h ⊢; exact Links.move h e fun u hu => hm u (by simp [hu])
  · rw [hf] at h; simp only [if_true] at h ⊢; exact ⟨e.trans h.1, Links.move h.2 (hm t (by simp) hf) fun u hu => hm u (by simp [hu])⟩
theorem Path.move {f g : Nat → Int} : ∀ {l l' : Nat} {r : List Nat}, Path f l r → g l' = f l → (∀ a ∈ r, g (a + 3) = f (a + 3)) → Path g l' r
 | _, _, [], h, e, _ => e.trans h
 | _, _, a :: r, h, e, hm => ⟨e.trans h.1, h.2.1, Path.move h.2.2 (hm a (by simp)) fun b hb => hm b (by simp [hb])⟩
theorem Sep.cons {t : Tl} {Q : List Tl} : Sep (t :: Q) ↔ ¬ (t.fr = true ∧ hdF Q = true) ∧ Sep Q := by
 cases Q with
 | nil => simp [Sep, hdF]
 | cons u r => rfl
theorem cnt_zero {f : Nat → Int} {z : List Int} {a : Nat} : ∀ {Src : List Nat}, (∀ b ∈ Src, ∀ x ∈ kz f z b, x ≠ (a : Int)) → cnt f z a Src = 0
 | [], _ => rfl
 | b :: r, h => by
  unfold cnt; rw [cnt_zero fun c hc => h c (by simp [hc]), List.count_eq_zero.2 fun hm => h b (by simp) _ hm rfl]
theorem takeF_out {f : Nat → Int} {link wide j : Nat} {t : Tl} (hf : Fits wide t) (hj : j < t.a ∨ t.a + t.k ≤ j) (hl : j ≠ link) : takeF f link t wide j = f j := by
 unfold Fits at hf
 unfold takeF
 rw [if_neg (show ¬ (t.a ≤ j ∧ j < t.a + wide) by omega)]
 by_cases hk : t.k = wide
 · rw [if_pos hk, if_neg hl]
 · rw [if_neg hk, if_neg hl, if_neg (show ¬ j = t.a + wide + 2 by omega), if_neg (show ¬ j = t.a + wide + 1 by omega), if_neg (show ¬ j = t.a + wide by omega)]
theorem use_bd {x n : Int} (h1 : 0 ≤ x) (h2 : x ≤ 100000) (h3 : 0 ≤ n) (h4 : n ≤ 100) : -1000000000 + n ≤ x ∧ x + n ≤ 1000000000 := by omega
theorem lastL_where {l : Nat} {L : List Tl} : lastL l L = l ∨ ∃ t ∈ L, t.fr = true ∧ lastL l L = t.a + 2 := lastL_is
set_option maxHeartbeats 2000000 in
theorem add_wf {S : Hs} {B : Nat} {L : List Tl} {ch : Nat → List Nat} (h : Wf S B L ch) {t : Int} {fs : List Int} (hn : New S t fs) :
    (∃ a ∈ S.taken, ow S.words a = t ∧ fz (ow S.words) S.sizes a = fs ∧ S.add t fs = some (a, S)) ∨
    (∀ a ∈ S.taken, ¬ (ow S.words a = t ∧ fz (ow S.words) S.sizes a = fs)) ∧
     (((∀ u ∈ L, u.fr = true → ¬ Fits (wz S.sizes t) u) ∧ S.add t fs = some (0, S)) ∨
      ∃ P u Q S', L = P ++ u :: Q ∧ (∀ v ∈ P, v.fr = true → ¬ Fits (wz S.sizes t) v) ∧ u.fr = true ∧ Fits (wz S.sizes t) u ∧ S.add t fs = some (u.a, S') ∧ Put S S' t fs u.a ∧
       Wf S' B (P ++ ⟨u.a, wz S.sizes t, false⟩ :: ((if u.k = wz S.sizes t then [] else [⟨u.a + wz S.sizes t, u.k - wz S.sizes t, true⟩]) ++ Q)) (fun c => if c = cz t fs then u.a :: ch c else ch c)) := by
  have hck := ck_of h hn; have hlen := hn.len; have hwz := wz_ok h.fr.toFr hn.tag; have hlo := h.lo; have hhi := h.hi
  rcases look_spec h hck (cz_lt _ _) with ⟨a, ha, h1, h2, h3⟩ | ⟨hmiss, h3⟩
  · left; refine ⟨a, ha, h1, h2, ?_⟩; have := h.part ha; unfold Hs.add; rw [h3]; simp only [Option.bind_eq_bind, Option.bind_some]; rw [if_pos (by omega)]
  · right; refine ⟨hmiss, ?_⟩
    have hadd : S.add t fs = (do
        let (a, W) ← S.take (wz S.sizes t)
        if a = 0 then some (0, { S with words := W }) else
        let x ← rd W (cz t fs)
        let W ← wr (← wr W a t) (a + 3) x
        let W ← lay W (a + 4) fs
        let W ← wr W (cz t fs) a
        let S1 : Hs := { S with words := W, taken := Hs.insert a S.taken }
        let W ← Hs.use 1 (← S1.kids a).length (a + 4) W
        some (a, { S1 with words := W })) := by
      unfold Hs.add; rw [h3, hwz.1, hck]; simp only [Option.bind_eq_bind, Option.bind_some]; rfl
    have hLl := lay_len_ h.parts.lay
    rcases first_fit (wz S.sizes t) L with hf | ⟨P, u, Q, hL, hP, hu, hfit⟩
    · left; refine ⟨hf, ?_⟩; have e := takeFrom_miss (W := S.words) (z := S.sizes) (wide := wz S.sizes t) hhi L 16 S.fuel 17 h.parts.links h.parts.lay h.parts.ok (by omega) (by omega) hf (by unfold Hs.fuel; omega); rw [hadd]; unfold Hs.take; rw [e]; rfl
    · right; subst hL; obtain ⟨W1, e1, l1, g1⟩ := takeFrom_hit (W := S.words) (z := S.sizes) (wide := wz S.sizes t) hhi hwz.2.1 hu hfit P 16 S.fuel 17 h.parts.links h.parts.lay h.parts.ok (by omega) (by omega) hP (by simp only [List.length_append, List.length_cons] at hLl; unfold Hs.fuel; omega); have hk : S.take (wz S.sizes t) = some (u.a, W1) := e1; obtain ⟨lP, l3, lQ⟩ := h.parts.lay.parts; have hum := h.parts.lay.mem (t := u) (by simp); have hll := lastL_lt lP (l := 16) (by omega); have huk : wz S.sizes t ≤ u.k := by unfold Fits at hfit; omega
      obtain ⟨um1, um2, um3⟩ := hum; have hc16 := cz_lt t fs; generalize hw0 : wz S.sizes t = wd at *; generalize hc0 : cz t fs = c at *; generalize ha0 : u.a = a at *; generalize hlk : lastL 16 P = link at *; obtain ⟨W2, e2, l2, g2⟩ := wr_ow (W := W1) (i := a) t (by omega); obtain ⟨W3, e3, l3', g3⟩ := wr_ow (W := W2) (i := a + 3) (ow W1 c) (by omega); obtain ⟨W4, e4, l4, g4⟩ := lay_ow (W := W3) (i := a + 4) (l := fs) (by omega); obtain ⟨W5, e5, l5, g5⟩ := wr_ow (W := W4) (i := c) (a : Int) (by omega); have hfl : fs.length = wd - 4 := hlen
      -- the words behind all this
      have G : ∀ j, ow W5 j = if j = c then (a : Int) else if a + 4 ≤ j ∧ j < a + wd then fs.getD (j - (a + 4)) 0 else if j = a + 3 then ow S.words c else if j = a then t else takeF (ow S.words) link u wd j := fun j => by
       rw [g5, g4, g3, g2]; have ec : ow W1 c = ow S.words c := by
        rw [g1]; exact takeF_out hfit (by omega) (by omega)
       rw [ec, ← g1]; simp only [show a + 4 + fs.length = a + wd by omega]
      have hkids : Hs.kids { S with words := W5, taken := Hs.insert a S.taken } a = some (ksOf t fs) := by
       have et : ow W5 a = t := by
        rw [G, if_neg (by omega), if_neg (by omega), if_neg (by omega), if_pos rfl]
       have := kids_ow (S := { S with words := W5, taken := Hs.insert a S.taken }) (a := a) h.fr.toFr (by show okTag S.sizes (ow W5 a) = true; rw [et]; exact hn.tag) (by show a + wz S.sizes (ow W5 a) ≤ W5.length; rw [et, hw0]; omega); rw [this]; unfold kz ksOf; show some (if isEnd (ow W5 a) = true then [] else fz (ow W5) S.sizes a) = _; rw [et]
       congr 1
       split
       · rfl
       · unfold fz; rw [et, hw0, ← hfl]; exact getD_cut fun k hk => by
          rw [G, if_neg (by omega), if_pos (by omega)]
          congr 1
          omega
      have hks : ∀ x ∈ ksOf t fs, ∃ b ∈ S.taken, x = (b : Int) ∧ rank S.order t < rank S.order (ow S.words b) := by
       intro x hx; unfold ksOf at hx
       cases he : isEnd t with
       | true => rw [he] at hx; simp at hx
       | false =>
        rw [he] at hx; exact hn.kids he x (by simpa using hx)
      have hksl : (ksOf t fs).length ≤ wd - 4 := by
       unfold ksOf
       split
       · simp
       · omega
      have huL : u ∈ P ++ u :: Q := by simp
      have uap : ∀ b ∈ S.taken, b + wz S.sizes (ow S.words b) ≤ a ∨ a + u.k ≤ b := fun b hb => by
       have := h.apart hb huL hu; rw [ha0] at this; exact this
      have linkP : link = 16 ∨ ∃ v ∈ P, v.fr = true ∧ link = v.a + 2 := by
       rw [← hlk]; exact lastL_where
      have linkC : ∀ b ∈ S.taken, ∀ i, i < wz S.sizes (ow S.words b) → b + i ≠ link := fun b hb i hi => by
       have := h.part hb
       rcases linkP with e | ⟨v, hv, hvf, e⟩
       · omega
       · have := h.apart hb (t := v) (by simp [hv]) hvf; have := h.parts.lay.mem (t := v) (by simp [hv]); omega
      have G0 : ∀ b ∈ S.taken, ∀ i, i < wz S.sizes (ow S.words b) → ow W5 (b + i) = ow S.words (b + i) := fun b hb i hi => by
       have h1 := h.part hb; have h2 := uap b hb; have h3 := linkC b hb i hi; rw [G, if_neg (by omega), if_neg (by omega), if_neg (by omega), if_neg (by omega)]; exact takeF_out hfit (by omega) h3
      have cutk : cut (ow W5) (a + 4) (ksOf t fs).length = ksOf t fs := by
       unfold ksOf
       split
       · rfl
       · exact getD_cut fun k hk => by
           rw [G, if_neg (by omega), if_pos (by omega)]
           congr 1
           omega
      have hks12 : ((ksOf t fs).length : Int) ≤ 100 := by omega
      have hks0 : (0 : Int) ≤ ((ksOf t fs).length : Int) := by omega
      obtain ⟨W6, e6, l6, g6⟩ := use_spec 1 (by omega) (ksOf t fs).length (a + 4) W5 (by omega) (fun i hi => by
       have hm : ow W5 (a + 4 + i) ∈ ksOf t fs := by
        rw [← cutk]; exact mem_cut.2 ⟨i, hi, rfl⟩
       obtain ⟨b, hb, e, _⟩ := hks _ hm; have h1 := h.part hb; have h2 := uap b hb; have h3 := h.uses_le hb; have h4 := G0 b hb 1 (by omega); rw [← h4] at h3; have h5 := use_bd h3.1 h3.2 hks0 hks12; have h6 : b + 1 < W5.length := by clear h3 h4 h5; omega
       have h7 : b + 1 < a + 4 ∨ a + 4 + (ksOf t fs).length ≤ b + 1 := by clear h3 h4 h5; omega
       exact ⟨b, e, h6, h7, h5⟩)
      rw [cutk] at g6; have g6' : ∀ x, (∀ b ∈ S.taken, x ≠ b + 1) → ow W6 x = ow W5 x := fun x hx => by
       rw [g6, List.count_eq_zero.2]
       · simp
       · intro hm; obtain ⟨b, hb, e, _⟩ := hks _ hm; exact hx b hb (by omega)
      have F1 : ∀ b ∈ S.taken, ∀ i, i < wz S.sizes (ow S.words b) → i ≠ 1 → ow W6 (b + i) = ow S.words (b + i) := fun b hb i hi h1 => by
       rw [g6' _ fun b' hb' => h.ne hb hb' hi (by have := h.part hb'; omega) (.inr h1)]; exact G0 b hb i hi
      have F2 : ∀ b ∈ S.taken, ow W6 (b + 1) = ow S.words (b + 1) + ((ksOf t fs).count (b : Int) : Nat) := fun b hb => by
       rw [g6, G0 b hb 1 (by have := h.part hb; omega)]
       push_cast
       rw [show (b : Int) + 1 - 1 = b by omega]; omega
      have F3 : ∀ j, a ≤ j → j < a + u.k → ow W6 j = ow W5 j := fun j h1 h2 => g6' _ fun b hb => by
       have := uap b hb; have := h.part hb; omega
      have F4 : ∀ j, j < 18 → ow W6 j = ow W5 j := fun j h1 => g6' _ fun b hb => by
       have := h.part hb; omega
      have F5 : ∀ v ∈ P ++ u :: Q, v.fr = true → ∀ j, v.a ≤ j → j < v.a + v.k → ow W6 j = ow W5 j := fun v hv hf j h1 h2 => g6' _ fun b hb => by
       have := h.apart hb hv hf; have := h.part hb; omega
      have hold : Same (ow S.words) (ow W6) S.sizes S.taken := fun b hb => by
       have := h.part hb; refine ⟨by simpa using F1 b hb 0 (by omega) (by omega), fun i hi => ?_⟩; have := F1 b hb (4 + i) (by omega) (by omega); rw [← Nat.add_assoc] at this; exact this
      have hnew : a ∉ S.taken := fun ha => by
       have := uap a ha; have := h.part ha; omega
      have nt : ow W6 a = t := by
       rw [F3 a (by omega) (by omega), G, if_neg (by omega), if_neg (by omega), if_neg (by omega), if_pos rfl]
      have nf : fz (ow W6) S.sizes a = fs := by
       unfold fz; rw [nt, hw0, ← hfl]; exact getD_cut fun k hk => by
        rw [F3 _ (by omega) (by omega), G, if_neg (by omega), if_pos (by omega)]
        congr 1
        omega
      have nk : kz (ow W6) S.sizes a = ksOf t fs := by
       unfold kz ksOf; rw [nt, nf]
      have n1 : ow W6 (a + 1) = 0 := by
       rw [F3 _ (by omega) (by omega), G, if_neg (by omega), if_neg (by omega), if_neg (by omega), if_neg (by omega)]; unfold takeF; rw [ha0, if_pos (by omega)]
      have n2 : ow W6 (a + 2) = 0 := by
       rw [F3 _ (by omega) (by omega), G, if_neg (by omega), if_neg (by omega), if_neg (by omega), if_neg (by omega)]; unfold takeF; rw [ha0, if_pos (by omega)]
      have n3 : ow W6 (a + 3) = ow S.words c := by
       rw [F3 _ (by omega) (by omega), G, if_neg (by omega), if_neg (by omega), if_pos rfl]
      have hc : ow W6 c = (a : Int) := by rw [F4 _ (by omega), G, if_pos rfl]
      have TK : ∀ j, (j < a ∨ a + wd ≤ j) → j ≠ c → ow W5 j = takeF (ow S.words) link u wd j := fun j h1 h2 => by
       rw [G, if_neg h2, if_neg (by omega), if_neg (by omega), if_neg (by omega)]
      have hh : ∀ c', c' < 16 → c' ≠ c → ow W6 c' = ow S.words c' := fun c' h1 h2 => by
       rw [F4 _ (by omega), TK _ (by omega) h2]; exact takeF_out hfit (by omega) (by omega)
      -- free parts but this one
      have FV : ∀ v ∈ P ++ u :: Q, v.fr = true → v ≠ u → ∀ j, v.a ≤ j → j < v.a + v.k → j ≠ link → ow W6 j = ow S.words j := fun v hv hf hne j h1 h2 h3 => by
       have hm := h.parts.lay.mem hv; have hs := h.parts.lay.sep hv huL; rw [ha0] at hs; have hs : v.a + v.k ≤ a ∨ a + u.k ≤ v.a := by
        rcases hs with e | e
        · exact absurd e hne
        · exact e
       rw [F5 v hv hf j h1 h2, TK _ (by omega) (by omega)]; exact takeF_out hfit (by omega) h3
      have PNE : ∀ v ∈ P, v ≠ u ∧ v.a + v.k ≤ a := fun v hv => by
       have := lP.mem hv; refine ⟨fun e => ?_, this.2.1⟩; rw [e, ha0] at this; omega
      have QNE : ∀ v ∈ Q, v ≠ u ∧ a + u.k ≤ v.a := fun v hv => by
       have := lQ.mem hv; refine ⟨fun e => ?_, this.1⟩; rw [e, ha0] at this; omega
      obtain ⟨k1, k2⟩ := Links.app.1 h.parts.links; rw [hlk] at k2; simp only [Links, hu, if_true, ha0] at k2; have hlink : ow W6 link = if u.k = wd then ow S.words (a + 2) else ((a + wd : Nat) : Int) := by
       have e : ow W6 link = ow W5 link := by
        rcases linkP with e | ⟨v, hv, hvf, e⟩
        · exact F4 _ (by omega)
        · have := h.parts.lay.mem (t := v) (by simp [hv]); exact F5 v (by simp [hv]) hvf _ (by omega) (by omega)
       rw [e, TK _ (by omega) (by omega)]; unfold takeF; rw [ha0, if_neg (by omega)]
       split
       · rw [if_pos rfl]
       · rw [if_pos rfl]
      obtain ⟨s1, s2, s3⟩ := Sep.app.1 h.parts.sep; obtain ⟨s4, s5⟩ := Sep.cons.1 s2; generalize hR : (if u.k = wd then ([] : List Tl) else [⟨a + wd, u.k - wd, true⟩]) = R; have hRo : R = [] ∧ u.k = wd ∨ R = [⟨a + wd, u.k - wd, true⟩] ∧ wd + 3 ≤ u.k := by
       rw [← hR]
       split
       · rename_i e; exact .inl ⟨rfl, e⟩
       · exact .inr ⟨rfl, by unfold Fits at hfit; omega⟩
      have hlay : Lay 17 (P ++ ⟨a, wd, false⟩ :: (R ++ Q)) S.words.length := by
       refine Lay.app.2 ⟨a, lP, rfl, by show 3 ≤ wd; omega, ?_⟩; show Lay (a + wd) (R ++ Q) _
       rcases hRo with ⟨e, e'⟩ | ⟨e, e'⟩
       · rw [e, ← e']; exact lQ
       · rw [e]; refine ⟨rfl, by show 3 ≤ u.k - wd; omega, ?_⟩; show Lay (a + wd + (u.k - wd)) Q _; rw [show a + wd + (u.k - wd) = a + u.k by omega]; exact lQ
      have hads : adsOf (P ++ ⟨a, wd, false⟩ :: (R ++ Q)) = adsOf P ++ a :: adsOf Q := by
       have e1 : adsOf R = [] := by rcases hRo with ⟨e, _⟩ | ⟨e, _⟩ <;> rw [e] <;> rfl
       rw [adsOf_app]; show adsOf P ++ (adsOf ([⟨a, wd, false⟩] ++ (R ++ Q))) = _; rw [adsOf_app, adsOf_app, e1]; rfl
      have htk0 : S.taken = adsOf P ++ adsOf Q := by
       rw [h.taken, adsOf_app]; show adsOf P ++ adsOf ([u] ++ Q) = _; rw [adsOf_app]; simp [adsOf, hu]
      have htk : Hs.insert a S.taken = adsOf (P ++ ⟨a, wd, false⟩ :: (R ++ Q)) := by
       refine up_ext (up_insert h.up) (adsOf_up hlay) fun x => ?_
       rw [mem_insert, hads, htk0]; simp only [List.mem_append, List.mem_cons]; constructor
       · rintro (h | h | h)
         · exact .inr (.inl h)
         · exact .inl h
         · exact .inr (.inr h)
       · rintro (h | h | h)
         · exact .inr (.inl h)
         · exact .inl h
         · exact .inr (.inr h)
      have ml : ∀ b, b ∈ Hs.insert a S.taken ↔ b = a ∨ b ∈ S.taken := fun b => mem_insert
      have PUT : Put S { S with words := W6, taken := Hs.insert a S.taken } t fs a := ⟨rfl, rfl, by show W6.length = _; omega, rfl, hnew, nt, nf, n1, n2, hold, fun b hb => F1 b hb 2 (by have := h.part hb; omega) (by omega)⟩
      refine ⟨P, u, Q, { S with words := W6, taken := Hs.insert a S.taken }, rfl, hP, hu, hfit, ?_, by rw [ha0]; exact PUT, ?_⟩
      · rw [hadd, hk, ha0]; simp only [Option.bind_eq_bind, Option.bind_some]; rw [if_neg (by omega : ¬ a = 0), rd_ow (by omega : c < W1.length)]; simp only [Option.bind_some, e2, e3, e4, e5, hkids, e6]
      · rw [ha0, hR]; have hl6 : W6.length = S.words.length := by omega
        exact
        { fr := h.fr
          lo := by show 20 ≤ W6.length; omega
          hi := by show W6.length ≤ 100000; omega
          bd := h.bd
          parts := by
           show Parts (ow W6) S.sizes _ W6.length; rw [hl6]; refine ⟨hlay, Links.app.2 ⟨?_, ?_⟩, Sep.app.2 ⟨s1, Sep.cons.2 ⟨by simp, ?_⟩, by simp [hdF]⟩, fun v hv => ?_⟩
           · refine k1.turn _ lP (by omega) ?_ (fun hne => ?_) fun v hv hf hne => ?_
             · rw [hlk, hlink]; show _ = headF (R ++ Q) 0
               rcases hRo with ⟨e, e'⟩ | ⟨e, e'⟩
               · rw [if_pos e', e]; exact k2.2.head
               · rw [if_neg (by omega), e]; rfl
             · rw [hlk] at hne; rw [F4 _ (by omega), TK _ (by omega) (by omega)]; exact takeF_out hfit (by omega) hne
             · rw [hlk] at hne; have := lP.mem hv; exact FV v (by simp [hv]) hf (PNE v hv).1 _ (by omega) (by omega) hne
           · rw [hlk]; show Links (ow W6) link (R ++ Q) 0; have hq : ∀ v ∈ Q, v.fr = true → ow W6 (v.a + 2) = ow S.words (v.a + 2) := fun v hv hf => by
              have := lQ.mem hv; exact FV v (by simp [hv]) hf (QNE v hv).1 _ (by omega) (by omega) (by omega)
             rcases hRo with ⟨e, e'⟩ | ⟨e, e'⟩
             · rw [e]; rw [if_pos e'] at hlink; exact k2.2.move hlink hq
             · rw [e]; rw [if_neg (by omega)] at hlink; refine ⟨hlink, k2.2.move ?_ hq⟩; show ow W6 (a + wd + 2) = ow S.words (a + 2); rw [F3 _ (by omega) (by omega), TK _ (by omega) (by omega)]; unfold takeF; rw [ha0, if_neg (by omega), if_neg (by omega), if_neg (by omega), if_pos rfl]
           · rcases hRo with ⟨e, e'⟩ | ⟨e, e'⟩
             · rw [e]; exact s5
             · rw [e]; refine Sep.cons.2 ⟨fun hx => s4 ⟨hu, hx.2⟩, s5⟩
           · have hcase : v ∈ P ∨ v = ⟨a, wd, false⟩ ∨ v ∈ R ∨ v ∈ Q := by simpa using hv
             have hold' : ∀ v ∈ P ++ u :: Q, v ≠ u → PartOk (ow W6) S.sizes v := fun v hv hne => by
              refine (h.parts.ok v hv).congr ?_ fun hf => ?_
              · cases hf : v.fr with
                | false =>
                 have hb : v.a ∈ S.taken := by rw [h.taken]; exact mem_adsOf.2 ⟨v, hv, hf, rfl⟩
                 exact (hold _ hb).1
                | true =>
                 have := h.parts.lay.mem hv; refine FV v hv hf hne _ (by omega) (by omega) ?_
                 rcases linkP with e | ⟨v', hv', hvf', e⟩
                 · omega
                 · have h1 := h.parts.lay.mem (t := v') (by simp [hv'])
                   rcases h.parts.lay.sep hv (u := v') (by simp [hv']) with e2 | e2
                   · rw [e2]; omega
                   · omega
              · have hm := h.parts.lay.mem hv; have nl : ∀ j, v.a ≤ j → j < v.a + v.k → j ≠ v.a + 2 → j ≠ link := fun j h1 h2 h3 => by
                 rcases linkP with e | ⟨v', hv', hvf', e⟩
                 · omega
                 · have h1 := h.parts.lay.mem (t := v') (by simp [hv'])
                   rcases h.parts.lay.sep hv (u := v') (by simp [hv']) with e2 | e2
                   · rw [e, ← e2]; omega
                   · omega
                refine ⟨FV v hv hf hne _ (by omega) (by omega) (nl _ (by omega) (by omega) (by omega)), fun j h1 h2 => FV v hv hf hne _ (by omega) (by omega) (nl _ (by omega) (by omega) (by omega))⟩
             rcases hcase with hv | rfl | hv | hv
             · exact hold' v (by simp [hv]) (PNE v hv).1
             · unfold PartOk; simp only [Bool.false_eq_true, if_false]; rw [nt]; exact ⟨hn.tag, hw0.symm⟩
             · rcases hRo with ⟨e, e'⟩ | ⟨e, e'⟩
               · rw [e] at hv; cases hv
               · rw [e] at hv; have : v = ⟨a + wd, u.k - wd, true⟩ := by simpa using hv
                 subst this; have z0 := (h.parts.ok u huL).free hu; rw [ha0] at z0; unfold PartOk; simp only [if_true]; have TT : ∀ j, a + wd ≤ j → j < a + u.k → ow W6 j = takeF (ow S.words) link u wd j := fun j h1 h2 => by
                  rw [F3 _ (by omega) (by omega), TK _ (by omega) (by omega)]
                 refine ⟨?_, ?_, fun j h1 h2 => ?_⟩
                 · rw [TT _ (by omega) (by omega)]; unfold takeF; rw [ha0, if_neg (by omega), if_neg (by omega), if_neg (by omega), if_neg (by omega), if_neg (by omega), if_pos rfl]
                 · rw [TT _ (by omega) (by omega)]; unfold takeF; rw [ha0, if_neg (by omega), if_neg (by omega), if_neg (by omega), if_neg (by omega), if_pos rfl]; omega
                 · rw [TT _ (by omega) (by omega)]; unfold takeF; rw [ha0, if_neg (by omega), if_neg (by omega), if_neg (by omega), if_neg (by omega), if_neg (by omega), if_neg (by omega)]; exact z0.2.2 j (by omega) (by omega)
             · exact hold' v (by simp [hv]) (QNE v hv).1
          taken := htk
          chains := by
           show Chains (ow W6) S.sizes (Hs.insert a S.taken) _; refine ⟨fun c' hc' => ?_, fun c' hc' => ?_, fun c' hc' x => ?_⟩
           · have h3 : ∀ b ∈ ch c', ow W6 (b + 3) = ow S.words (b + 3) := fun b hb => by
               have hb := ((h.chains.mem c' hc' b).1 hb).1; exact F1 b hb 3 (by have := h.part hb; omega) (by omega)
             by_cases e : c' = c
             · subst e; simp only [if_true]; exact ⟨hc, by omega, (h.chains.path _ hc').move n3 h3⟩
             · simp only [if_neg e]; exact (h.chains.path _ hc').congr (hh _ hc' e) h3
           · by_cases e : c' = c
             · subst e; simp only [if_true]; exact List.nodup_cons.2 ⟨fun hm => hnew ((h.chains.mem _ hc' a).1 hm).1, h.chains.nodup _ hc'⟩
             · simp only [if_neg e]; exact h.chains.nodup _ hc'
           · have hx : ∀ b ∈ S.taken, cz (ow W6 b) (fz (ow W6) S.sizes b) = cz (ow S.words b) (fz (ow S.words) S.sizes b) := fun b hb => by rw [(hold b hb).1, hold.fz_ hb]
             rw [ml]
             by_cases exa : x = a
             · subst exa; rw [nt, nf, hc0]
               by_cases e : c' = c
               · subst e; simp
               · simp only [if_neg e]; constructor
                 · intro hm; exact absurd ((h.chains.mem c' hc' x).1 hm).1 hnew
                 · rintro ⟨_, e'⟩; exact absurd e'.symm e
             · have : (x ∈ if c' = c then a :: ch c' else ch c') ↔ x ∈ ch c' := by
                 split
                 · simp [exa]
                 · rfl
               rw [this, h.chains.mem c' hc' x]; constructor
               · rintro ⟨h1, h2⟩; exact ⟨.inr h1, by rw [hx x h1]; exact h2⟩
               · rintro ⟨h1 | h1, h2⟩
                 · exact absurd h1 exa
                 · exact ⟨h1, by rw [← hx x h1]; exact h2⟩
          cells := by
           show Cells (ow W6) S.sizes S.order (Hs.insert a S.taken); have k := hold.cells h.fr.toFr h.cells; refine ⟨fun b hb => ?_, fun b hb => ?_, fun b hb x hx => ?_, fun b hb => ?_, fun b hb b' hb' h1 h2 => ?_⟩
           · rcases (ml b).1 hb with rfl | hb
             · rw [nt]; exact hn.tag
             · exact k.tags b hb
           · rcases (ml b).1 hb with rfl | hb
             · rw [nt]; intro he; have : wd = 5 := by rw [← hw0]; simp [wz, he]
               have e4 : ow W6 (b + 4) = fs.getD 0 0 := by
                rw [F3 _ (by omega) (by omega), G, if_neg (by omega), if_pos (by omega), Nat.sub_self]
               have hm : fs.getD 0 0 ∈ fs := by
                have : 0 < fs.length := by rw [hfl, this]; decide
                rw [List.getD_eq_getElem?_getD, List.getElem?_eq_getElem this]; exact List.getElem_mem this
               rw [e4]; exact hn.ends he _ hm
             · exact k.ends b hb
           · rcases (ml b).1 hb with rfl | hb
             · rw [nk] at hx; obtain ⟨b', hb', e, hr⟩ := hks x hx; exact ⟨b', (ml b').2 (.inr hb'), e, by rw [nt, (hold b' hb').1]; exact hr⟩
             · obtain ⟨b', hb', e, hr⟩ := k.kids b hb x hx; exact ⟨b', (ml b').2 (.inr hb'), e, hr⟩
           · rcases (ml b).1 hb with rfl | hb
             · rw [nt, nf]; exact hn.flat
             · exact k.flat b hb
           · rcases (ml b).1 hb with e1 | hb1 <;> rcases (ml b').1 hb' with e2 | hb2
             · exact e1.trans e2.symm
             · subst e1; rw [nt, (hold b' hb2).1] at h1; rw [nf, hold.fz_ hb2] at h2; exact absurd ⟨h1.symm, h2.symm⟩ (hmiss b' hb2)
             · subst e2; rw [nt, (hold b hb1).1] at h1; rw [nf, hold.fz_ hb1] at h2; exact absurd ⟨h1, h2⟩ (hmiss b hb1)
             · exact k.one b hb1 b' hb2 h1 h2
          uses := by
           intro b hb; show ow W6 (b + 1) = cnt (ow W6) S.sizes b (Hs.insert a S.taken); rw [cnt_perm (perm_insert hnew)]; unfold cnt; rw [nk, hold.cnt_ b fun x hx => hx]
           rcases (ml b).1 hb with rfl | hb
           · rw [n1, List.count_eq_zero.2, cnt_zero]
             · rfl
             · intro b' hb' x hx e; obtain ⟨b'', hb'', e', _⟩ := h.cells.kids b' hb' x hx; have : b = b'' := by omega
               subst this; exact hnew hb''
             · intro hm; obtain ⟨b'', hb'', e', _⟩ := hks _ hm; have : b = b'' := by omega
               subst this; exact hnew hb''
           · rw [F2 b hb, h.uses b hb]
             push_cast
             omega
          holds := fun b hb => by
           show 0 ≤ ow W6 (b + 2) ∧ ow W6 (b + 2) ≤ B
           rcases (ml b).1 hb with rfl | hb
           · rw [n2]; exact ⟨Int.le_refl _, Int.natCast_nonneg _⟩
           · rw [F1 b hb 2 (by have := h.part hb; omega) (by omega)]; exact h.holds b hb }
end Hp
namespace Hp
theorem adrs_of : ∀ {l : List Int}, (∀ x ∈ l, ∃ b : Nat, x = (b : Int)) → ∃ r, Hs.adrs l = some r ∧ r.length = l.length ∧ ∀ b, b ∈ r ↔ (b : Int) ∈ l
 | [], _ => ⟨[], rfl, rfl, by simp⟩
 | x :: l, h => by
  obtain ⟨b, rfl⟩ := h x (by simp); obtain ⟨r, h1, h2, h3⟩ := adrs_of (l := l) fun y hy => h y (by simp [hy])
  refine ⟨b :: r, ?_, by simp [h2], fun c => ?_⟩
  · unfold Hs.adrs at h1 ⊢; rw [List.mapM_cons]; have : adr (b : Int) = some b := by simp [adr]
    rw [this, h1]; rfl
  · simp only [List.mem_cons, h3]; constructor
    · rintro (e | e)
      · exact .inl (by omega)
      · exact .inr e
    · rintro (e | e)
      · exact .inl (by omega)
      · exact .inr e
def pot (f : Nat → Int) (z : List Int) (L : List Nat) : List Nat → Nat
 | [] => 0
 | b :: r => (if L.contains b then 0 else (kz f z b).length) + pot f z L r
theorem pot_le {f : Nat → Int} {z : List Int} (L : List Nat) : ∀ T : List Nat, pot f z L T ≤ widths f z T
 | [] => Nat.le_refl _
 | b :: r => by
  have := pot_le (f := f) (z := z) L r; have := kz_len (f := f) (z := z) (a := b); unfold pot widths
  split <;> omega
theorem pot_out {f : Nat → Int} {z : List Int} {L : List Nat} {a : Nat} : ∀ {T : List Nat}, a ∉ T → pot f z (Hs.insert a L) T = pot f z L T
 | [], _ => rfl
 | b :: r, h => by
  have h1 : b ≠ a := fun e => h (by simp [e])
  have e : (Hs.insert a L).contains b = L.contains b := by
   rw [Bool.eq_iff_iff]; simp [mem_insert, h1]
  unfold pot; rw [e, pot_out fun hm => h (by simp [hm])]
theorem pot_ins {f : Nat → Int} {z : List Int} {L : List Nat} {a : Nat} (hL : a ∉ L) : ∀ {T : List Nat}, T.Pairwise (· < ·) → a ∈ T → pot f z (Hs.insert a L) T + (kz f z a).length = pot f z L T
 | [], _, h => by cases h
 | b :: r, hp, h => by
  obtain ⟨h1, h2⟩ := List.pairwise_cons.1 hp
  by_cases e : b = a
  · subst e; have hr : b ∉ r := fun hm => by have := h1 b hm; omega
    have e1 : (Hs.insert b L).contains b = true := by simp [mem_insert]
    have e2 : L.contains b = false := by simpa using hL
    unfold pot; rw [e1, e2, pot_out hr]; simp; omega
  · have hr : a ∈ r := by
      rcases List.mem_cons.1 h with h' | h'
      · exact absurd h'.symm e
      · exact h'
    have e1 : (Hs.insert a L).contains b = L.contains b := by
     rw [Bool.eq_iff_iff]; simp [mem_insert, e]
    have := pot_ins (f := f) (z := z) hL h2 hr; unfold pot; rw [e1]; omega
theorem Wf.adrs_ {S : Hs} {B : Nat} {L : List Tl} {ch : Nat → List Nat} (h : Wf S B L ch) {a : Nat} (ha : a ∈ S.taken) : ∃ r, Hs.adrs (kz (ow S.words) S.sizes a) = some r ∧ r.length = (kz (ow S.words) S.sizes a).length ∧ ∀ b ∈ r, b ∈ S.taken := by
 obtain ⟨r, h1, h2, h3⟩ := adrs_of (l := kz (ow S.words) S.sizes a) fun x hx => by
  obtain ⟨b, _, e, _⟩ := h.cells.kids a ha x hx; exact ⟨b, e⟩
 refine ⟨r, h1, h2, fun b hb => ?_⟩
 obtain ⟨b', hb', e, _⟩ := h.cells.kids a ha _ ((h3 b).1 hb)
 have : b = b' := by omega
 rw [this]
 exact hb'
theorem mark_total {S : Hs} {B : Nat} {Lt : List Tl} {ch : Nat → List Nat} (h : Wf S B Lt ch) : ∀ (n : Nat) (L st : List Nat), (∀ a ∈ st, a ∈ S.taken) → st.length + pot (ow S.words) S.sizes L S.taken ≤ n → ∃ r, S.markFrom n L st = some r
 | n, L, [], _, _ => ⟨L, by cases n <;> rfl⟩
 | 0, L, a :: st, _, hn => by simp at hn
 | n + 1, L, a :: st, hs, hn => by
  simp only [List.length_cons] at hn; unfold Hs.markFrom
  by_cases hc : L.contains a = true
  · rw [if_pos hc]; exact mark_total h n L st (fun b hb => hs b (by simp [hb])) (by omega)
  · rw [if_neg hc]; have ha := hs a (by simp); obtain ⟨r, h1, h2, h3⟩ := h.adrs_ ha; rw [h.kids_ ha]; simp only [Option.bind_eq_bind, Option.bind_some, h1]; have := pot_ins (f := ow S.words) (z := S.sizes) (L := L) (a := a) (by simpa using hc) h.up ha; exact mark_total h n _ _ (fun b hb => by
     rcases List.mem_append.1 hb with hb | hb
     · exact h3 b hb
     · exact hs b (by simp [hb])) (by rw [List.length_append]; omega)
theorem held_total {S : Hs} : ∀ {T : List Nat}, (∀ a ∈ T, a + 2 < S.words.length) → ∃ r, S.held T = some r ∧ r.length ≤ T.length ∧ ∀ a ∈ r, a ∈ T
 | [], _ => ⟨[], rfl, Nat.le_refl _, by simp⟩
 | a :: r, h => by
  obtain ⟨q, h1, h2, h3⟩ := held_total (S := S) (T := r) fun b hb => h b (by simp [hb])
  unfold Hs.held; rw [h1, rd_ow (h a (by simp))]; simp only [Option.bind_eq_bind, Option.bind_some]
  split
  · refine ⟨a :: q, rfl, by simp; omega, fun b hb => ?_⟩
    rcases List.mem_cons.1 hb with rfl | hb
    · simp
    · simp [h3 b hb]
  · exact ⟨q, rfl, by simp; omega, fun b hb => by simp [h3 b hb]⟩
theorem live_total {S : Hs} {B : Nat} {L : List Tl} {ch : Nat → List Nat} (h : Wf S B L ch) : ∃ T, S.live = some T := by
 obtain ⟨R, h1, h2, h3⟩ := held_total (S := S) (T := S.taken) fun a ha => by have := h.part ha; omega
 unfold Hs.live
 rw [h1]
 simp only [Option.bind_eq_bind, Option.bind_some]
 have := pot_le (f := ow S.words) (z := S.sizes) [] S.taken
 have := h.widths_
 have := h.few
 exact mark_total h _ [] R h3 (by omega)
theorem unlinkFrom_spec (live : List Nat) : ∀ (r : List Nat) (m l : Nat) (W : List Int), Path (ow W) l r → r.Nodup → (∀ a ∈ r, l ≠ a + 3 ∧ a + 3 < W.length) → l < W.length → r.length < m →
    ∃ W', Hs.unlinkFrom live m W l = some W' ∧ W'.length = W.length ∧ Path (ow W') l (r.filter fun a => live.contains a) ∧ ∀ j, j ≠ l → (∀ a ∈ r, j ≠ a + 3) → ow W' j = ow W j
  | [], m, l, W, hp, _, _, hl, hm => by
   cases m with
   | zero => simp at hm
   | succ m =>
    have e : ow W l = 0 := hp; refine ⟨W, ?_, rfl, hp, fun _ _ _ => rfl⟩; unfold Hs.unlinkFrom; rw [ra_ow (a := 0) hl (by simpa using e)]; rfl
  | a :: r, m, l, W, hp, hd, hr, hl, hm => by
   cases m with
   | zero => simp at hm
   | succ m =>
    obtain ⟨e, h0, hp⟩ := hp; obtain ⟨d1, d2⟩ := List.nodup_cons.1 hd; have hra := hr a (by simp); simp only [List.length_cons] at hm; unfold Hs.unlinkFrom; rw [ra_ow hl e]; simp only [Option.bind_eq_bind, Option.bind_some]; rw [if_neg h0]
    by_cases hv : live.contains a = true
    · rw [if_pos hv]; have hne : ∀ b ∈ r, a + 3 ≠ b + 3 := fun b hb e' => d1 (by rw [show a = b by omega]; exact hb)
      obtain ⟨W', w1, w2, w3, w4⟩ := unlinkFrom_spec live r m (a + 3) W hp d2 (fun b hb => ⟨hne b hb, (hr b (by simp [hb])).2⟩) hra.2 (by omega); refine ⟨W', w1, w2, ?_, fun j h1 h2 => w4 j (h2 a (by simp)) fun b hb => h2 b (by simp [hb])⟩; rw [List.filter_cons_of_pos hv]; refine ⟨?_, h0, w3⟩; rw [w4 l hra.1 fun b hb => (hr b (by simp [hb])).1]; exact e
    · rw [if_neg hv, rd_ow hra.2]; simp only [Option.bind_some]; obtain ⟨W1, e1, l1, g1⟩ := wr_ow (W := W) (i := l) (ow W (a + 3)) hl; rw [e1]; simp only [Option.bind_some]; obtain ⟨W', w1, w2, w3, w4⟩ := unlinkFrom_spec live r m l W1 (hp.move (by rw [g1, if_pos rfl]) fun b hb => by rw [g1, if_neg (hr b (by simp [hb])).1.symm]) d2 (fun b hb => by rw [l1]; exact hr b (by simp [hb])) (by omega) (by omega); refine ⟨W', w1, w2.trans l1, ?_, fun j h1 h2 => ?_⟩
      · rw [List.filter_cons_of_neg hv]; exact w3
      · rw [w4 j h1 fun b hb => h2 b (by simp [hb]), g1, if_neg h1]
theorem unlinks_spec (live : List Nat) (m : Nat) (ch : Nat → List Nat) (hdis : ∀ c c' a, a ∈ ch c → a ∈ ch c' → c = c') (hnd : ∀ c, c < 16 → (ch c).Nodup) : ∀ (l : List Nat) (W : List Int), l.Nodup → 16 ≤ W.length → (∀ c ∈ l, c < 16 ∧ Path (ow W) c (ch c) ∧ (ch c).length < m ∧ ∀ a ∈ ch c, 17 ≤ a ∧ a + 3 < W.length) →
    ∃ W', Hs.unlinks live m W l = some W' ∧ W'.length = W.length ∧ (∀ c ∈ l, Path (ow W') c ((ch c).filter fun a => live.contains a)) ∧ ∀ j, (∀ c ∈ l, j ≠ c ∧ ∀ a ∈ ch c, j ≠ a + 3) → ow W' j = ow W j
  | [], W, _, _, _ => ⟨W, rfl, rfl, by simp, fun _ _ => rfl⟩
  | c :: l, W, hl, h16, h => by
   obtain ⟨d1, d2⟩ := List.nodup_cons.1 hl; obtain ⟨hc, hp, hm, hr⟩ := h c (by simp); obtain ⟨W1, w1, w2, w3, w4⟩ := unlinkFrom_spec live (ch c) m c W hp (hnd c hc) (fun a ha => ⟨by have := hr a ha; omega, (hr a ha).2⟩) (by omega) hm; have k1 : ∀ c' ∈ l, ow W1 c' = ow W c' := fun c' hc' => w4 c' (fun e => d1 (e ▸ hc')) fun a ha => by have := hr a ha; have := (h c' (by simp [hc'])).1; omega
   have k2 : ∀ c' ∈ l, ∀ a ∈ ch c', ow W1 (a + 3) = ow W (a + 3) := fun c' hc' a ha => w4 (a + 3) (by have := (h c' (by simp [hc'])).2.2.2 a ha; omega) fun b hb e => by
    have : a = b := by omega
    subst this; exact d1 (hdis c c' a hb ha ▸ hc')
   obtain ⟨W', v1, v2, v3, v4⟩ := unlinks_spec live m ch hdis hnd l W1 d2 (by omega) fun c' hc' => by
    obtain ⟨q1, q2, q3, q4⟩ := h c' (by simp [hc']); exact ⟨q1, q2.congr (k1 c' hc') (k2 c' hc'), q3, by rw [w2]; exact q4⟩
   refine ⟨W', ?_, v2.trans w2, fun c' hc' => ?_, fun j hj => ?_⟩
   · unfold Hs.unlinks; rw [w1]; exact v1
   · rcases List.mem_cons.1 hc' with rfl | hc'
     · refine w3.congr (v4 c' fun c2 hc2 => ⟨fun e => d1 (e ▸ hc2), fun a ha => by have := (h c2 (by simp [hc2])).2.2.2 a ha; omega⟩) fun a ha => v4 (a + 3) fun c2 hc2 => ⟨?_, fun b hb e => ?_⟩
       · have := hr a ((List.mem_filter.1 ha).1); have := (h c2 (by simp [hc2])).1; omega
       · have : a = b := by omega
         subst this; exact d1 (hdis c' c2 a ((List.mem_filter.1 ha).1) hb ▸ hc2)
     · exact v3 c' hc'
   · rw [v4 j fun c' hc' => hj c' (by simp [hc']), w4 j (hj c (by simp)).1 (hj c (by simp)).2]
theorem unuse_spec {S : Hs} {B : Nat} {L : List Tl} {ch : Nat → List Nat} (h : Wf S B L ch) : ∀ (D : List Nat) (W : List Int), (∀ a ∈ D, a ∈ S.taken) → W.length = S.words.length → Same (ow S.words) (ow W) S.sizes S.taken →
    (∀ b ∈ S.taken, -1000000 + (widths (ow S.words) S.sizes D : Int) ≤ ow W (b + 1) ∧ ow W (b + 1) ≤ 1000000) →
    ∃ W', Hs.unuse { S with words := W } D = some { S with words := W' } ∧ W'.length = S.words.length ∧ (∀ j, (∀ b ∈ S.taken, j ≠ b + 1) → ow W' j = ow W j) ∧ ∀ b ∈ S.taken, ow W' (b + 1) = ow W (b + 1) - cnt (ow S.words) S.sizes b D
  | [], W, _, hl, _, _ => ⟨W, rfl, hl, fun _ _ => rfl, fun b _ => by simp [cnt]⟩
  | a :: D, W, hD, hl, hs, hb => by
   have ha := hD a (by simp); have pa := h.part ha; have ek : kz (ow W) S.sizes a = kz (ow S.words) S.sizes a := hs.kz_ ha; have hk : Hs.kids { S with words := W } a = some (kz (ow S.words) S.sizes a) := by
    rw [← ek]; exact kids_ow (S := { S with words := W }) h.fr.toFr (by show okTag S.sizes (ow W a) = true; rw [(hs a ha).1]; exact h.cells.tags a ha) (by show a + wz S.sizes (ow W a) ≤ W.length; rw [(hs a ha).1]; omega)
   have kl := kz_len (f := ow S.words) (z := S.sizes) (a := a); have cutk : cut (ow W) (a + 4) (kz (ow S.words) S.sizes a).length = kz (ow S.words) S.sizes a := by
    rw [← ek]; unfold kz
    split
    · rfl
    · unfold fz; rw [cut_length]
   have hwk := widths (ow S.words) S.sizes D; obtain ⟨W1, e1, l1, g1⟩ := use_spec (-1) (by omega) (kz (ow S.words) S.sizes a).length (a + 4) W (by omega) (fun i hi => by
    have hm : ow W (a + 4 + i) ∈ kz (ow S.words) S.sizes a := by
     rw [← cutk]; exact mem_cut.2 ⟨i, hi, rfl⟩
    obtain ⟨b, hb', e, _⟩ := h.cells.kids a ha _ hm; have h1 := h.part hb'; have h2 := hb b hb'; have h3 : b + 1 < a + 4 ∨ a + 4 + (kz (ow S.words) S.sizes a).length ≤ b + 1 := by
     rcases h.sep hb' ha with e | e | e
     · subst e; left; omega
     · left; omega
     · right; omega
    exact ⟨b, e, by omega, h3, by omega, by omega⟩)
   rw [cutk] at g1; have hx : ∀ x ∈ kz (ow S.words) S.sizes a, ∃ b ∈ S.taken, x = (b : Int) := fun x hx => by
    obtain ⟨b, hb', e, _⟩ := h.cells.kids a ha x hx; exact ⟨b, hb', e⟩
   have f1 : ∀ j, (∀ b ∈ S.taken, j ≠ b + 1) → ow W1 j = ow W j := fun j hj => by
    rw [g1, List.count_eq_zero.2]
    · simp
    · intro hm; obtain ⟨b, hb', e⟩ := hx _ hm; exact hj b hb' (by omega)
   have f2 : ∀ b ∈ S.taken, ow W1 (b + 1) = ow W (b + 1) - ((kz (ow S.words) S.sizes a).count (b : Int) : Nat) := fun b _ => by
    rw [g1]
    push_cast
    rw [show (b : Int) + 1 - 1 = b by omega]; omega
   have hs1 : Same (ow S.words) (ow W1) S.sizes S.taken := fun b hb' => by
    have pb := h.part hb'; refine ⟨?_, fun i hi => ?_⟩
    · rw [f1 b fun c hc => ?_, (hs b hb').1]; have := h.ne hb' hc (i := 0) (j := 1) (by omega) (by have := h.part hc; omega) (.inr (by omega))
      simpa using this
    · rw [f1 _ fun c hc => ?_, (hs b hb').2 i hi]; have := h.ne hb' hc (i := 4 + i) (j := 1) (by omega) (by have := h.part hc; omega) (.inr (by omega)); omega
   obtain ⟨W', v1, v2, v3, v4⟩ := unuse_spec h D W1 (fun b hb' => hD b (by simp [hb'])) (l1.trans hl) hs1 (fun b hb' => by
    have h1 := hb b hb'; have h2 := List.count_le_length (a := (b : Int)) (l := kz (ow S.words) S.sizes a); rw [f2 b hb']; have h3 : widths (ow S.words) S.sizes (a :: D) = wz S.sizes (ow S.words a) + widths (ow S.words) S.sizes D := rfl; rw [h3] at h1; omega)
   refine ⟨W', ?_, v2, fun j hj => (v3 j hj).trans (f1 j hj), fun b hb' => ?_⟩
   · unfold Hs.unuse; rw [hk]; simp only [Option.bind_eq_bind, Option.bind_some, e1]; exact v1
   · rw [v4 b hb', f2 b hb', show cnt (ow S.words) S.sizes b (a :: D) = (kz (ow S.words) S.sizes a).count (b : Int) + cnt (ow S.words) S.sizes b D from rfl]
     push_cast
     omega
end Hp
open Go
section
variable {P : Program} {ops : Array Oper} {Q : Exit → Act → World → Prop} {md : Region.Mode} {R : World → World → Prop}
def stepOk (md : Region.Mode) (ops : Array Oper) (k : Nat) (o : Oper) (b : Bool) (l : List Oper) : Bool :=
 o.after.all (fun e => !Region.binds md e || decide (e.on < k)) &&
 (if b then l.all (fun oj => oj.after.any fun e => Region.binds md e && decide (k ≤ e.on)) else l.all (fun oj => oj.after.any (fun e => Region.binds md e && e.on == k) || o.apart ops oj))
def planL (md : Region.Mode) (ops : Array Oper) : List Oper → List Bool → Nat → Bool
 | [], [], _ => true
 | o :: l, b :: r, k => stepOk md ops k o b l && planL md ops l r (k + 1)
 | _, _, _ => false
structure Upto (ops : Array Oper) (k : Nat) (listed : Array Bool) : Prop where
 size : listed.size = ops.size
 at_ : ∀ (j : Nat) (d : Bool), j < ops.size → listed.getD j d = decide (j < k)
theorem Upto.set {k : Nat} {listed : Array Bool} (h : Upto ops k listed) : Upto ops (k + 1) (listed.setIfInBounds k true) := by
 refine ⟨by simp [h.size], fun j d hj => ?_⟩
 by_cases e : k = j
 · subst e; have : k < listed.size := by rw [h.size]; exact hj
   simp [this]
 · rw [getD_set_ne d e, h.at_ j d hj]; have : (j < k + 1) = (j < k) := by
    apply propext; omega
   simp only [this]
inductive Plan (P : Program) (ops : Array Oper) (Q : Exit → Act → World → Prop) (R : World → World → Prop) : (World → Prop) → List Oper → List Bool → Act → World → Prop
 | done {S : World → Prop} {a : Act} {w : World} (h : ∀ w', R w w' → S w' → Q .normal a w') : Plan P ops Q R S [] [] a w
 | take {S : World → Prop} {o : Oper} {v : Value} {l : List Oper} {r : List Bool} {a : Act} {w : World} (hy : YieldsOn P ops S R o v a) (h : Plan P ops Q R S l r (a.put o.dst v) w) : Plan P ops Q R S (o :: l) (false :: r) a w
 | run {S : World → Prop} {o : Oper} {l : List Oper} {r : List Bool} {a : Act} {w : World} (V : Value → World → Prop) (hw : Region.wanted o (yielded ops a.tmps) = true)
     (hrun : ∀ w', R w w' → S w' → (∃ f args, (execOp a.eval o).run P w' = .ok (.enter f args) w' ∧ Calls P f args w' fun e w'' => ∃ v, e = .returned v ∧ V v w'') ∨ ∃ v w'', (execOp a.eval o).run P w' = .ok (.value v) w'' ∧ V v w'')
     (hVS : ∀ v w'', V v w'' → ∀ W, R w'' W → S W) (h : ∀ v w'', V v w'' → Plan P ops Q R (fun W => R w'' W) l r (a.put o.dst v) w'') : Plan P ops Q R S (o :: l) (true :: r) a w
theorem any_mem {α : Type} {p : α → Bool} {xs : Array α} (h : xs.any p = true) : ∃ x, x ∈ xs ∧ p x = true := by
 obtain ⟨i, hi, h⟩ := Array.any_eq_true.1 h
 exact ⟨xs[i], by simp, h⟩
theorem stepOk_ready {k : Nat} {o : Oper} {b : Bool} {l : List Oper} {listed : Array Bool} (hk : ops[k]? = some o) (hu : Upto ops k listed) (h : stepOk md ops k o b l = true) : k ∈ Region.ready md ops listed := by
 have hks := (Array.getElem?_eq_some_iff.1 hk).1
 simp only [stepOk, Bool.and_eq_true] at h
 refine mem_ready.2 ⟨by rw [hu.at_ k _ hks]; simp, o, hk, fun e he hb => ?_⟩
 have := Array.all_eq_true_iff_forall_mem.1 h.1 e he
 rw [hb] at this
 simp only [Bool.not_true, Bool.false_or, decide_eq_true_eq] at this
 rw [hu.at_ e.on _ (by omega)]
 simpa using this
theorem Plan.anyR (hR : ∀ w, R w w) (hT : ∀ a b c, R a b → R b c → R a c) (hs : Region.noSelect ops = true) (hQ : ∀ c a d v w, Q (.panic c) (Act.put a d v) w → Q (.panic c) a w) {S : World → Prop} {l : List Oper} {pl : List Bool} {a : Act} {w : World} (h : Plan P ops Q R S l pl a w) :
    ∀ {k : Nat} {listed : Array Bool}, (∀ j : Nat, l[j]? = ops[k + j]?) → Upto ops k listed → planL md ops l pl k = true → wpAnyR P md ops Q S R l.length listed a w := by
  induction h with
  | done h =>
   intro k listed hl hu _; refine wpAnyR_done ?_ h _; refine List.eq_nil_iff_forall_not_mem.2 fun j hj => ?_
   obtain ⟨h1, o, h2, _⟩ := mem_ready.1 hj; have hjs := (Array.getElem?_eq_some_iff.1 h2).1; rw [hu.at_ j _ hjs] at h1; have h1 : ¬ j < k := by simpa using h1
   have := hl (j - k); rw [show k + (j - k) = j by omega, h2] at this; simp at this
  | @take S o v l r a w hy _ ih =>
   intro k listed hl hu hb; simp only [planL, Bool.and_eq_true] at hb; have hi : ops[k]? = some o := by simpa using (hl 0).symm
   have hl' : ∀ j : Nat, l[j]? = ops[k + 1 + j]? := fun j => by have := hl (j + 1); rw [show k + (j + 1) = k + 1 + j by omega] at this; simpa using this
   refine wpAnyR_first hR hT hi (Region.noSelect_spec hs) (fun c a w h => hQ c a _ _ w h) _ listed a w (fun j oj hoj hne hun hno => ?_) (stepOk_ready hi hu hb.1) hy (ih hl' hu.set hb.2); have hjs := (Array.getElem?_eq_some_iff.1 hoj).1; rw [hu.at_ j _ hjs] at hun; have hun : ¬ j < k := by simpa using hun
   have hm : oj ∈ l := by
    refine List.mem_of_getElem? (i := j - (k + 1)) ?_; rw [hl', show k + 1 + (j - (k + 1)) = j by omega]; exact hoj
   have h1 := hb.1; simp only [stepOk, Bool.and_eq_true, Bool.false_eq_true, if_false] at h1; have h2 := List.all_eq_true.1 h1.2 oj hm; simp only [Bool.or_eq_true] at h2
   rcases h2 with h2 | h2
   · obtain ⟨e, he, h3⟩ := any_mem h2; simp only [Bool.and_eq_true, beq_iff_eq] at h3; exact absurd h3.2 (hno e he h3.1)
   · exact h2
  | @run S o l r a w V hw hrun hVS _ ih =>
   intro k listed hl hu hb; simp only [planL, Bool.and_eq_true] at hb; have hi : ops[k]? = some o := by simpa using (hl 0).symm
   have hl' : ∀ j : Nat, l[j]? = ops[k + 1 + j]? := fun j => by have := hl (j + 1); rw [show k + (j + 1) = k + 1 + j by omega] at this; simpa using this
   refine wpAnyR_do V hR hT hi (stepOk_ready hi hu hb.1) (fun j hj => ?_) hw hrun hVS (fun v w'' hv => ih v w'' hv hl' hu.set hb.2); obtain ⟨hun, oj, hoj, hall⟩ := mem_ready.1 hj; have hjs := (Array.getElem?_eq_some_iff.1 hoj).1; rw [hu.at_ j _ hjs] at hun; have hun : ¬ j < k := by simpa using hun
   apply Classical.byContradiction; intro hne; have hm : oj ∈ l := by
    refine List.mem_of_getElem? (i := j - (k + 1)) ?_; rw [hl', show k + 1 + (j - (k + 1)) = j by omega]; exact hoj
   have h1 := hb.1; simp only [stepOk, Bool.and_eq_true, if_true] at h1; obtain ⟨e, he, h3⟩ := any_mem (List.all_eq_true.1 h1.2 oj hm); simp only [Bool.and_eq_true, decide_eq_true_eq] at h3; have h4 := hall e he h3.1
   rcases Nat.lt_or_ge e.on ops.size with h5 | h5
   · rw [hu.at_ e.on _ h5] at h4; have h4 : e.on < k := by simpa using h4
     omega
   · have : listed.size ≤ e.on := by rw [hu.size]; exact h5
     simp [Array.getD, show ¬ e.on < listed.size by omega] at h4
theorem wp_region_plan {S : World → Prop} {id : Nat} {l : List Oper} {a : Act} {w : World} (pl : List Bool) (hm : P.follows .mixedOrders = true) (hR : ∀ w, R w w) (hT : ∀ a b c, R a b → R b c → R a c) (hs : Region.noSelect l.toArray = true)
    (hQ : ∀ c a d v w, Q (.panic c) (Act.put a d v) w → Q (.panic c) a w) (hb : planL .any l.toArray l pl 0 = true) (hS : S w.drew)
    (h : ∀ ops, ops = l.toArray → Plan P ops Q R S l pl a w.drew) : (Code.region id l.toArray true).wp P Q a w := by
  refine wp_region_seq hm hR hS ?_; exact (h _ rfl).anyR hR hT hs hQ (k := 0) (fun j => by simp) ⟨by simp, fun j d hj => by
   have : j < l.length := by simpa using hj
   simp [Array.getD, this]⟩ hb
end
section
variable {P : Program} {ops L : Array Oper} {Q : Exit → Act → World → Prop} {R : World → World → Prop} {S : World → Prop} {o : Oper} {v : Value} {l : List Oper} {r : List Bool} {a : Act} {w : World}
theorem tkP (hops : RowKit.Hid (ops = L)) (hy : ∀ w, S w → (execOp a.eval o).run P w = .ok (.value v) w) (h : Plan P ops Q R S l r (a.put o.dst v) w) (hw : Region.wanted o (yielded L a.tmps) = true := by rfl) : Plan P ops Q R S (o :: l) (false :: r) a w := Plan.take (Or.inl (Or.inl ⟨by rw [hops.out]; exact hw, hy⟩)) h
end
open Go.RowKit Go.Maps
theorem SliceAt.two (w : World) (x y : Int) (hx : -9223372036854775808 ≤ x ∧ x ≤ 9223372036854775807) (hy : -9223372036854775808 ≤ y ∧ y ≤ 9223372036854775807) (t : TypeId) : SliceAt (w.alloc (.cells #[.int .i64 x, .int .i64 y] t)) (some ⟨w.heap.size, 0, none⟩) 2 [x, y] := by
 refine ⟨by simp, by omega, fun z hz => ?_, fun _ => ⟨w.heap.size, 0, rfl, by simp, fun j z hj => ?_⟩⟩
 · rcases List.mem_cons.1 hz with rfl | hz
   · exact hx
   · have : z = y := by simpa using hz
     subst this; exact hy
 · match j, hj with
   | 0, hj => simp [Hp.rd] at hj; subst hj; simp [go_sem]
   | 1, hj => simp [Hp.rd] at hj; subst hj; simp [go_sem]
   | j + 2, hj => simp [Hp.rd] at hj
theorem SliceAt.two_ (w : World) (g : Nat) (hg : g = w.heap.size) (x y : Int) (hx : -9223372036854775808 ≤ x ∧ x ≤ 9223372036854775807) (hy : -9223372036854775808 ≤ y ∧ y ≤ 9223372036854775807) (t : TypeId) : SliceAt (w.alloc (.cells #[.int .i64 x, .int .i64 y] t)) (some ⟨g, 0, none⟩) 2 [x, y] := by
 subst hg
 exact SliceAt.two w x y hx hy t
theorem new_two {n : Nat} {W : World} {S0 : Hp.Hs} {g1 g2 : Nat} (hn : 32 ≤ n) (hn2 : n ≤ 40000) (he : Hp.newErr [2, 2] [0, 1] n = 0) (h0 : Hp.new [2, 2] [0, 1] n = some S0) (h1 : SliceAt W (some ⟨g1, 0, none⟩) 2 [2, 2]) (h2 : SliceAt W (some ⟨g2, 0, none⟩) 2 [0, 1]) :
    Calls Tryz.prog 36 #[.slice (some ⟨g1, 0, none⟩) 2 2, .slice (some ⟨g2, 0, none⟩) 2 2, .int .i64 n] W (NewPost W S0) :=
  New_any (sizes := [2, 2]) (order := [0, 1]) h1 h2 (.inl (by simp)) (.inl (by simp)) (by simp) (by simp) hn hn2 he h0 (by simp)
def PairPost (w : World) (S : Hp.Hs) (e : Ending) (w' : World) : Prop := ∃ d : Hd, e = .returned (.tuple #[.pointer (some ⟨d.hb, 0, none⟩), .agg #[.int .i64 17, .int .i64 22, .int .i64 27], .bool true]) ∧ HAt w' d S ∧ (∀ b ∈ d.own, w.heap.size ≤ b) ∧ Ext w w' ∧ (∀ b o, d.sp = some ⟨b, o, none⟩ → w.heap.size ≤ b) ∧ ∀ b o, d.op = some ⟨b, o, none⟩ → w.heap.size ≤ b
set_option maxRecDepth 100000 in
set_option maxHeartbeats 8000000 in
theorem pair_any {n : Nat} {w : World} {S0 S1 S2 S3 : Hp.Hs} (hn : 32 ≤ n) (hn2 : n ≤ 40000) (he : Hp.newErr [2, 2] [0, 1] n = 0) (h0 : Hp.new [2, 2] [0, 1] n = some S0) (h1 : S0.end' (0 : Nat) 5 = some (17, 0, S1)) (h2 : S1.end' (0 : Nat) 7 = some (22, 0, S2)) (h3 : S2.make 1 [17, 22] = some (27, 0, S3)) :
    Calls Tryz.prog 55 #[.int .i64 n] w (PairPost w S3) := by
  have HE := Lib.hid he; have H0 := Lib.hid h0; have H1 := Lib.hid h1; have H2 := Lib.hid h2; have H3 := Lib.hid h3; clear he h0 h1 h2 h3; go_enter Tryz.func55, Tryz.ntmps55; have q1 : SliceAt (((w.alloc (.cells #[.int .i64 0, .int .i64 0, .int .i64 0] 97)).alloc (.cells #[.int .i64 2, .int .i64 2] 3)).alloc (.cells #[.int .i64 0, .int .i64 1] 3)) (some ⟨w.heap.size + 1, 0, none⟩) 2 [2, 2] := (SliceAt.two_ _ _ (by simp) 2 2 (by omega) (by omega) _).ext (Ext.alloc (Ext.refl _) _); have q2 : SliceAt (((w.alloc (.cells #[.int .i64 0, .int .i64 0, .int .i64 0] 97)).alloc (.cells #[.int .i64 2, .int .i64 2] 3)).alloc (.cells #[.int .i64 0, .int .i64 1] 3)) (some ⟨w.heap.size + 1 + 1, 0, none⟩) 2 [0, 1] := SliceAt.two_ _ _ (by simp) 0 1 (by omega) (by omega) _; go_upto_region 2 with (go_at_call 36; refine (new_two hn hn2 HE.out H0.out q1 q2).mono ?_; rintro e w1 ⟨d, rfl, hA1, o1, E1, s1, s2⟩)
  have EW : Ext w w1 := exx; have N1 := Lib.hid (Now.refl hA1); have O1 : ∀ b ∈ d.own, w.heap.size + 3 ≤ b := fun b hb => by have := o1 b hb; simp at this; omega
  have OH := Lib.hid O1; have S1H := Lib.hid (fun b o (e : d.sp = some ⟨b, o, none⟩) => (by have := s1 b o e; simp at this; omega : w.heap.size + 3 ≤ b)); have S2H := Lib.hid (fun b o (e : d.op = some ⟨b, o, none⟩) => (by have := s2 b o e; simp at this; omega : w.heap.size + 3 ≤ b)); clear s1 s2; have z1 : w.heap.size + 3 ≤ w1.heap.size := by have := E1.le; simp at this; omega
  have bx : ∀ k, k < 3 → w1.cell? ⟨w.heap.size, k, none⟩ = some (.int .i64 0) := fun k hk => by
   rw [E1.cell (by simp; omega) k]; have : k = 0 ∨ k = 1 ∨ k = 2 := by omega
   rcases this with rfl | rfl | rfl <;> simp [go_sem]
  have BX := Lib.hid bx; have fx : ∀ k, w1.frozen? ⟨w.heap.size, k, none⟩ = false := fun k => by
   rw [E1.frozen (by simp; omega) k]; simp [go_sem]
  have FX := Lib.hid fx; clear hA1 o1 O1 E1 bx fx q1 q2; go_upto_region 3 with (go_at_call 43; refine (End_any N1.out.toHAt (f := 0) (by omega) (by omega) (by omega) H1.out).mono ?_; rintro e w2 ⟨rfl, A2⟩)
  have N2 := Lib.hid (Now.mk A2.toHAt (N1.out.but.trans A2.but)); clear A2 N1; go_upto_region 4 with (go_at_call 43; refine (End_any N2.out.toHAt (f := 0) (by omega) (by omega) (by omega) H2.out).mono ?_; rintro e w3 ⟨rfl, A3⟩)
  have N3 := Lib.hid (Now.mk A3.toHAt (N2.out.but.trans A3.but)); clear A3 N2; have q3 : SliceAt (w3.alloc (.cells #[.int .i64 17, .int .i64 22] 3)) (some ⟨w3.heap.size, 0, none⟩) 2 [17, 22] := SliceAt.two w3 17 22 (by omega) (by omega) _; have E3 : Ext w3 (w3.alloc (.cells #[.int .i64 17, .int .i64 22] 3)) := Ext.alloc (Ext.refl _) _
  have M3 : Calls Tryz.prog 44 #[.pointer (some ⟨d.hb, 0, none⟩), .int .i64 1, .slice (some ⟨w3.heap.size, 0, none⟩) 2 2] (w3.alloc (.cells #[.int .i64 17, .int .i64 22] 3)) (Added d (w3.alloc (.cells #[.int .i64 17, .int .i64 22] 3)) (27, 0, S3)) :=
   Make_any (l := [17, 22]) (N3.out.ext E3).toHAt q3 (fun b o e hm => by
    cases e
    have := N3.out.own_lt _ hm; omega) (by omega) (by omega) H3.out
  clear q3; go_upto_region 5 with (go_at_call 44; refine M3.mono ?_; rintro e w4 ⟨rfl, A4⟩)
  have N4 := Lib.hid (Now.mk A4.toHAt ((N3.out.but.ext E3).trans A4.but)); have hx : w.heap.size ∉ d.own := fun hm => by have := OH.out _ hm; omega
  have c0 := (N4.out.but.cell (by omega) hx 0).trans (BX.out 0 (by omega)); have c1 := (N4.out.but.cell (by omega) hx 1).trans (BX.out 1 (by omega)); have c2 := (N4.out.but.cell (by omega) hx 2).trans (BX.out 2 (by omega)); have f0 := (N4.out.but.frozen (by omega) hx 0).trans (FX.out 0); have f1 := (N4.out.but.frozen (by omega) hx 1).trans (FX.out 1); have f2 := (N4.out.but.frozen (by omega) hx 2).trans (FX.out 2); clear A4 M3 N3 E3
  go_wp2_with fail
  have kb : But [w.heap.size] w4 (((w4.setCell ⟨w.heap.size, 0, none⟩ (.int .i64 17)).setCell ⟨w.heap.size, 1, none⟩ (.int .i64 22)).setCell ⟨w.heap.size, 2, none⟩ (.int .i64 27)) :=
   (((But.refl _ _).setCell (.inl (by simp)) _).setCell (.inl (by simp)) _).setCell (.inl (by simp)) _
  have hx2 := OH.out _ d.hb_own; have hx3 := OH.out _ d.gw_own; have hx4 := OH.out _ d.gm_own
  have A5 : HAt (((w4.setCell ⟨w.heap.size, 0, none⟩ (.int .i64 17)).setCell ⟨w.heap.size, 1, none⟩ (.int .i64 22)).setCell ⟨w.heap.size, 2, none⟩ (.int .i64 27)) d S3 :=
   N4.out.toHAt.but kb (by simp; omega) (by simp; omega) (by simp; omega) (fun b o e => by have := S1H.out b o e; simp; omega) (fun b o e => by have := S2H.out b o e; simp; omega)
  have X4 : Ext w w4 := But.toExt EW N4.out.but (fun b hb => by have := OH.out b hb; omega); refine bodyPost_ret (v := .tuple #[.pointer (some ⟨d.hb, 0, none⟩), .agg #[.int .i64 17, .int .i64 22, .int .i64 27], .bool true]) (by simp [results, Tryz.results55, go_sem, *]) rfl ⟨d, rfl, A5, (fun b hb => by have := OH.out b hb; omega), exx, (fun b o e => by have := S1H.out b o e; omega), (fun b o e => by have := S2H.out b o e; omega)⟩
namespace Aw
def none' : Hp.Hs := ⟨[], [], [], []⟩
def S0 : Hp.Hs := (Hp.new [2, 2] [0, 1] 39).getD none'
def S1 : Hp.Hs := ((S0.end' (0 : Nat) 5).getD (0, 0, none')).2.2
def S2 : Hp.Hs := ((S1.end' (0 : Nat) 7).getD (0, 0, none')).2.2
def S3 : Hp.Hs := ((S2.make 1 [17, 22]).getD (0, 0, none')).2.2
def S4 : Hp.Hs := ((S3.make 0 [17, 27]).getD (0, 0, none')).2.2
def S5 : Hp.Hs := ((S4.hold 27).getD (0, none')).2
def S6 : Hp.Hs := (S5.collect.getD (0, none')).2
def L6 : List (Nat × Nat) := (S6.piecesFrom S6.fuel 17).getD []
theorem e0 : Hp.new [2, 2] [0, 1] 39 = some S0 := by kernel_rfl
theorem ee : Hp.newErr [2, 2] [0, 1] (39 : Nat) = 0 := by kernel_rfl
theorem e1 : S0.end' (0 : Nat) 5 = some (17, 0, S1) := by kernel_rfl
theorem e2 : S1.end' (0 : Nat) 7 = some (22, 0, S2) := by kernel_rfl
theorem e3 : S2.make 1 [17, 22] = some (27, 0, S3) := by kernel_rfl
theorem e4 : S3.make 0 [17, 27] = some (33, 0, S4) := by kernel_rfl
theorem e5 : S4.hold 27 = some (0, S5) := by kernel_rfl
theorem e6 : S5.collect = some (1, S6) := by kernel_rfl
theorem el : S6.live = some [17, 22, 27] := by kernel_rfl
theorem ep : S6.piecesFrom S6.fuel 17 = some L6 := by kernel_rfl
theorem eg : S6.gapSums L6 = (6, 6) := by kernel_rfl
theorem et : S6.taken.length = 3 := by kernel_rfl
theorem ew : S4.words.length = 39 := by kernel_rfl
theorem es : decide (S4.words.drop 16 = lastWords) = true := by kernel_rfl
theorem r1 : Hp.rd S4.words 1 = some 17 := by kernel_rfl
theorem r3 : Hp.rd S4.words 3 = some 22 := by kernel_rfl
theorem r11 : Hp.rd S4.words 11 = some 27 := by kernel_rfl
theorem r14 : Hp.rd S4.words 14 = some 33 := by kernel_rfl
theorem h27 : S6.has (27 : Nat) = true := by kernel_rfl
theorem t27 : S6.tag 27 = some 2 := by kernel_rfl
theorem k27 : S6.kids 27 = some [17, 22] := by kernel_rfl
theorem h22 : S6.has (22 : Nat) = true := by kernel_rfl
theorem t22 : S6.tag 22 = some 20 := by kernel_rfl
theorem n22 : Hp.rd S6.words (22 + 4) = some 7 := by kernel_rfl
end Aw
end Go.Proofs.YtdokmmhjmclmnaaGreat
