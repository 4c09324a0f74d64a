/-
  ValueReads: the walk's facts, laid for every three integers.
-/
import Derived.Test.YtaddlhebhiehgaaDoorLawReads
import Derived.Test.YtaddlhebhiehgaaDoorLawChooses2
import Derived.Lib.ItoaLen
namespace Go.Proofs.YtaddlhebhiehgaaDoor.lawReads
open Go.RowKit Go.Shelf Go.Proofs.YtaddlhebhiehgaaDoor.lawCell Go.Proofs.YtaddlhebhiehgaaDoor.lawTexts

/-- The text of a cell. -/
def textL (c : Int × Int) : List UInt8 := if c.1 = 0 then Lib.itoa c.2 else nameOf c.1
def textOf (c : Int × Int) : ByteArray := ⟨(textL c).toArray⟩
/-- A cell. -/
def IsC (c : Int × Int) : Prop := 0 ≤ c.1 ∧ cellB c.1 c.2 = true
theorem IsC.cases {c : Int × Int} (h : IsC c) : (c.1 = 0 ∧ -9999 ≤ c.2 ∧ c.2 ≤ 9999) ∨ (1 ≤ c.1 ∧ c.1 ≤ 4 ∧ c.2 = 0) := by
  obtain ⟨h0, h⟩ := h
  unfold cellB at h
  split at h
  · left; next e => exact ⟨e, by simpa using h⟩
  · right; next e => have h2 : c.1 ≤ 4 ∧ c.2 = 0 := by simpa using h
                     omega
theorem itoa_head (n : Int) (h1 : -9999 ≤ n) (h2 : n ≤ 9999) : ∃ c r, Lib.itoa n = c :: r ∧ c.toNat < 58 := by
  by_cases h : n < 0
  · obtain ⟨u, rfl⟩ : ∃ u : Nat, n = -(u : Int) := ⟨n.natAbs, by omega⟩
    exact ⟨45, _, Lib.itoa_neg u (by omega), by decide⟩
  · obtain ⟨u, rfl⟩ : ∃ u : Nat, n = u := ⟨n.toNat, by omega⟩
    obtain ⟨c, r, hc, -, h4⟩ := digits_cons u
    exact ⟨c, r, by rw [Lib.itoa_nonneg, hc], by omega⟩
theorem name_head (f : Int) (h1 : 1 ≤ f) (h2 : f ≤ 4) : ∃ c r, nameOf f = c :: r ∧ 58 ≤ c.toNat := by
  have hf : f = 1 ∨ f = 2 ∨ f = 3 ∨ f = 4 := by omega
  rcases hf with rfl | rfl | rfl | rfl
  · exact ⟨100, _, rfl, by decide⟩
  · exact ⟨98, _, rfl, by decide⟩
  · exact ⟨105, _, rfl, by decide⟩
  · exact ⟨100, _, rfl, by decide⟩
theorem itoa_ne_name (n f : Int) (h1 : -9999 ≤ n) (h2 : n ≤ 9999) (h3 : 1 ≤ f) (h4 : f ≤ 4) : ¬ Lib.itoa n = nameOf f := by
  intro e
  obtain ⟨c, r, e1, l1⟩ := itoa_head n h1 h2
  obtain ⟨c', r', e2, l2⟩ := name_head f h3 h4
  rw [e1, e2] at e
  have := (List.cons.inj e).1
  subst this
  omega
theorem name_inj (f g : Int) (h1 : 1 ≤ f) (h2 : f ≤ 4) (h3 : 1 ≤ g) (h4 : g ≤ 4) (e : nameOf f = nameOf g) : f = g := by
  have hf : f = 1 ∨ f = 2 ∨ f = 3 ∨ f = 4 := by omega
  have hg : g = 1 ∨ g = 2 ∨ g = 3 ∨ g = 4 := by omega
  rcases hf with rfl | rfl | rfl | rfl <;> rcases hg with rfl | rfl | rfl | rfl <;> first | rfl | (exfalso; revert e; decide)
theorem itoa_inj (n m : Int) (h1 : -9999 ≤ n) (h2 : n ≤ 9999) (h3 : -9999 ≤ m) (h4 : m ≤ 9999) (e : Lib.itoa n = Lib.itoa m) : n = m := by
  have a := atoi_itoa n h1 h2
  have b := atoi_itoa m h3 h4
  rw [e, b] at a
  injection a with a
  exact a.symm
theorem text_inj {c d : Int × Int} (hc : IsC c) (hd : IsC d) (e : textOf c = textOf d) : c = d := by
  have e : textL c = textL d := by
    have h := congrArg (fun s : ByteArray => s.data.toList) e
    simpa [textOf] using h
  obtain ⟨f, n⟩ := c
  obtain ⟨g, m⟩ := d
  unfold textL at e
  rcases hc.cases with ⟨h1, h2, h3⟩ | ⟨h1, h2, h3⟩
  · rcases hd.cases with ⟨k1, k2, k3⟩ | ⟨k1, k2, k3⟩
    · simp only at h1 h2 h3 k1 k2 k3 e
      subst h1; subst k1
      rw [if_pos rfl, if_pos rfl] at e
      rw [itoa_inj n m h2 h3 k2 k3 e]
    · simp only at h1 h2 h3 k1 k2 k3 e
      subst h1
      rw [if_pos rfl, if_neg (by omega)] at e
      exact (itoa_ne_name n g h2 h3 k1 k2 e).elim
  · rcases hd.cases with ⟨k1, k2, k3⟩ | ⟨k1, k2, k3⟩
    · simp only at h1 h2 h3 k1 k2 k3 e
      subst k1
      rw [if_pos rfl, if_neg (by omega)] at e
      exact (itoa_ne_name m f k2 k3 h1 h2 e.symm).elim
    · simp only at h1 h2 h3 k1 k2 k3 e
      rw [if_neg (by omega), if_neg (by omega)] at e
      rw [name_inj f g h1 h2 k1 k2 e, h3, k3]
theorem text_is (c : Int × Int) (h : IsC c) (w : World) (hg : Glob w) : Calls Tryd.prog 26 #[.agg #[.int .u8 c.1, .int .i64 c.2]] w fun e w' => e = .returned (.tuple #[.string (textOf c), .int .i64 0]) ∧ Ext w w' := by
  obtain ⟨f, n⟩ := c
  rcases h.cases with ⟨h1, h2, h3⟩ | ⟨h1, h2, h3⟩
  · simp only at h1 h2 h3
    subst h1
    exact text_num n h2 h3 w hg
  · simp only at h1 h2 h3
    subst h3
    have e : textOf (f, 0) = ⟨(nameOf f).toArray⟩ := by unfold textOf textL; rw [if_neg (by simp only; omega)]
    rw [e]
    exact text_fault f h1 h2 w
theorem read_is (c : Int × Int) (h : IsC c) (w : World) (hg : Glob w) : Calls Tryd.prog 28 #[.string (textOf c)] w fun e w' => e = .returned (.tuple #[.agg #[.int .u8 c.1, .int .i64 c.2], .int .i64 0]) ∧ Ext w w' := by
  obtain ⟨f, n⟩ := c
  rcases h.cases with ⟨h1, h2, h3⟩ | ⟨h1, h2, h3⟩
  · simp only at h1 h2 h3
    subst h1
    have e : textOf (0, n) = ⟨(Lib.itoa n).toArray⟩ := rfl
    rw [e]
    have hs : NoName ⟨(Lib.itoa n).toArray⟩ := by
      rcases noName_or ⟨(Lib.itoa n).toArray⟩ with h | ⟨f, f1, f2, h⟩
      · exact h
      · exfalso
        have h := congrArg (fun s : ByteArray => s.data.toList) h
        exact itoa_ne_name n f h2 h3 f1 f2 (by simpa using h)
    refine read_num _ ?_ hs n ?_ h2 h3 rfl w hg
    · have := Lib.itoa_length_le n (by omega) (by omega)
      show (Lib.itoa n).toArray.size ≤ _
      simp; omega
    · exact atoi_itoa n h2 h3
  · simp only at h1 h2 h3
    subst h3
    have e : textOf (f, 0) = ⟨(nameOf f).toArray⟩ := by unfold textOf textL; rw [if_neg (by simp only; omega)]
    rw [e]
    exact read_name f h1 h2 w
/-- Which of two cells is before the other one. -/
def lb (c d : Int × Int) : Bool := lessB c.1 c.2 d.1 d.2
theorem lb_self (c : Int × Int) : lb c c = false := by simp [lb, lessB]
theorem lb_not (c d : Int × Int) (h : ¬ c = d) : lb c d = !lb d c := by
  obtain ⟨f, n⟩ := c
  obtain ⟨g, m⟩ := d
  have h' : ¬ (f = g ∧ n = m) := fun e => h (by rw [e.1, e.2])
  cases h1 : lb (f, n) (g, m) <;> cases h2 : lb (g, m) (f, n) <;> simp [lb, lessB] at h1 h2 ⊢ <;> omega
theorem lb_trans (c d e : Int × Int) (h1 : lb c d = true) (h2 : lb d e = true) : lb c e = true := by
  simp [lb, lessB] at h1 h2 ⊢
  omega

theorem walkAt (x y z : Int) (h1 : -2147483648 ≤ x) (h2 : x ≤ 2147483647) (h3 : -2147483648 ≤ y) (h4 : y ≤ 2147483647) (h5 : -2147483648 ≤ z) (h6 : z ≤ 2147483647) (w : World) (hg : Glob w) :
    Calls Tryd.prog 12 #[.int .i32 x, .int .i32 y, .int .i32 z] w fun e w' => e = .returned (.bool true) ∧ Ext w w' := by
  obtain ⟨zs, hzs⟩ : ∃ zs : List (Int × Int), zs = [(cellF x, cellN x), (cellF y, cellN y), (cellF z, cellN z)] := ⟨_, rfl⟩
  have hl : zs.length = 3 := by rw [hzs]; rfl
  have hc : ∀ i, i < 3 → IsC zs[i]! := by
    intro i hi
    have h : i = 0 ∨ i = 1 ∨ i = 2 := by omega
    rcases h with rfl | rfl | rfl
    · rw [hzs]; exact ⟨(cellF_bd x).1, cell_is x⟩
    · rw [hzs]; exact ⟨(cellF_bd y).1, cell_is y⟩
    · rw [hzs]; exact ⟨(cellF_bd z).1, cell_is z⟩
  have ha : allB zs = true := by
    rw [hzs, lawChooses.all3, cell_is x, cell_is y, cell_is z]; rfl
  have hts : ∀ i, i < 3 → (zs.map textOf)[i]! = textOf zs[i]! := by
    intro i hi
    simp [hl, hi]
  have hd : ∀ i k, k < 3 → (i * 3 + k) / 3 = i ∧ (i * 3 + k) % 3 = k := fun i k hk => by omega
  have hB : ∀ i k, k < 3 → lb zs[(i * 3 + k) / 3]! zs[(i * 3 + k) % 3]! = lb zs[i]! zs[k]! := by
    intro i k hk
    rw [(hd i k hk).1, (hd i k hk).2]
  refine walk x y z _ _ _ _ _ _ (fun j => lb zs[j / 3]! zs[j % 3]!) (cellF_bd x).1 (cellF_bd y).1 (cellF_bd z).1 w hg (Lib.hid (fun w' => cell_any x h1 h2 w')) (Lib.hid (fun w' => cell_any y h3 h4 w')) (Lib.hid (fun w' => cell_any z h5 h6 w'))
    zs (Lib.hid hzs) (zs.map textOf) (Lib.hid (by simp [hl])) (Lib.hid (fun i hi w' h => ?_)) (Lib.hid (fun i hi w' h => ?_)) (Lib.hid (fun i g c5 W hi a1 a2 hW => ?_)) (Lib.hid (fun i k hi hk w' => ?_)) (Lib.hid (fun i k hi hk h => ?_)) (Lib.hid (fun i k hi hk h => ?_)) (Lib.hid (fun i k j hi hk hj a b => ?_))
  · rw [hts i hi]; exact text_is _ (hc i hi) w' h
  · rw [hts i hi]; exact read_is _ (hc i hi) w' h
  · refine (pickW_num g 0 3 c5 1 3 (i : Int) zs hl rfl (by omega) (by omega) (by omega) (by omega) (by omega) a1 a2 W hW (by omega) (by omega) ha).mono ?_
    rintro e w' ⟨g6, he, hg6, hr, hx⟩
    have e2 : pickV (i : Int) zs 1 3 = [zs[i]!] := by
      unfold pickV
      rw [if_pos (by omega)]
      have h : i = 0 ∨ i = 1 ∨ i = 2 := by omega
      rcases h with rfl | rfl | rfl <;> rw [hzs] <;> rfl
    rw [e2] at hr
    exact ⟨g6, he, hg6, lawChooses.row_lies hr (fun q hq => by rw [List.mem_singleton] at hq; subst hq; exact (hc i hi).1), hx⟩
  · rw [hB i k hk]
    exact less_ok _ _ _ _ (hc i hi).1 (hc k hk).1 (hc i hi).2 (hc k hk).2 w'
  · rw [hB i k hk, hts i hi, hts k hk, h]
    exact ⟨rfl, lb_self _⟩
  · rw [hB i k hk, hB k i hi, hts i hi, hts k hk]
    exact ⟨fun e => h (text_inj (hc i hi) (hc k hk) e), lb_not _ _ h⟩
  · have a' := (hB i k hk).symm.trans a
    have b' := (hB k j hj).symm.trans b
    exact (hB i j hj).trans (lb_trans _ _ _ a' b')
end Go.Proofs.YtaddlhebhiehgaaDoor.lawReads
