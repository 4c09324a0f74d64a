/-
  ValueLogic: the walk's facts, laid for every three bytes.
-/
import Derived.Test.YtaddlhebhiehgaaDoorLawLogic
import Derived.Test.YtaddlhebhiehgaaDoorLawSpoils
namespace Go.Proofs.YtaddlhebhiehgaaDoor.lawLogic
open Go.RowKit Go.Shelf Go.Proofs.YtaddlhebhiehgaaDoor.lawSpoils

/-- A bool, or a fault. -/
def LC (f n : Int) : Prop := (f = 0 ∧ (n = 0 ∨ n = 1)) ∨ (1 ≤ f ∧ f ≤ 4 ∧ n = 0)
theorem lc_of (x : Int) : LC (cf x) (cn x) := by
  unfold cf cn LC
  split
  · right; omega
  · left; omega
theorem LC.nn {f n : Int} (h : LC f n) : 0 ≤ f := by rcases h with h | h <;> omega
theorem LC.cell {f n : Int} (h : LC f n) : cellB f n = true := by
  rcases h with ⟨rfl, h⟩ | ⟨h1, h2, rfl⟩
  · exact cellB_num n (by omega) (by omega)
  · exact cellB_bad f (by omega) h2
theorem lc0 : LC 0 0 := .inl ⟨rfl, .inl rfl⟩
theorem lc1 : LC 0 1 := .inl ⟨rfl, .inr rfl⟩
/-- Not. -/
def nN (f n : Int) : Int := if f = 0 then (if n = 0 then 1 else 0) else n
theorem LC.neg {f n : Int} (h : LC f n) : LC f (nN f n) := by
  rcases h with ⟨rfl, rfl | rfl⟩ | ⟨h1, h2, rfl⟩
  · exact lc1
  · exact lc0
  · right; refine ⟨h1, h2, ?_⟩; unfold nN; rw [if_neg (by omega)]
theorem LC.negneg {f n : Int} (h : LC f n) : nN f (nN f n) = n := by
  rcases h with ⟨rfl, rfl | rfl⟩ | ⟨h1, h2, rfl⟩
  · rfl
  · rfl
  · unfold nN; rw [if_neg (by omega), if_neg (by omega)]
theorem not_any (f n : Int) (h : LC f n) (m : Int) (e : nN f n = m) : Hid (∀ w', Calls Tryd.prog 41 #[.int .u8 6, .agg #[.int .u8 f, .int .i64 n]] w' fun e w'' => e = .returned (.tuple #[.agg #[.int .u8 f, .int .i64 m], .int .i64 0]) ∧ Ext w' w'') := by
  subst e
  have hc := h.cell
  rcases h with ⟨rfl, rfl | rfl⟩ | ⟨h1, h2, rfl⟩
  · exact Lib.hid (fun w' => op1_not 0 (by omega) (by omega) w')
  · exact Lib.hid (fun w' => op1_not 1 (by omega) (by omega) w')
  · have e : nN f 0 = 0 := by unfold nN; rw [if_neg (by omega)]
    rw [e]
    exact Lib.hid (fun w' => op1_fault 6 f 0 (by omega) (.inr rfl) hc (by omega) w')
/-- What is chosen. -/
def cF (f1 n1 f2 f3 : Int) : Int := if f1 = 0 then (if n1 = 0 then f3 else f2) else f1
def cN (f1 n1 n2 n3 : Int) : Int := if f1 = 0 then (if n1 = 0 then n3 else n2) else n1
theorem LC.ch {f1 n1 f2 n2 f3 n3 : Int} (h1 : LC f1 n1) (h2 : LC f2 n2) (h3 : LC f3 n3) : LC (cF f1 n1 f2 f3) (cN f1 n1 n2 n3) := by
  unfold cF cN
  split
  · split
    · exact h3
    · exact h2
  · exact h1
theorem and_any (f1 n1 f2 n2 : Int) (h1 : LC f1 n1) (h2 : LC f2 n2) (rf rn : Int) (e1 : cF f1 n1 f2 0 = rf) (e2 : cN f1 n1 n2 0 = rn) : Hid (∀ w', Calls Tryd.prog 14 #[.int .u8 15, .agg #[.int .u8 f1, .int .i64 n1], .agg #[.int .u8 f2, .int .i64 n2]] w' fun e w'' => e = .returned (.tuple #[.agg #[.int .u8 rf, .int .i64 rn], .int .i64 0]) ∧ Ext w' w'') :=
  k15 f1 n1 f2 n2 h1.nn h2.nn h1.cell h2.cell rf rn e1 e2
theorem or_any (f1 n1 f2 n2 : Int) (h1 : LC f1 n1) (h2 : LC f2 n2) (rf rn : Int) (e1 : cF f1 n1 0 f2 = rf) (e2 : cN f1 n1 1 n2 = rn) : Hid (∀ w', Calls Tryd.prog 14 #[.int .u8 16, .agg #[.int .u8 f1, .int .i64 n1], .agg #[.int .u8 f2, .int .i64 n2]] w' fun e w'' => e = .returned (.tuple #[.agg #[.int .u8 rf, .int .i64 rn], .int .i64 0]) ∧ Ext w' w'') :=
  k16 f1 n1 f2 n2 h1.nn h2.nn h1.cell h2.cell rf rn e1 e2
theorem ch_any (f1 n1 f2 n2 f3 n3 : Int) (h1 : LC f1 n1) (h2 : LC f2 n2) (h3 : LC f3 n3) (rf rn : Int) (e1 : cF f1 n1 f2 f3 = rf) (e2 : cN f1 n1 n2 n3 = rn) : Hid (∀ w', Calls Tryd.prog 19 #[.agg #[.int .u8 f1, .int .i64 n1], .agg #[.int .u8 f2, .int .i64 n2], .agg #[.int .u8 f3, .int .i64 n3]] w' fun e w'' => e = .returned (.tuple #[.agg #[.int .u8 rf, .int .i64 rn], .int .i64 0]) ∧ Ext w' w'') :=
  k17 f1 n1 f2 n2 f3 n3 h1.nn h2.nn h3.nn h1.cell h2.cell h3.cell rf rn e1 e2

/-- The laws, cell by cell. -/
theorem dm1 (f1 n1 f2 n2 : Int) (h1 : LC f1 n1) : cF f1 (nN f1 n1) 0 f2 = cF f1 n1 f2 0 ∧ cN f1 (nN f1 n1) 1 (nN f2 n2) = nN (cF f1 n1 f2 0) (cN f1 n1 n2 0) := by
  rcases h1 with ⟨rfl, rfl | rfl⟩ | ⟨a1, a2, rfl⟩
  · exact ⟨rfl, rfl⟩
  · exact ⟨rfl, rfl⟩
  · unfold cF cN
    rw [if_neg (by omega), if_neg (by omega), if_neg (by omega), if_neg (by omega)]
    exact ⟨rfl, rfl⟩
theorem dm2 (f1 n1 f2 n2 : Int) (h1 : LC f1 n1) : cF f1 (nN f1 n1) f2 0 = cF f1 n1 0 f2 ∧ cN f1 (nN f1 n1) (nN f2 n2) 0 = nN (cF f1 n1 0 f2) (cN f1 n1 1 n2) := by
  rcases h1 with ⟨rfl, rfl | rfl⟩ | ⟨a1, a2, rfl⟩
  · exact ⟨rfl, rfl⟩
  · exact ⟨rfl, rfl⟩
  · unfold cF cN
    rw [if_neg (by omega), if_neg (by omega), if_neg (by omega), if_neg (by omega)]
    exact ⟨rfl, rfl⟩
theorem turn (f1 n1 f2 n2 f3 n3 : Int) (h1 : LC f1 n1) : cF f1 (nN f1 n1) f2 f3 = cF f1 n1 f3 f2 ∧ cN f1 (nN f1 n1) n2 n3 = cN f1 n1 n3 n2 := by
  rcases h1 with ⟨rfl, rfl | rfl⟩ | ⟨a1, a2, rfl⟩
  · exact ⟨rfl, rfl⟩
  · exact ⟨rfl, rfl⟩
  · have h : ¬ f1 = 0 := by omega
    simp [cF, cN, nN, h]

theorem walkAt (x y z : Int) (hx : 0 ≤ x) (hx' : x ≤ 255) (hy : 0 ≤ y) (hy' : y ≤ 255) (hz : 0 ≤ z) (hz' : z ≤ 255) (w : World) (hg : Glob w) :
    Calls Tryd.prog 11 #[.agg #[.int .u8 x, .int .u8 y, .int .u8 z]] w fun e w' => e = .returned (.bool true) ∧ Ext w w' := by
  have h1 := lc_of x
  have h2 := lc_of y
  have h3 := lc_of z
  have e1 := Lib.hid (show cf x = cf x ∧ cn x = cn x from ⟨rfl, rfl⟩)
  have e2 := Lib.hid (show cf y = cf y ∧ cn y = cn y from ⟨rfl, rfl⟩)
  have e3 := Lib.hid (show cf z = cf z ∧ cn z = cn z from ⟨rfl, rfl⟩)
  generalize ha : cf x = f1 at h1 e1
  generalize hb : cn x = n1 at h1 e1
  generalize hc : cf y = f2 at h2 e2
  generalize hd : cn y = n2 at h2 e2
  generalize he : cf z = f3 at h3 e3
  generalize hf : cn z = n3 at h3 e3
  have hab := h1.ch h2 lc0
  have hob := h1.ch lc1 h2
  exact walk x y z f1 n1 f2 n2 f3 n3 _ _ _ _ _ _ _ _ _ _ _ _ _ _ hx hx' hy hy' hz hz' (Lib.hid ⟨ha, hb⟩) (Lib.hid ⟨hc, hd⟩) (Lib.hid ⟨he, hf⟩) w hg
    (and_any f1 n1 f2 n2 h1 h2 _ _ rfl rfl) (not_any _ _ hab _ rfl) (not_any f1 n1 h1 _ rfl) (not_any f2 n2 h2 _ rfl) (or_any f1 _ f2 _ h1.neg h2.neg _ _ (dm1 f1 n1 f2 n2 h1).1 (dm1 f1 n1 f2 n2 h1).2)
    (or_any f1 n1 f2 n2 h1 h2 _ _ rfl rfl) (not_any _ _ hob _ rfl) (and_any f1 _ f2 _ h1.neg h2.neg _ _ (dm2 f1 n1 f2 n2 h1).1 (dm2 f1 n1 f2 n2 h1).2)
    (ch_any f1 n1 f2 n2 0 0 h1 h2 lc0 _ _ rfl rfl) (ch_any f1 n1 0 1 f2 n2 h1 lc1 h2 _ _ rfl rfl) (ch_any f1 _ f2 n2 f3 n3 h1.neg h2 h3 _ _ (turn f1 n1 f2 n2 f3 n3 h1).1 (turn f1 n1 f2 n2 f3 n3 h1).2) (ch_any f1 n1 f3 n3 f2 n2 h1 h3 h2 _ _ rfl rfl) (not_any f1 _ h1.neg _ h1.negneg)
end Go.Proofs.YtaddlhebhiehgaaDoor.lawLogic
