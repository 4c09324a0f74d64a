/-
  ValueSpoils: the walk, joined out of its cases.
-/
import Derived.Test.YtaddlhebhiehgaaDoorLawCell
import Derived.Test.YtaddlhebhiehgaaDoorLawSpo1
import Derived.Test.YtaddlhebhiehgaaDoorLawSpo2
import Derived.Test.YtaddlhebhiehgaaDoorLawSpo3
import Derived.Test.YtaddlhebhiehgaaDoorLawSpo4
namespace Go.Proofs.YtaddlhebhiehgaaDoor.lawSpoils
open Go.RowKit Go.Shelf Go.Proofs.YtaddlhebhiehgaaDoor.lawSums Go.Proofs.YtaddlhebhiehgaaDoor.lawCell

theorem k15 (f1 n1 f2 n2 : Int) (g1 : 0 ≤ f1) (g2 : 0 ≤ f2) (c1 : cellB f1 n1 = true) (c2 : cellB f2 n2 = true) (rf rn : Int) (e1 : chF f1 n1 f2 0 = rf) (e2 : (if f1 = 0 then (if n1 = 0 then 0 else n2) else n1) = rn) :
    Hid (∀ w', Calls Tryd.prog 14 #[.int .u8 15, .agg #[.int .u8 f1, .int .i64 n1], .agg #[.int .u8 f2, .int .i64 n2]] w' fun e w'' => e = .returned (.tuple #[.agg #[.int .u8 rf, .int .i64 rn], .int .i64 0]) ∧ Ext w' w'') := by
  subst e1; subst e2
  exact Lib.hid (fun w' => op2_and_ok f1 n1 f2 n2 g1 g2 c1 c2 w')
theorem k16 (f1 n1 f2 n2 : Int) (g1 : 0 ≤ f1) (g2 : 0 ≤ f2) (c1 : cellB f1 n1 = true) (c2 : cellB f2 n2 = true) (rf rn : Int) (e1 : chF f1 n1 0 f2 = rf) (e2 : (if f1 = 0 then (if n1 = 0 then n2 else 1) else n1) = rn) :
    Hid (∀ w', Calls Tryd.prog 14 #[.int .u8 16, .agg #[.int .u8 f1, .int .i64 n1], .agg #[.int .u8 f2, .int .i64 n2]] w' fun e w'' => e = .returned (.tuple #[.agg #[.int .u8 rf, .int .i64 rn], .int .i64 0]) ∧ Ext w' w'') := by
  subst e1; subst e2
  exact Lib.hid (fun w' => op2_or_ok f1 n1 f2 n2 g1 g2 c1 c2 w')
theorem k17 (f1 n1 f2 n2 f3 n3 : Int) (g1 : 0 ≤ f1) (g2 : 0 ≤ f2) (g3 : 0 ≤ f3) (c1 : cellB f1 n1 = true) (c2 : cellB f2 n2 = true) (c3 : cellB f3 n3 = true) (rf rn : Int) (e1 : chF f1 n1 f2 f3 = rf) (e2 : (if f1 = 0 then (if n1 = 0 then n3 else n2) else n1) = rn) :
    Hid (∀ w', Calls Tryd.prog 19 #[.agg #[.int .u8 f1, .int .i64 n1], .agg #[.int .u8 f2, .int .i64 n2], .agg #[.int .u8 f3, .int .i64 n3]] w' fun e w'' => e = .returned (.tuple #[.agg #[.int .u8 rf, .int .i64 rn], .int .i64 0]) ∧ Ext w' w'') := by
  subst e1; subst e2
  exact Lib.hid (fun w' => choose_ok f1 n1 f2 n2 f3 n3 g1 g2 g3 c1 c2 c3 w')
theorem bit_cell (b : Bool) : cellB 0 (bit b) = true := by cases b <;> decide
theorem two_way (n : Int) : mkF n = 0 ∨ mkF n = 2 := by
  rcases lawSums.mk_cases n with h | h
  · exact .inl h.1
  · exact .inr h.1
theorem cell_zero {n : Int} (h : cellB 0 n = true) : -9999 ≤ n ∧ n ≤ 9999 := by simpa [cellB] using h

theorem walkAt (x y : Int) (h1 : -2147483648 ≤ x) (h2 : x ≤ 2147483647) (h3 : -2147483648 ≤ y) (h4 : y ≤ 2147483647) (w : World) (hg : Glob w) :
    Calls Tryd.prog 7 #[.int .i32 x, .int .i32 y] w fun e w' => e = .returned (.bool true) ∧ Ext w w' := by
  have HX := fun w' => cell_any x h1 h2 w'
  have HY := fun w' => cell_any y h3 h4 w'
  have ca := cell_is x
  have cb := cell_is y
  obtain ⟨g1, -⟩ := cellF_bd x
  obtain ⟨g2, -⟩ := cellF_bd y
  generalize cellF x = f1 at HX ca g1
  generalize cellN x = n1 at HX ca
  generalize cellF y = f2 at HY cb g2
  generalize cellN y = n2 at HY cb
  have HX := Lib.hid HX
  have HY := Lib.hid HY
  by_cases z1 : f1 = 0
  · subst z1
    obtain ⟨a1, a2⟩ := cell_zero ca
    have h5 := Lib.hid (fun w' => op1_neg n1 a1 a2 w')
    have h6 := Lib.hid (fun w' => op1_not n1 a1 a2 w')
    have cneg : cellB 0 (-n1) = true := cellB_num _ (by omega) (by omega)
    by_cases z2 : f2 = 0
    · subst z2
      obtain ⟨b1, b2⟩ := cell_zero cb
      have h7 := Lib.hid (fun w' => op2_num7 n1 n2 a1 a2 b1 b2 w')
      have h8 := Lib.hid (fun w' => op2_num8 n1 n2 a1 a2 b1 b2 w')
      have h9 := Lib.hid (fun w' => op2_num9 n1 n2 a1 a2 b1 b2 w')
      have h12 := Lib.hid (fun w' => op2_num12 n1 n2 a1 a2 b1 b2 w')
      have h13 := Lib.hid (fun w' => op2_num13 n1 n2 a1 a2 b1 b2 w')
      have h14 := Lib.hid (fun w' => op2_num14 n1 n2 a1 a2 b1 b2 w')
      have h15 := k15 0 n1 0 n2 (by omega) (by omega) ca cb 0 _ (by simp [chF]) rfl
      have h16 := k16 0 n1 0 n2 (by omega) (by omega) ca cb 0 _ (by simp [chF]) rfl
      have h17 := k17 0 n1 0 n2 0 n2 (by omega) (by omega) (by omega) ca cb cb 0 n2 (by simp [chF]) (by simp)
      have c15 : cellB 0 (if (0 : Int) = 0 then (if n1 = 0 then 0 else n2) else n1) = true := by
        rw [if_pos rfl]; split
        · decide
        · exact cb
      have c16 : cellB 0 (if (0 : Int) = 0 then (if n1 = 0 then n2 else 1) else n1) = true := by
        rw [if_pos rfl]; split
        · exact cb
        · decide
      by_cases z3 : n2 = 0
      · subst z3
        exact walk_z x y n1 _ _ _ _ _ _ _ _ _ _ _ _ _ w hg (mk_cell _).2 (two_way _) (mk_cell _).2 (two_way _) (mk_cell _).2 (two_way _) cneg (bit_cell _) (bit_cell _) (bit_cell _) (bit_cell _) c15 c16 HX HY
          h5 h6 h7 h8 h9 (Lib.hid (fun w' => op2_num10z n1 0 a1 a2 w')) (Lib.hid (fun w' => op2_num11z n1 0 a1 a2 w')) h12 h13 h14 h15 h16 h17
      · have q := fdiv_bd n1 n2 a1 a2 z3
        have r := fmod_bd n1 n2 b1 b2 z3
        exact walk_n x y n1 n2 _ _ _ _ _ _ _ _ _ _ _ _ _ _ _ w hg z3 cb (mk_cell _).2 (two_way _) (mk_cell _).2 (two_way _) (mk_cell _).2 (two_way _) cneg (bit_cell _) (cellB_num _ q.1 q.2) (cellB_num _ r.1 r.2) (bit_cell _) (bit_cell _) (bit_cell _) c15 c16 HX HY
          h5 h6 h7 h8 h9 (Lib.hid (fun w' => op2_num10 n1 n2 a1 a2 b1 b2 z3 w')) (Lib.hid (fun w' => op2_num11 n1 n2 a1 a2 b1 b2 z3 w')) h12 h13 h14 h15 h16 h17
    · have hF := fun c h7 h14 => Lib.hid (fun w' => op2_faultB c n1 f2 n2 h7 h14 g2 ca cb z2 w')
      have g15 : 0 ≤ chF 0 n1 f2 0 := by unfold chF; rw [if_pos rfl]; split <;> omega
      have g16 : 0 ≤ chF 0 n1 0 f2 := by unfold chF; rw [if_pos rfl]; split <;> omega
      have c15 : cellB (chF 0 n1 f2 0) (if (0 : Int) = 0 then (if n1 = 0 then 0 else n2) else n1) = true := by
        unfold chF; rw [if_pos rfl, if_pos rfl]; split
        · decide
        · exact cb
      have c16 : cellB (chF 0 n1 0 f2) (if (0 : Int) = 0 then (if n1 = 0 then n2 else 1) else n1) = true := by
        unfold chF; rw [if_pos rfl, if_pos rfl]; split
        · exact cb
        · decide
      exact walk_f x y n1 f2 n2 _ _ _ _ _ _ w hg (by omega) cb g15 c15 g16 c16 cneg (bit_cell _) HX HY
        h5 h6 (hF 7 (by omega) (by omega)) (hF 8 (by omega) (by omega)) (hF 9 (by omega) (by omega)) (hF 10 (by omega) (by omega)) (hF 11 (by omega) (by omega)) (hF 12 (by omega) (by omega)) (hF 13 (by omega) (by omega)) (hF 14 (by omega) (by omega))
        (k15 0 n1 f2 n2 (by omega) g2 ca cb _ _ rfl rfl) (k16 0 n1 f2 n2 (by omega) g2 ca cb _ _ rfl rfl) (k17 0 n1 f2 n2 f2 n2 (by omega) g2 g2 ca cb cb f2 n2 (by simp [chF]) (by simp))
  · have hF := fun c h7 h14 => Lib.hid (fun w' => op2_faultA c f1 n1 f2 n2 h7 h14 g1 g2 ca cb z1 w')
    exact walk_a x y f1 n1 f2 n2 w hg (by omega) g2 ca HX HY
      (Lib.hid (fun w' => op1_fault 5 f1 n1 g1 (.inl rfl) ca z1 w')) (Lib.hid (fun w' => op1_fault 6 f1 n1 g1 (.inr rfl) ca z1 w'))
      (hF 7 (by omega) (by omega)) (hF 8 (by omega) (by omega)) (hF 9 (by omega) (by omega)) (hF 10 (by omega) (by omega)) (hF 11 (by omega) (by omega)) (hF 12 (by omega) (by omega)) (hF 13 (by omega) (by omega)) (hF 14 (by omega) (by omega))
      (k15 f1 n1 f2 n2 g1 g2 ca cb f1 n1 (by simp [chF, z1]) (by simp [z1])) (k16 f1 n1 f2 n2 g1 g2 ca cb f1 n1 (by simp [chF, z1]) (by simp [z1])) (k17 f1 n1 f2 n2 f2 n2 g1 g2 g2 ca cb cb f1 n1 (by simp [chF, z1]) (by simp [z1]))
end Go.Proofs.YtaddlhebhiehgaaDoor.lawSpoils
