/-
  Part 21 of a proof: HFn54 LH1.
-/
import Derived.Test.YtdokmmhjmclmnaaGreatMP19
import Derived.Test.YtdokmmhjmclmnaaGreatMP20
set_option linter.unusedSimpArgs false
set_option linter.unusedVariables false
set_option linter.unusedSectionVars false
set_option linter.unnecessarySimpa false
namespace Go.Proofs.YtdokmmhjmclmnaaGreat
open Go.RowKit Go.Maps
theorem Row.words {w : World} {base g c : Nat} {l : List Int} (h : Row w base (some ⟨g, 0, none⟩) c l) : WordsAt w g l ∧ l.length ≤ c ∧ c ≤ 9223372036854775807 := by
 rcases h.1 with ⟨hx, ⟨e, _⟩ | ⟨g', cap, cur, e, h1, hg, h2, h3, h4, h5⟩⟩
 · injection e with e1
   cases e1
 · injection e with e1 e2 e3
   injection e1 with e1
   injection e1 with e1 _ _
   subst e1 e3; rw [Nat.mul_one] at h5; refine ⟨⟨⟨cur.toList.drop l.length, ?_⟩, h.2⟩, h2, by unfold maxLen at h3; omega⟩; rw [← h5, List.take_append_drop]; exact hg
def IntsPost (w : World) (l : List Int) (e : Ending) (w' : World) : Prop := ∃ p c, e = .returned (.slice p l.length c) ∧ Row w' w.heap.size p c l ∧ Ext w w' ∧ (0 < l.length ∨ p = none)
set_option maxHeartbeats 4000000 in
theorem ints_any {w : World} {p : Option Addr} {c : Nat} {l : List Int} (h : SliceAt w p c l) (hp : p = none → c = 0) (hl : l.length ≤ 1000000) :
    Calls Tryz.prog 17 #[.slice p l.length c] w (IntsPost w l) := by
  obtain ⟨i0, hi, hz0, hz1, hz2⟩ := info_parts (show (Tryz.prog.info? 3).map (fun i => (i.zero, i.size, i.bytes)) = some (some (.int .i64 0), 1, 8) from by kernel_rfl); have main : ∀ ad : Addr, p = some ad → (∀ j u, (ints l)[j]? = some u → w.cell? (ad.add j) = some u) → Calls Tryz.prog 17 #[.slice p l.length c] w (IntsPost w l) := by
   rintro ad rfl hc; have HC := Lib.hid hc; have WF := Lib.hid h.wf; clear h hc hp; go_enter Tryz.func17, Tryz.ntmps17
   go_wp2_with (at_builtin; refine Go.wpList_append_own _ rfl _ _ 22 rfl w.heap.size 3 i0 (.int .i64 0) 1 8 Tryz.underlying22 hi hz0 hz1 hz2 rfl (by decide) _ 0 [] rfl (World.ownsRow_nil w _ _ _) ad l.length c (ints l) rfl ?qc1 ?qc2 ?qc3 ?qc4 ?qc5 ?qc6 ?_)
   case qc1 => simp [ints]
   case qc2 => exact HC.out
   case qc3 => intro u hu; obtain ⟨x, _, rfl⟩ := List.mem_map.1 hu; rfl
   case qc4 => unfold maxLen; omega
   case qc5 => omega
   case qc6 => omega
   intro v' w1 hown hgrow hnil; go_wp2; go_returns; have hE : Ext w w1 := ((Below.refl _ w)).grown hgrow (by simp) (by intro k hk; simp [Value.ownBlock] at hk)
   rcases hown.2 with ⟨rfl, hz⟩ | ⟨g, cap, cur, rfl, h1, h2⟩
   · have hz' : l.length = 0 := by omega
     have : l = [] := List.eq_nil_of_length_eq_zero hz'; subst this; exact ⟨none, 0, rfl, Row.nil _ _, hE, .inr rfl⟩
   · refine ⟨some ⟨g, 0, none⟩, cap, by simp, ⟨by simpa using hown, WF.out⟩, hE, .inl ?_⟩
     rcases Nat.eq_zero_or_pos l.length with h0 | h0
     · have := hnil.2 (List.eq_nil_of_length_eq_zero h0)
       cases this
     · exact h0
  by_cases h0 : 0 < l.length
  · obtain ⟨b, o, rfl, hb, hc⟩ := h.cells h0; refine main _ rfl fun j u hj => ?_
    obtain ⟨hj1, hj2⟩ := List.getElem?_eq_some_iff.1 hj; have hj3 : j < l.length := by simpa [ints] using hj1
    rw [Addr.add_lit, hc j l[j] (List.getElem?_eq_getElem hj3), ← hj2]; simp [ints]
  · have hl0 : l = [] := List.eq_nil_of_length_eq_zero (by omega)
    cases p with
    | some ad => exact main ad rfl fun j u hj => by subst hl0; simp [ints] at hj
    | none =>
     have := hp rfl; subst this hl0; clear h hp main h0; go_enter Tryz.func17, Tryz.ntmps17; go_wp2; go_returns; exact ⟨none, 0, rfl, Row.nil _ _, exx, .inr rfl⟩
end Go.Proofs.YtdokmmhjmclmnaaGreat
