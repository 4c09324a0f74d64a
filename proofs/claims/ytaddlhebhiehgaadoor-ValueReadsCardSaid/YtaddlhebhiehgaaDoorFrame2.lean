/-
  Opening and shutting a parameter that is a cell (a struct by value).
-/
import Derived.Test.YtaddlhebhiehgaaDoorFrame
import Derived.Lib.SmallJoins
namespace Go.Proofs.YtaddlhebhiehgaaDoor
open Go.ChangeShapes Go.WideShapes Go.ChangeAt Go.RowKit Go.Joins

theorem cellsV : Tryd.prog.cellsOf 23 = 2 := by kernel_rfl
section
variable {H : Type} {enc : TypeId × Value → H} {w : World} {base : Nat} {spare : Nat → Bool} {held : Bool}
set_option maxRecDepth 100000 in
theorem open_val {r : Reach} {b0 : Nat} {v : Value} {d : DataW H} {p : List MemPlace} (hv : Value.okWide Tryd.prog w r b0 23 v) (h : DataW.Trod enc Tryd.prog w base spare held 23 v d p) :
    ∃ f n : Int, v = .agg #[.int .u8 f, .int .i64 n] ∧ d = .agg [.lit (.int .u8 f), .lit (.int .i64 n)] ∧ p = [] ∧ (Lit.int .u8 f).wf = true ∧ (Lit.int .i64 n).wf = true := by
  obtain ⟨c0, c1, y0, y1, m, rfl, rfl, rfl, hy0, hy1⟩ := open_agg2 Tryd.underlying23 (by kernel_rfl) cellsV hv h
  obtain ⟨f, e0, rfl, wf0⟩ := DataW.trod_int Tryd.underlying5 hy0
  obtain ⟨n, e1, rfl, wf1⟩ := DataW.trod_int Tryd.underlying3 hy1
  simp at e0 e1
  subst e0 e1
  exact ⟨f, n, rfl, rfl, rfl, wf0, wf1⟩
set_option maxRecDepth 100000 in
theorem shut_val {f n : Int} (h0 : (Lit.int .u8 f).wf = true) (h1 : (Lit.int .i64 n).wf = true) :
    DataW.Trod enc Tryd.prog w base spare held 23 (.agg #[.int .u8 f, .int .i64 n]) (.agg [.lit (.int .u8 f), .lit (.int .i64 n)]) [] :=
  shut_agg2 (y0 := (.lit (.int .u8 f), [])) (y1 := (.lit (.int .i64 n), [])) Tryd.underlying23 (by kernel_rfl) cellsV ⟨1, by simp [DataW.trod, Tryd.underlying5, h0]⟩ ⟨1, by simp [DataW.trod, Tryd.underlying3, h1]⟩
end
end Go.Proofs.YtaddlhebhiehgaaDoor
