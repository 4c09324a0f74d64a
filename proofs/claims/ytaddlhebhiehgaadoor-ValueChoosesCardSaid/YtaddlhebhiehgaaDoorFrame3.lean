/-
  Opening and shutting parameters that are arrays of three, or slices of cells.
-/
import Derived.Test.YtaddlhebhiehgaaDoorFrame2
import Derived.Test.YtaddlhebhiehgaaDoorRef7
import Derived.Laws.IdiomArrays
import Derived.Deep.SlicePairs
namespace Go.Proofs.YtaddlhebhiehgaaDoor
open Go.ChangeShapes Go.WideShapes Go.ChangeAt Go.RowKit Go.Joins

theorem cellsB : Tryd.prog.cellsOf 5 = 1 := by kernel_rfl
theorem cellsI : Tryd.prog.cellsOf 3 = 1 := by kernel_rfl
theorem cellsB3 : Tryd.prog.cellsOf 67 = 3 := by kernel_rfl
theorem cellsV3 : Tryd.prog.cellsOf 32 = 6 := by kernel_rfl
section
variable {H : Type} {enc : TypeId × Value → H} {w : World} {base : Nat} {spare : Nat → Bool} {held : Bool}
set_option maxRecDepth 100000 in
theorem okWide_arr3 {r : Reach} {b0 : Nat} {t e : TypeId} {n : Nat} {v : Value} (ht : Tryd.prog.underlying t = some (.array n e)) (h : Value.okWide Tryd.prog w r b0 t v) : ∃ cs : Array Value, v = .agg cs ∧ cs.size = Tryd.prog.cellsOf t := by
  simp only [Value.okWide, ht] at h
  obtain ⟨cs, h1, h2, _⟩ := h
  exact ⟨cs, h1, h2⟩
set_option maxRecDepth 100000 in
theorem open_b3 {r : Reach} {b0 : Nat} {v : Value} {d : DataW H} {p : List MemPlace} (hv : Value.okWide Tryd.prog w r b0 67 v) (h : DataW.Trod enc Tryd.prog w base spare held 67 v d p) :
    ∃ x y z : Int, v = .agg #[.int .u8 x, .int .u8 y, .int .u8 z] ∧ d = .agg [.lit (.int .u8 x), .lit (.int .u8 y), .lit (.int .u8 z)] ∧ p = [] ∧ (Lit.int .u8 x).wf = true ∧ (Lit.int .u8 y).wf = true ∧ (Lit.int .u8 z).wf = true := by
  obtain ⟨⟨cs⟩, rfl, hsz⟩ := okWide_arr3 Tryd.underlying67 hv
  rw [cellsB3] at hsz
  obtain ⟨fuel, hf⟩ := h
  match cs, hsz with
  | [c0, c1, c2], _ =>
    obtain ⟨y0, y1, y2, n, hx, h0, h1, h2⟩ := trod_array3 Tryd.underlying67 cellsB hf
    obtain ⟨x, e0, rfl, wf0⟩ := DataW.trod_int Tryd.underlying5 h0
    obtain ⟨y, e1, rfl, wf1⟩ := DataW.trod_int Tryd.underlying5 h1
    obtain ⟨z, e2, rfl, wf2⟩ := DataW.trod_int Tryd.underlying5 h2
    simp at e0 e1 e2
    subst e0 e1 e2
    simp only [Prod.mk.injEq] at hx
    exact ⟨x, y, z, rfl, hx.1, hx.2, wf0, wf1, wf2⟩
set_option maxRecDepth 100000 in
theorem shut_b3 {x y z : Int} (h0 : (Lit.int .u8 x).wf = true) (h1 : (Lit.int .u8 y).wf = true) (h2 : (Lit.int .u8 z).wf = true) :
    DataW.Trod enc Tryd.prog w base spare held 67 (.agg #[.int .u8 x, .int .u8 y, .int .u8 z]) (.agg [.lit (.int .u8 x), .lit (.int .u8 y), .lit (.int .u8 z)]) [] := by
  refine ⟨2, ?_⟩
  have r3 : List.range 3 = [0, 1, 2] := rfl
  simp [DataW.trod, Value.cells, Tryd.underlying67, cellsB3, cellsB, r3, Tryd.underlying5, h0, h1, h2]

set_option maxRecDepth 100000 in
theorem open_v3 {r : Reach} {b0 : Nat} {v : Value} {d : DataW H} {p : List MemPlace} (hv : Value.okWide Tryd.prog w r b0 32 v) (h : DataW.Trod enc Tryd.prog w base spare held 32 v d p) :
    ∃ f0 n0 f1 n1 f2 n2 : Int, v = .agg #[.int .u8 f0, .int .i64 n0, .int .u8 f1, .int .i64 n1, .int .u8 f2, .int .i64 n2] ∧ 0 ≤ f0 ∧ 0 ≤ f1 ∧ 0 ≤ f2 := by
  obtain ⟨⟨cs⟩, rfl, hsz⟩ := okWide_arr3 Tryd.underlying32 hv
  rw [cellsV3] at hsz
  obtain ⟨fuel, hf⟩ := h
  match cs, hsz with
  | [c0, c1, c2, c3, c4, c5], _ =>
    obtain ⟨xs, m, rfl, -, -, hl, hi⟩ := DataW.trod_array Tryd.underlying32 hf
    have key : ∀ (i : Nat) (a b : Value), i < 3 → (([c0, c1, c2, c3, c4, c5].drop (i * 2)).take 2) = [a, b] → xs.length = 3 → ∃ f n : Int, a = .int .u8 f ∧ b = .int .i64 n ∧ 0 ≤ f := by
      intro i a b h3 he hl
      have h1 := hi i h3
      rw [cellsV] at h1
      simp only [Value.cells] at h1
      rw [he, List.getElem?_eq_getElem (by omega)] at h1
      obtain ⟨y0, y1, n', hx, _, h0, h1⟩ := trod_struct2 Tryd.underlying23 h1
      obtain ⟨f, e0, _, wf0⟩ := DataW.trod_int Tryd.underlying5 h0
      obtain ⟨n, e1, _, _⟩ := DataW.trod_int Tryd.underlying3 h1
      rw [cellsB] at e0
      rw [cellsI] at e1
      simp at e0 e1
      exact ⟨f, n, e0, e1, (bounds_u8 wf0).1⟩
    obtain ⟨f0, n0, rfl, rfl, z0⟩ := key 0 c0 c1 (by omega) rfl hl
    obtain ⟨f1, n1, rfl, rfl, z1⟩ := key 1 c2 c3 (by omega) rfl hl
    obtain ⟨f2, n2, rfl, rfl, z2⟩ := key 2 c4 c5 (by omega) rfl hl
    exact ⟨f0, n0, f1, n1, f2, n2, rfl, z0, z1, z2⟩
set_option maxRecDepth 100000 in
theorem open_vals {r : Reach} {b0 : Nat} {v : Value} {d : DataW H} {p : List MemPlace} (hv : Value.okWide Tryd.prog w r b0 33 v) (h : DataW.Trod enc Tryd.prog w base (fun _ => true) held 33 v d p) :
    v = .slice none 0 0 ∨ (∃ (a : Addr) (c : Nat), v = .slice (some a) 0 c) ∨ ∃ (b off n c : Nat) (zs : List (Int × Int)), v = .slice (some ⟨b, off, none⟩) n c ∧ zs.length = n ∧ 0 < n ∧ n ≤ c ∧ c ≤ maxLen ∧ Lies w b off zs := by
  obtain ⟨a', len', cap', rfl⟩ := okWide_slice Tryd.underlying33 hv
  obtain ⟨fuel, hf⟩ := h
  rcases Go.Deep.open_slice_pairs Tryd.underlying33 Tryd.underlying23 cellsV rfl rfl (by kernel_rfl) (by kernel_rfl) hf with ⟨hcs, -⟩ | ⟨a, len, cap, m, n, V0, V1, D0, D1, P0, P1, hcs, hb, hl, hm, hmm, hx, hi⟩
  · simp only [Value.cells] at hcs
    exact .inl (List.cons.inj hcs).1
  · simp only [Value.cells] at hcs
    have hcs := (List.cons.inj hcs).1
    simp only [if_true] at hmm
    subst hmm
    by_cases h0 : len = 0
    · subst h0
      exact .inr (.inl ⟨a, m, hcs⟩)
    · right; right
      obtain ⟨b, off, spot⟩ := a
      have hspot : spot = none := by simpa [Addr.add] using World.cell?_spot (hi 0 (by omega)).1
      subst hspot
      have num : ∀ i, i < m → ∃ z : Int × Int, V0 i = .int .u8 z.1 ∧ V1 i = .int .i64 z.2 ∧ 0 ≤ z.1 := by
        intro i h
        obtain ⟨-, -, h2, h3⟩ := hi i h
        obtain ⟨f, e0, _, wf0⟩ := DataW.trod_int Tryd.underlying5 h2
        obtain ⟨k, e1, _, _⟩ := DataW.trod_int Tryd.underlying3 h3
        simp at e0 e1
        exact ⟨(f, k), e0, e1, (bounds_u8 wf0).1⟩
      obtain ⟨z, hz⟩ : ∃ z : Nat → Int × Int, ∀ i, i < m → V0 i = .int .u8 (z i).1 ∧ V1 i = .int .i64 (z i).2 ∧ 0 ≤ (z i).1 :=
        ⟨fun i => if h : i < m then (num i h).choose else (0, 0), fun i h => by simp only [dif_pos h]; exact (num i h).choose_spec⟩
      refine ⟨b, off, len, m, (List.range len).map z, hcs, by simp, by omega, hl, hm, ?_⟩
      have g : ∀ i, i < len → ((List.range len).map z)[i]! = z i := fun i h => by simp [h]
      refine ⟨cell_lt (o := off) (v := V0 0) ?_, fun j hj => ?_⟩
      · have := (hi 0 (by omega)).1
        rwa [add_off, Nat.zero_mul, Nat.add_zero] at this
      · rw [List.length_map, List.length_range] at hj
        rw [g j hj]
        obtain ⟨q1, q2, -, -⟩ := hi j (by omega)
        obtain ⟨e1, e2, e3⟩ := hz j (by omega)
        rw [add_off, e1] at q1
        rw [add_off, e2] at q2
        exact ⟨e3, q1, q2⟩
end

theorem kids : Kids Tryd.prog (· < Tryd.prog.types.size) := kids_rows (by kernel_rfl) (by kernel_rfl)
theorem full : ∀ t e, t < Tryd.prog.types.size → Tryd.prog.underlying t = some (.slice e) → 0 < Tryd.prog.cellsOf e := slices_full_of _ (by kernel_rfl)
theorem same_at {W W' : World} (he : Ext W W') {p : MemPlace} (hp : p.block < W.heap.size) : W.sameAt W' p := by
  cases p with
  | cell b off => exact he.cell hp off
  | map b => exact he.block b hp
/-- What was read of the arguments is read again behind the call, whatever their types are. -/
theorem args_again {H : Type} {enc : TypeId × Value → H} {W W' : World} (he : Ext W W') {sp : Nat → Bool} : ∀ {ts : List TypeId} {vs : List Value} {ds : List (DataW H)} {ps : List MemPlace}, (∀ t ∈ ts, t < Tryd.prog.types.size) → DataW.TrodAll enc Tryd.prog W 0 (fun _ => true) true ts vs ds ps →
    (∀ p ∈ ps, p.block < W.heap.size) → (∀ p ∈ ps, sp p.block = true) → DataW.TrodAll enc Tryd.prog W' 0 sp true ts vs ds ps := by
  intro ts vs ds ps hT h hlt hs
  refine DataW.TrodAll.respare kids full hT ?_ hs
  clear hs hT
  induction ts generalizing vs ds ps with
  | nil => match vs, ds, h with
    | [], [], h => exact h
  | cons t ts ih => match vs, ds, h with
    | v :: vs, d :: ds, ⟨p, q, ⟨n, h1⟩, h2, e⟩ =>
      subst e
      exact ⟨p, q, ⟨n, DataW.trod_carry n _ _ _ h1 (fun x hx => same_at he (hlt x (List.mem_append_left _ hx)))⟩, ih h2 (fun x hx => hlt x (List.mem_append_right _ hx)), rfl⟩
end Go.Proofs.YtaddlhebhiehgaaDoor
