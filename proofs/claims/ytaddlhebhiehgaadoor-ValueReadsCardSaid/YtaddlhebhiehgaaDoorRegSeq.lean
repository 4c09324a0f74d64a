/-
  A region that draws its order, walked in the order of the text: a call whose contract holds in every world that meets S may be taken first, as a load may.
-/
import Derived.Deep.RegionHeld3
namespace Go.Proofs.YtaddlhebhiehgaaDoor
open Go

section
variable {P : Program} {ops : Array Oper} {Q : Exit → Act → World → Prop} {md : Region.Mode} {S : World → Prop} {R : World → World → Prop}

/-- What an operation leaves of the frame: its own temporary alone is written. -/
theorem wpOp_frame {j : Nat} {oj : Oper} (hj : ops[j]? = some oj) {K : Act → World → Prop} {a : Act} {w : World} (h : wpOp P ops Q j K a w) :
    wpOp P ops Q j (fun a' w' => (∃ (u : Value) (d : List Deferred), a' = ({ a with defers := d } : Act).put oj.dst u) ∧ K a' w') a w := by
  unfold wpOp at h ⊢
  rw [hj] at h ⊢
  simp only at h ⊢
  split
  · next hw =>
    rw [if_pos hw] at h
    rcases h with h | h
    · refine .inl ?_
      unfold Oper.wp at h ⊢
      generalize (execOp a.eval oj).run P w = r at h ⊢
      match r with
      | .ok (.value v) w' => exact ⟨⟨v, a.defers, rfl⟩, h⟩
      | .ok .skip w' => exact ⟨⟨undef, a.defers, rfl⟩, h⟩
      | .ok (.defer d) w' => exact ⟨⟨undef, d :: a.defers, rfl⟩, h⟩
      | .ok (.enter f args) w' =>
        refine Calls.mono h fun e w'' he => ?_
        cases e with
        | returned u => exact ⟨⟨u, a.defers, rfl⟩, he⟩
        | panicked c => exact he
        | outgrown => exact he
      | .ok (.row row args) w' => exact Rows.mono h fun u w'' he => ⟨⟨u, a.defers, rfl⟩, he⟩
      | .halt x w' => cases x <;> exact h
    · exact .inr h
  · next hw =>
    rw [if_neg hw] at h
    exact ⟨⟨undef, a.defers, rfl⟩, h⟩

/-- In the frame 'a', in every world that meets S, the operation leaves v in its temporary; of the world R is known, and S. -/
def YieldsOn (P : Program) (ops : Array Oper) (S : World → Prop) (R : World → World → Prop) (o : Oper) (v : Value) (a : Act) : Prop :=
  YieldsIf P ops S o v a ∨ (Region.wanted o (yielded ops a.tmps) = true ∧ ∃ (f : FuncId) (args : Array Value), (∀ w, S w → (execOp a.eval o).run P w = .ok (.enter f args) w) ∧
    ∀ w, S w → Calls P f args w fun e w' => e = .returned v ∧ R w w' ∧ S w')

theorem YieldsOn.of_same {o : Oper} {v : Value} {a a' : Act} (hy : YieldsOn P ops S R o v a) (he : execOp a'.eval o = execOp a.eval o)
    (hw : Region.wanted o (yielded ops a'.tmps) = Region.wanted o (yielded ops a.tmps)) : YieldsOn P ops S R o v a' := by
  rcases hy with hy | hy
  · exact .inl (hy.of_same he hw)
  · refine .inr ?_
    rw [he, hw]
    exact hy
theorem YieldsOn.wpOp {i : Nat} {o : Oper} {v : Value} {a : Act} (hi : ops[i]? = some o) (hy : YieldsOn P ops S R o v a) (hR : ∀ w, R w w)
    {K : Act → World → Prop} {w : World} (hS : S w) (h : ∀ w', R w w' → S w' → K (a.put o.dst v) w') : wpOp P ops Q i K a w := by
  rcases hy with hy | ⟨hw, f, args, he, hc⟩
  · exact hy.wpOp hi hS (h w (hR w) hS)
  · unfold Go.wpOp
    simp only [hi]
    rw [if_pos hw]
    refine .inl ?_
    unfold Oper.wp
    rw [he w hS]
    refine (hc w hS).mono ?_
    rintro e w' ⟨rfl, h1, h2⟩
    exact h w' h1 h2

theorem wpOp_putOn {j : Nat} {oi oj : Oper} {v : Value} (hj : ops[j]? = some oj) (hap : oi.apart ops oj = true)
    (hsi : ∀ cs b, oi.op ≠ .select cs b) (hsj : ∀ cs b, oj.op ≠ .select cs b)
    (hQ : ∀ c a w, Q (.panic c) (a.put oi.dst v) w → Q (.panic c) a w) {K : Act → World → Prop} {a : Act} {w : World}
    (hy : YieldsOn P ops S R oi v a) (h : wpOp P ops Q j K (a.put oi.dst v) w) :
    wpOp P ops Q j (fun a' w' => YieldsOn P ops S R oi v a' ∧ K (a'.put oi.dst v) w') a w := by
  have hy' : YieldsIf P ops (fun _ => False) oi v a := by
    rcases hy with hy | ⟨hw, -⟩
    · rcases hy with ⟨hw, -⟩ | hy
      · exact .inl ⟨hw, fun _ hf => hf.elim⟩
      · exact .inr hy
    · exact .inl ⟨hw, fun _ hf => hf.elim⟩
  obtain ⟨-, -, h3⟩ := Oper.apart_spec hap
  refine wpOp_mono ?_ (wpOp_frame hj (wpOp_putIf hj hap hsi hsj hQ hy' h))
  rintro a' w' ⟨⟨u, d, rfl⟩, -, hk⟩
  refine ⟨?_, hk⟩
  have h4 : YieldsOn P ops S R oi v ({ a with defers := d } : Act) := hy.of_same rfl rfl
  exact h4.of_same (execOp_put oi hsi _ oj.dst u h3) (wanted_put oi _ oj.dst u h3)

/-- Whatever order is picked from here on, in whatever world that R leads to. -/
def wpAnyR (P : Program) (md : Region.Mode) (ops : Array Oper) (Q : Exit → Act → World → Prop) (S : World → Prop) (R : World → World → Prop) : Nat → Array Bool → Act → World → Prop
  | 0, listed, a, w => Region.ready md ops listed = [] ∧ ∀ w', R w w' → S w' → Q .normal a w'
  | fuel + 1, listed, a, w => ∀ w', R w w' → S w' → (Region.ready md ops listed = [] → Q .normal a w') ∧
      ∀ i ∈ Region.ready md ops listed, wpOp P ops Q i (fun a' w'' => S w'' ∧ wpAnyR P md ops Q S R fuel (listed.setIfInBounds i true) a' w'') a w'

theorem wpAnyR.mono (hT : ∀ a b c, R a b → R b c → R a c) : ∀ {fuel : Nat} {listed : Array Bool} {a : Act} {w w1 : World}, R w w1 → wpAnyR P md ops Q S R fuel listed a w → wpAnyR P md ops Q S R fuel listed a w1
  | 0, _, _, _, _, hr, h => ⟨h.1, fun w' r s => h.2 w' (hT _ _ _ hr r) s⟩
  | _ + 1, _, _, _, _, hr, h => fun w' r s => h w' (hT _ _ _ hr r) s
theorem wpAny_of_R (hR : ∀ w, R w w) : ∀ (fuel : Nat) (listed : Array Bool) (a : Act) (w : World), S w → wpAnyR P md ops Q S R fuel listed a w → wpAny P md ops Q fuel listed a w
  | 0, _, _, w, hS, h => ⟨h.1, h.2 w (hR w) hS⟩
  | _ + 1, _, _, w, hS, h => ⟨(h w (hR w) hS).1, fun i hi => wpOp_mono (fun a' w' h' => wpAny_of_R hR _ _ a' w' h'.1 h'.2) ((h w (hR w) hS).2 i hi)⟩

/-- **THE LAW**: what yields its value in every world that meets S may be taken first: a call too. -/
theorem wpAnyR_first {i : Nat} {oi : Oper} {v : Value} (hR : ∀ w, R w w) (hT : ∀ a b c, R a b → R b c → R a c) (hi : ops[i]? = some oi) (hsel : ∀ (j : Nat) (o : Oper) cs b, ops[j]? = some o → o.op ≠ .select cs b)
    (hQ : ∀ c a w, Q (.panic c) (a.put oi.dst v) w → Q (.panic c) a w) :
    ∀ (fuel : Nat) (listed : Array Bool) (a : Act) (w : World),
      (∀ j oj, ops[j]? = some oj → j ≠ i → listed.getD j true = false → (∀ e ∈ oj.after, Region.binds md e = true → e.on ≠ i) → oi.apart ops oj = true) →
      i ∈ Region.ready md ops listed → YieldsOn P ops S R oi v a →
      wpAnyR P md ops Q S R fuel (listed.setIfInBounds i true) (a.put oi.dst v) w → wpAnyR P md ops Q S R (fuel + 1) listed a w := by
  intro fuel
  induction fuel with
  | zero =>
    intro listed a w _ hr hy H w' r s
    refine ⟨fun h => (by rw [h] at hr; cases hr), fun j hj => ?_⟩
    by_cases hji : j = i
    · subst hji
      exact hy.wpOp hi hR s fun w'' r' s' => ⟨s', wpAnyR.mono hT (hT _ _ _ r r') H⟩
    · have := ready_mono hj hji
      rw [H.1] at this
      cases this
  | succ fuel ih =>
    intro listed a w hfree hr hy H w' r s
    refine ⟨fun h => (by rw [h] at hr; cases hr), fun j hj => ?_⟩
    by_cases hji : j = i
    · subst hji
      exact hy.wpOp hi hR s fun w'' r' s' => ⟨s', wpAnyR.mono hT (hT _ _ _ r r') H⟩
    · have h1 := (H w' r s).2 j (ready_mono hj hji)
      obtain ⟨hjun, oj, hoj, hall⟩ := mem_ready.1 hj
      have hun : listed.getD i true = false := (mem_ready.1 hr).1
      have hnot : ∀ e ∈ oj.after, Region.binds md e = true → e.on ≠ i := by
        intro e he hb heq
        have h2 := hall e he hb
        rw [heq] at h2
        by_cases hl : i < listed.size
        · simp only [Array.getD, hl, dif_pos] at hun h2
          rw [hun] at h2; cases h2
        · simp only [Array.getD, hl, dif_neg, not_false_eq_true] at h2; cases h2
      have h2 := wpOp_putOn hoj (hfree j oj hoj hji hjun hnot) (fun cs b => hsel i oi cs b hi) (fun cs b => hsel j oj cs b hoj) hQ hy h1
      refine wpOp_mono ?_ h2
      rintro a' w'' ⟨hy', hs', hk⟩
      refine ⟨hs', ih (listed.setIfInBounds j true) a' w'' ?_ (ready_mono hr (Ne.symm hji)) hy' ?_⟩
      · intro k ok hk hki hu hno
        refine hfree k ok hk hki ?_ hno
        by_cases hjk : j = k
        · subst hjk; exact hjun
        · rw [getD_set_ne true hjk] at hu; exact hu
      · rw [Array.setIfInBounds_comm _ _ hji]
        exact hk

theorem wpAnyR_take {i : Nat} {oi : Oper} {v : Value} {fuel : Nat} {listed : Array Bool} {a : Act} {w : World} (hR : ∀ w, R w w) (hT : ∀ a b c, R a b → R b c → R a c) (hi : ops[i]? = some oi)
    (hs : Region.noSelect ops = true) (hf : Region.free md ops listed i = true) (hr : (Region.ready md ops listed).contains i = true)
    (hQ : ∀ c a w, Q (.panic c) (a.put oi.dst v) w → Q (.panic c) a w) (hy : YieldsOn P ops S R oi v a)
    (h : wpAnyR P md ops Q S R fuel (listed.setIfInBounds i true) (a.put oi.dst v) w) : wpAnyR P md ops Q S R (fuel + 1) listed a w :=
  wpAnyR_first hR hT hi (Region.noSelect_spec hs) hQ fuel listed a w (Region.free_spec hi hf) (by simpa using hr) hy h
theorem wpAnyR_done {listed : Array Bool} {a : Act} {w : World} (hr : Region.ready md ops listed = []) (h : ∀ w', R w w' → S w' → Q .normal a w') : ∀ fuel, wpAnyR P md ops Q S R fuel listed a w
  | 0 => ⟨hr, h⟩
  | _ + 1 => fun w' r s => ⟨fun _ => h w' r s, by rw [hr]; simp⟩
/-- The beginning. -/
theorem wp_region_seq {id : Nat} {a : Act} {w : World} (hm : P.follows .mixedOrders = true) (hR : ∀ w, R w w) (hS : S w.drew)
    (h : wpAnyR P .any ops Q S R ops.size (Array.replicate ops.size false) a w.drew) : (Code.region id ops true).wp P Q a w :=
  wp_region_any hm (wpAny_of_R hR _ _ _ _ hS h)
end
end Go.Proofs.YtaddlhebhiehgaaDoor
