/-
  Part 17 of a proof: HFn50.
-/
import Derived.Test.YtdokmmhjmclmnaaGreatM07
import Derived.Test.YtdokmmhjmclmnaaGreatM16
set_option linter.unusedSimpArgs false
set_option linter.unusedVariables false
set_option linter.unusedSectionVars false
set_option linter.unnecessarySimpa false
namespace Go.Proofs.YtdokmmhjmclmnaaGreat
open Go.RowKit Go.Maps
theorem seen_look {w : World} {g : Nat} {T : List Nat} {S : Hp.Hs} {x : Int} {b : Bool} (h : MapAt Tryz.prog w g T) (hb : ({ S with taken := T } : Hp.Hs).has x = b) (h1 : -9223372036854775808 ≤ x) (h2 : x ≤ 9223372036854775807) :
    (Instr.lookup 102 (.map (some g)) (.int .i64 x) false).run Tryz.prog w = .ok (.bool b) w := by
  rw [← hb, ← has_lit]
  exact h.look Tryz.underlying3 Tryz.underlying4 Tryz.underlying102 (Tryz.zeroValue4 w) h1 h2
theorem seen_made (w : World) : MapAt Tryz.prog (w.alloc (.map #[] 0)) w.heap.size [] :=
 ⟨by simpa [mapOf] using World.ownsMap_made w Tryz.prog 3 (plainElem (H := Unit) Tryz.prog 4), List.Pairwise.nil⟩
set_option maxRecDepth 100000 in
set_option maxHeartbeats 8000000 in
theorem areChained_any {w0 w : World} {lb : Nat} {d : Hd} {S : Hp.Hs} {v : Value} {p : Option Addr} {k : Nat} {G : List Int} (h : LdAt w0 w lb d S v p k G) (hc : ChainsOk S) (h17 : 17 ≤ S.words.length) {bb : Bool} (hbb : S.chainedB = some bb) :
    Calls Tryz.prog 65 #[.pointer (some ⟨lb, 0, none⟩)] w fun e w' => e = .returned (.bool bb) ∧ Ext w w' := by
  have sm := h.small
  obtain ⟨n, hn⟩ : ∃ n, S.words.length = n := ⟨_, rfl⟩
  have EN := Lib.hid hn
  rw [hn] at sm h17
  have H := Lib.hid h
  have HC := Lib.hid hc
  simp only [Hp.Hs.chainedB, Option.bind_eq_bind, Option.bind_eq_some_iff] at hbb
  obtain ⟨R, hR, hbb⟩ := hbb
  have HB := Lib.hid hbb
  have HR := Lib.hid hR
  clear h hc hbb hR hn
  have hmm := @run_makeMap Tryz.prog
  go_enter Tryz.func65, Tryz.ntmps65
  go_wp2_with fail
  go_loopg [7] 16 (fun g i wr => ∃ (j : Nat) (seen : List Nat), j ≤ 16 ∧ 16 - j ≤ g ∧ i = .int .i64 j ∧ Hid (S.headsFrom (16 - j) j seen = some R) ∧ Hid (MapAt Tryz.prog wr w.heap.size seen) ∧ Hid (∀ a ∈ seen, a ∈ S.taken) ∧ Hid (Ext w wr))
  case atStart => exact ⟨0, [], Nat.zero_le _, by omega, rfl, HR, Lib.hid (seen_made _), Lib.hid (by simp), Lib.hid (exx)⟩
  case round =>
   obtain ⟨j, seen, hj, hg, rfl, HF, MS, SS, E⟩ := hrel
   clear HR
   have N := Lib.hid (H.out.ext E.out)
   have h0 := N.out.h0
   have c2 := N.out.c2
   have hle := N.out.le
   have hcap := N.out.cap
   rw [EN.out] at c2 hle
   by_cases hlt : j < 16
   · obtain ⟨x, hx⟩ := rd_get (l := S.words) (j := j) (by rw [EN.out]; omega)
     have gx := N.out.words.get hx
     have bx := N.out.words.bound hx
     have tk : decide ((j : Int) < 16) = true := decide_eq_true (by omega)
     have hf := HF.out
     rw [show 16 - j = (16 - (j + 1)) + 1 by omega] at hf
     simp only [Hp.Hs.headsFrom, hx, Option.bind_eq_bind, Option.bind_some, Option.bind_eq_some_iff] at hf
     obtain ⟨r, hr, hf⟩ := hf
     have HL := Lib.hid hr
     have HF2 := Lib.hid hf
     clear hr hf hx HF
     have jn : (j : Int) < (n : Int) := by omega
     go_upto_region 6 with (fail)
     go_loopg [5] (S.taken.length + 1) (fun g x wx => ∃ (m : Nat) (y : Int) (seen2 : List Nat), m ≤ g ∧ x = .int .i64 y ∧ Hid (-9223372036854775808 ≤ y ∧ y ≤ 9223372036854775807) ∧ Hid (S.linkFrom j m y seen2 = some r) ∧ Hid (MapAt Tryz.prog wx w.heap.size seen2) ∧ Hid (∀ a ∈ seen2, a ∈ S.taken) ∧ Hid (Ext w wx))
     case atStart => exact ⟨S.taken.length + 1, x, seen, Nat.le_refl _, rfl, Lib.hid bx, HL, MS, SS, E⟩
     case round =>
      obtain ⟨m, y, seen2, hg2, rfl, BY, HK, M2, S2, E2⟩ := hrel
      clear MS SS E N h0 c2 gx
      obtain ⟨by1, by2⟩ := BY.out
      have N := Lib.hid (H.out.ext E2.out)
      have h0 := N.out.h0
      have c2 := N.out.c2
      have c3 := N.out.c3
      rw [EN.out] at c2
      cases m with
      | zero =>
       have := HK.out
       simp [Hp.Hs.linkFrom] at this
      | succ m =>
       by_cases hy0 : y = 0
       · have t0 : (y != 0) = false := by simpa using hy0
         have hk := HK.out
         unfold Hp.Hs.linkFrom at hk
         rw [if_pos hy0] at hk
         obtain rfl := Option.some.inj hk
         have HF3 := Lib.hid HF2.out
         clear hk HK HF2
         go_wp2_with fail
         go_roundg (16 - (j + 1))
         case measure => omega
         case rel => exact ⟨j + 1, seen2, by omega, Nat.le_refl _, by go_num, HF3, M2, S2, E2⟩
       · have t0 : (y != 0) = true := by simpa using hy0
         have zl := cell_lt h0
         have zh := cell_lt c2
         have hk := HK.out
         unfold Hp.Hs.linkFrom at hk
         rw [if_neg hy0] at hk
         have none_ : r = none → bb = false := fun e => by
          have h1 := HF2.out
          rw [e] at h1
          obtain rfl := Option.some.inj h1
          have h2 := HB.out
          simpa using h2.symm
         have NN := Lib.hid none_
         clear none_ HK
         cases hs : ({ S with taken := seen2 } : Hp.Hs).has y with
         | true =>
          have HS := Lib.hid hs
          rw [hs] at hk
          simp only [Bool.true_or, if_true, Option.some.injEq] at hk
          have hbf := NN.out hk.symm
          subst hbf
          clear hk hs
          go_upto_region 8 with (fail)
          have PR28 := Lib.hid (fun (ww : World) (hSw : Ext wr ww) => And.intro ((hSw.cell zl 0).trans h0) (And.intro ((hSw.cell zh 2).trans c2) (And.intro ((hSw.cell zh 3).trans c3) (seen_look (S := S) (M2.out.ext hSw) HS.out by1 by2))))
          refine wp_region_seq (S := fun W => Ext wr W) (R := Ext) (by kernel_rfl) Ext.refl ?_ ?_
          · exact exx
          refine' tkL (i := 0) (v := ?v0_1) rfl ?h0_1 ?r0_1
          case h0_1 => (intro w q; obtain ⟨h0', c2', c3', lk1⟩ := PR28.out w q; go_simp; try with_reducible rfl)
          refine layy ?_
          refine' tkL (i := 1) (v := ?v1_2) rfl ?h1_2 ?r1_2
          case h1_2 => (intro w q; obtain ⟨h0', c2', c3', lk1⟩ := PR28.out w q; go_simp; try with_reducible rfl)
          refine layy ?_
          refine' tkL (i := 2) (v := ?v2_3) rfl ?h2_3 ?r2_3
          case h2_3 => (intro w q; obtain ⟨h0', c2', c3', lk1⟩ := PR28.out w q; go_simp; try with_reducible rfl)
          refine layy ?_
          refine' tkL (i := 3) (v := ?v3_4) rfl ?h3_4 ?r3_4
          case h3_4 => (intro w q; obtain ⟨h0', c2', c3', lk1⟩ := PR28.out w q; go_simp; try with_reducible rfl)
          refine layy ?_
          refine' tkR (i := 4) (v := undef) rfl (Or.inl (Or.inr ⟨by rfl, rfl⟩)) ?rest4_5
          refine layy ?_
          refine' tkR (i := 5) (v := undef) rfl (Or.inl (Or.inr ⟨by rfl, rfl⟩)) ?rest5_6
          refine layy ?_
          refine' tkR (i := 6) (v := undef) rfl (Or.inl (Or.inr ⟨by rfl, rfl⟩)) ?rest6_7
          refine layy ?_
          refine' tkR (i := 7) (v := undef) rfl (Or.inl (Or.inr ⟨by rfl, rfl⟩)) ?rest7_8
          refine layy ?_
          refine' tkR (i := 8) (v := undef) rfl (Or.inl (Or.inr ⟨by rfl, rfl⟩)) ?rest8_9
          refine layy ?_
          refine' tkR (i := 9) (v := undef) rfl (Or.inl (Or.inr ⟨by rfl, rfl⟩)) ?rest9_10
          refine layy ?_
          refine' tkR (i := 10) (v := undef) rfl (Or.inl (Or.inr ⟨by rfl, rfl⟩)) ?rest10_11
          refine layy ?_
          refine' tkR (i := 11) (v := undef) rfl (Or.inl (Or.inr ⟨by rfl, rfl⟩)) ?rest11_12
          refine layy ?_
          refine' tkR (i := 12) (v := undef) rfl (Or.inl (Or.inr ⟨by rfl, rfl⟩)) ?rest12_13
          refine layy ?_
          refine' tkR (i := 13) (v := undef) rfl (Or.inl (Or.inr ⟨by rfl, rfl⟩)) ?rest13_14
          refine layy ?_
          refine' tkL (i := 14) (v := ?v14_15) rfl ?h14_15 ?r14_15
          case h14_15 => (intro w q; obtain ⟨h0', c2', c3', lk1⟩ := PR28.out w q; go_simp; try with_reducible rfl)
          refine layy ?_
          refine' tkL (i := 15) (v := ?v15_16) rfl ?h15_16 ?r15_16
          case h15_16 => (intro w q; obtain ⟨h0', c2', c3', lk1⟩ := PR28.out w q; go_simp; try with_reducible rfl)
          refine layy ?_
          refine' tkR (i := 16) (v := undef) rfl (Or.inl (Or.inr ⟨by rfl, rfl⟩)) ?rest16_17
          refine layy ?_
          refine' tkR (i := 17) (v := undef) rfl (Or.inl (Or.inr ⟨by rfl, rfl⟩)) ?rest17_18
          refine layy ?_
          refine' tkR (i := 18) (v := undef) rfl (Or.inl (Or.inr ⟨by rfl, rfl⟩)) ?rest18_19
          refine layy ?_
          refine' tkR (i := 19) (v := undef) rfl (Or.inl (Or.inr ⟨by rfl, rfl⟩)) ?rest19_20
          refine layy ?_
          refine' tkR (i := 20) (v := undef) rfl (Or.inl (Or.inr ⟨by rfl, rfl⟩)) ?rest20_21
          refine layy ?_
          refine' tkR (i := 21) (v := undef) rfl (Or.inl (Or.inr ⟨by rfl, rfl⟩)) ?rest21_22
          refine layy ?_
          refine' tkR (i := 22) (v := undef) rfl (Or.inl (Or.inr ⟨by rfl, rfl⟩)) ?rest22_23
          refine layy ?_
          refine' tkR (i := 23) (v := undef) rfl (Or.inl (Or.inr ⟨by rfl, rfl⟩)) ?rest23_24
          refine layy ?_
          refine' tkR (i := 24) (v := undef) rfl (Or.inl (Or.inr ⟨by rfl, rfl⟩)) ?rest24_25
          refine layy ?_
          refine' tkR (i := 25) (v := undef) rfl (Or.inl (Or.inr ⟨by rfl, rfl⟩)) ?rest25_26
          refine layy ?_
          refine' tkR (i := 26) (v := undef) rfl (Or.inl (Or.inr ⟨by rfl, rfl⟩)) ?rest26_27
          refine layy ?_
          refine' tkR (i := 27) (v := undef) rfl (Or.inl (Or.inr ⟨by rfl, rfl⟩)) ?rest27_28
          refine layy ?_
          refine' tkR (i := 28) (v := undef) rfl (Or.inl (Or.inr ⟨by rfl, rfl⟩)) ?rest28_29
          refine layy ?_
          refine' tkR (i := 29) (v := undef) rfl (Or.inl (Or.inr ⟨by rfl, rfl⟩)) ?rest29_30
          refine layy ?_
          refine' tkR (i := 30) (v := undef) rfl (Or.inl (Or.inr ⟨by rfl, rfl⟩)) ?rest30_31
          refine layy ?_
          refine' tkL (i := 31) (v := ?v31_32) rfl ?h31_32 ?r31_32
          case h31_32 => (intro w q; obtain ⟨h0', c2', c3', lk1⟩ := PR28.out w q; go_simp; try with_reducible rfl)
          refine layy ?_
          refine wpAnyR_done (by kernel_rfl) ?_ _
          intro x1 _ Ex1
          go_wp2
          go_returns
          exact ⟨rfl, E2.out.trans Ex1⟩
         | false =>
          have HS := Lib.hid hs
          rw [hs, Bool.false_or] at hk
          cases ht : S.has y with
          | false =>
           have HT := Lib.hid ht
           rw [ht] at hk
           simp only [Bool.not_false, if_true, Option.some.injEq] at hk
           have hbf := NN.out hk.symm
           subst hbf
           clear hk hs ht
           go_upto_region 8 with (fail)
           have PR29 := Lib.hid (fun (ww : World) (hSw : Ext wr ww) => And.intro ((hSw.cell zl 0).trans h0) (And.intro ((hSw.cell zh 2).trans c2) (And.intro ((hSw.cell zh 3).trans c3) (And.intro (seen_look (S := S) (M2.out.ext hSw) HS.out by1 by2) (run_look (N.out.toHAt.ext hSw) HT.out by1 by2)))))
           refine wp_region_seq (S := fun W => Ext wr W) (R := Ext) (by kernel_rfl) Ext.refl ?_ ?_
           · exact exx
           refine' tkL (i := 0) (v := ?v0_33) rfl ?h0_33 ?r0_33
           case h0_33 => (intro w q; obtain ⟨h0', c2', c3', lk1, lk2⟩ := PR29.out w q; go_simp; try with_reducible rfl)
           refine layy ?_
           refine' tkL (i := 1) (v := ?v1_34) rfl ?h1_34 ?r1_34
           case h1_34 => (intro w q; obtain ⟨h0', c2', c3', lk1, lk2⟩ := PR29.out w q; go_simp; try with_reducible rfl)
           refine layy ?_
           refine' tkL (i := 2) (v := ?v2_35) rfl ?h2_35 ?r2_35
           case h2_35 => (intro w q; obtain ⟨h0', c2', c3', lk1, lk2⟩ := PR29.out w q; go_simp; try with_reducible rfl)
           refine layy ?_
           refine' tkL (i := 3) (v := ?v3_36) rfl ?h3_36 ?r3_36
           case h3_36 => (intro w q; obtain ⟨h0', c2', c3', lk1, lk2⟩ := PR29.out w q; go_simp; try with_reducible rfl)
           refine layy ?_
           refine' tkL (i := 4) (v := ?v4_37) rfl ?h4_37 ?r4_37
           case h4_37 => (intro w q; obtain ⟨h0', c2', c3', lk1, lk2⟩ := PR29.out w q; go_simp; try with_reducible rfl)
           refine layy ?_
           refine' tkL (i := 5) (v := ?v5_38) rfl ?h5_38 ?r5_38
           case h5_38 => (intro w q; obtain ⟨h0', c2', c3', lk1, lk2⟩ := PR29.out w q; go_simp; try with_reducible rfl)
           refine layy ?_
           refine' tkL (i := 6) (v := ?v6_39) rfl ?h6_39 ?r6_39
           case h6_39 => (intro w q; obtain ⟨h0', c2', c3', lk1, lk2⟩ := PR29.out w q; go_simp; try with_reducible rfl)
           refine layy ?_
           refine' tkL (i := 7) (v := ?v7_40) rfl ?h7_40 ?r7_40
           case h7_40 => (intro w q; obtain ⟨h0', c2', c3', lk1, lk2⟩ := PR29.out w q; go_simp; try with_reducible rfl)
           refine layy ?_
           refine' tkL (i := 8) (v := ?v8_41) rfl ?h8_41 ?r8_41
           case h8_41 => (intro w q; obtain ⟨h0', c2', c3', lk1, lk2⟩ := PR29.out w q; go_simp; try with_reducible rfl)
           refine layy ?_
           refine' tkL (i := 9) (v := ?v9_42) rfl ?h9_42 ?r9_42
           case h9_42 => (intro w q; obtain ⟨h0', c2', c3', lk1, lk2⟩ := PR29.out w q; go_simp; try with_reducible rfl)
           refine layy ?_
           refine' tkL (i := 10) (v := ?v10_43) rfl ?h10_43 ?r10_43
           case h10_43 => (intro w q; obtain ⟨h0', c2', c3', lk1, lk2⟩ := PR29.out w q; go_simp; try with_reducible rfl)
           refine layy ?_
           refine' tkL (i := 11) (v := ?v11_44) rfl ?h11_44 ?r11_44
           case h11_44 => (intro w q; obtain ⟨h0', c2', c3', lk1, lk2⟩ := PR29.out w q; go_simp; try with_reducible rfl)
           refine layy ?_
           refine' tkL (i := 12) (v := ?v12_45) rfl ?h12_45 ?r12_45
           case h12_45 => (intro w q; obtain ⟨h0', c2', c3', lk1, lk2⟩ := PR29.out w q; go_simp; try with_reducible rfl)
           refine layy ?_
           refine' tkL (i := 13) (v := ?v13_46) rfl ?h13_46 ?r13_46
           case h13_46 => (intro w q; obtain ⟨h0', c2', c3', lk1, lk2⟩ := PR29.out w q; go_simp; try with_reducible rfl)
           refine layy ?_
           refine' tkL (i := 14) (v := ?v14_47) rfl ?h14_47 ?r14_47
           case h14_47 => (intro w q; obtain ⟨h0', c2', c3', lk1, lk2⟩ := PR29.out w q; go_simp; try with_reducible rfl)
           refine layy ?_
           refine' tkL (i := 15) (v := ?v15_48) rfl ?h15_48 ?r15_48
           case h15_48 => (intro w q; obtain ⟨h0', c2', c3', lk1, lk2⟩ := PR29.out w q; go_simp; try with_reducible rfl)
           refine layy ?_
           refine' tkR (i := 16) (v := undef) rfl (Or.inl (Or.inr ⟨by rfl, rfl⟩)) ?rest16_49
           refine layy ?_
           refine' tkR (i := 17) (v := undef) rfl (Or.inl (Or.inr ⟨by rfl, rfl⟩)) ?rest17_50
           refine layy ?_
           refine' tkR (i := 18) (v := undef) rfl (Or.inl (Or.inr ⟨by rfl, rfl⟩)) ?rest18_51
           refine layy ?_
           refine' tkR (i := 19) (v := undef) rfl (Or.inl (Or.inr ⟨by rfl, rfl⟩)) ?rest19_52
           refine layy ?_
           refine' tkR (i := 20) (v := undef) rfl (Or.inl (Or.inr ⟨by rfl, rfl⟩)) ?rest20_53
           refine layy ?_
           refine' tkR (i := 21) (v := undef) rfl (Or.inl (Or.inr ⟨by rfl, rfl⟩)) ?rest21_54
           refine layy ?_
           refine' tkR (i := 22) (v := undef) rfl (Or.inl (Or.inr ⟨by rfl, rfl⟩)) ?rest22_55
           refine layy ?_
           refine' tkR (i := 23) (v := undef) rfl (Or.inl (Or.inr ⟨by rfl, rfl⟩)) ?rest23_56
           refine layy ?_
           refine' tkR (i := 24) (v := undef) rfl (Or.inl (Or.inr ⟨by rfl, rfl⟩)) ?rest24_57
           refine layy ?_
           refine' tkR (i := 25) (v := undef) rfl (Or.inl (Or.inr ⟨by rfl, rfl⟩)) ?rest25_58
           refine layy ?_
           refine' tkR (i := 26) (v := undef) rfl (Or.inl (Or.inr ⟨by rfl, rfl⟩)) ?rest26_59
           refine layy ?_
           refine' tkR (i := 27) (v := undef) rfl (Or.inl (Or.inr ⟨by rfl, rfl⟩)) ?rest27_60
           refine layy ?_
           refine' tkR (i := 28) (v := undef) rfl (Or.inl (Or.inr ⟨by rfl, rfl⟩)) ?rest28_61
           refine layy ?_
           refine' tkR (i := 29) (v := undef) rfl (Or.inl (Or.inr ⟨by rfl, rfl⟩)) ?rest29_62
           refine layy ?_
           refine' tkR (i := 30) (v := undef) rfl (Or.inl (Or.inr ⟨by rfl, rfl⟩)) ?rest30_63
           refine layy ?_
           refine' tkL (i := 31) (v := ?v31_64) rfl ?h31_64 ?r31_64
           case h31_64 => (intro w q; obtain ⟨h0', c2', c3', lk1, lk2⟩ := PR29.out w q; go_simp; try with_reducible rfl)
           refine layy ?_
           refine wpAnyR_done (by kernel_rfl) ?_ _
           intro x1 _ Ex1
           go_wp2
           go_returns
           exact ⟨rfl, E2.out.trans Ex1⟩
          | true =>
           have HT := Lib.hid ht
           rw [ht] at hk
           obtain ⟨a, rfl, ha⟩ := has_nat ht
           obtain ⟨t, l, c, z, k1, k2, k3, k4⟩ := HC.out a ha
           have K1 := Lib.hid k1
           have K2 := Lib.hid k2
           have K3 := Lib.hid k3
           have K4 := Lib.hid k4
           have AT := Lib.hid ha
           have FA := Lib.hid (fields_at N.out.toHAt k2)
           simp only [Bool.not_true, Bool.false_eq_true, if_false, Int.toNat_natCast, chainOf_some k1 k2 k3, k4, Option.bind_eq_bind, Option.bind_some] at hk
           have az : a + 3 < n := by
            have := rd_lt k4
            rw [EN.out] at this
            exact this
           by_cases hcj : c = j
           · rw [if_neg (by simpa using hcj)] at hk
             have HK2 := Lib.hid hk
             have t2 : ((c : Int) != (j : Int)) = false := by rw [hcj]; simp
             clear hk hs ht k1 k2 k3 k4 ha
             go_upto_region 8 with (fail)
             have PR30 := Lib.hid (fun (ww : World) (hSw : Ext wr ww) => And.intro ((hSw.cell zl 0).trans h0) (And.intro ((hSw.cell zh 2).trans c2) (And.intro ((hSw.cell zh 3).trans c3) (And.intro (seen_look (S := S) (M2.out.ext hSw) HS.out by1 by2) (run_look (N.out.toHAt.ext hSw) HT.out by1 by2)))))
             refine wp_region_seq (S := fun W => Ext wr W) (R := Ext) (by kernel_rfl) Ext.refl ?_ ?_
             · exact exx
             refine' tkL (i := 0) (v := ?v0_65) rfl ?h0_65 ?r0_65
             case h0_65 => (intro w q; obtain ⟨h0', c2', c3', lk1, lk2⟩ := PR30.out w q; go_simp; try with_reducible rfl)
             refine layy ?_
             refine' tkL (i := 1) (v := ?v1_66) rfl ?h1_66 ?r1_66
             case h1_66 => (intro w q; obtain ⟨h0', c2', c3', lk1, lk2⟩ := PR30.out w q; go_simp; try with_reducible rfl)
             refine layy ?_
             refine' tkL (i := 2) (v := ?v2_67) rfl ?h2_67 ?r2_67
             case h2_67 => (intro w q; obtain ⟨h0', c2', c3', lk1, lk2⟩ := PR30.out w q; go_simp; try with_reducible rfl)
             refine layy ?_
             refine' tkL (i := 3) (v := ?v3_68) rfl ?h3_68 ?r3_68
             case h3_68 => (intro w q; obtain ⟨h0', c2', c3', lk1, lk2⟩ := PR30.out w q; go_simp; try with_reducible rfl)
             refine layy ?_
             refine' tkL (i := 4) (v := ?v4_69) rfl ?h4_69 ?r4_69
             case h4_69 => (intro w q; obtain ⟨h0', c2', c3', lk1, lk2⟩ := PR30.out w q; go_simp; try with_reducible rfl)
             refine layy ?_
             refine' tkL (i := 5) (v := ?v5_70) rfl ?h5_70 ?r5_70
             case h5_70 => (intro w q; obtain ⟨h0', c2', c3', lk1, lk2⟩ := PR30.out w q; go_simp; try with_reducible rfl)
             refine layy ?_
             refine' tkL (i := 6) (v := ?v6_71) rfl ?h6_71 ?r6_71
             case h6_71 => (intro w q; obtain ⟨h0', c2', c3', lk1, lk2⟩ := PR30.out w q; go_simp; try with_reducible rfl)
             refine layy ?_
             refine' tkL (i := 7) (v := ?v7_72) rfl ?h7_72 ?r7_72
             case h7_72 => (intro w q; obtain ⟨h0', c2', c3', lk1, lk2⟩ := PR30.out w q; go_simp; try with_reducible rfl)
             refine layy ?_
             refine' tkL (i := 8) (v := ?v8_73) rfl ?h8_73 ?r8_73
             case h8_73 => (intro w q; obtain ⟨h0', c2', c3', lk1, lk2⟩ := PR30.out w q; go_simp; try with_reducible rfl)
             refine layy ?_
             refine' tkL (i := 9) (v := ?v9_74) rfl ?h9_74 ?r9_74
             case h9_74 => (intro w q; obtain ⟨h0', c2', c3', lk1, lk2⟩ := PR30.out w q; go_simp; try with_reducible rfl)
             refine layy ?_
             refine' tkL (i := 10) (v := ?v10_75) rfl ?h10_75 ?r10_75
             case h10_75 => (intro w q; obtain ⟨h0', c2', c3', lk1, lk2⟩ := PR30.out w q; go_simp; try with_reducible rfl)
             refine layy ?_
             refine' tkL (i := 11) (v := ?v11_76) rfl ?h11_76 ?r11_76
             case h11_76 => (intro w q; obtain ⟨h0', c2', c3', lk1, lk2⟩ := PR30.out w q; go_simp; try with_reducible rfl)
             refine layy ?_
             refine' tkL (i := 12) (v := ?v12_77) rfl ?h12_77 ?r12_77
             case h12_77 => (intro w q; obtain ⟨h0', c2', c3', lk1, lk2⟩ := PR30.out w q; go_simp; try with_reducible rfl)
             refine layy ?_
             refine' tkL (i := 13) (v := ?v13_78) rfl ?h13_78 ?r13_78
             case h13_78 => (intro w q; obtain ⟨h0', c2', c3', lk1, lk2⟩ := PR30.out w q; go_simp; try with_reducible rfl)
             refine layy ?_
             refine' tkL (i := 14) (v := ?v14_79) rfl ?h14_79 ?r14_79
             case h14_79 => (intro w q; obtain ⟨h0', c2', c3', lk1, lk2⟩ := PR30.out w q; go_simp; try with_reducible rfl)
             refine layy ?_
             refine' tkL (i := 15) (v := ?v15_80) rfl ?h15_80 ?r15_80
             case h15_80 => (intro w q; obtain ⟨h0', c2', c3', lk1, lk2⟩ := PR30.out w q; go_simp; try with_reducible rfl)
             refine layy ?_
             refine' tkL (i := 16) (v := ?v16_81) rfl ?h16_81 ?r16_81
             case h16_81 => (intro w q; obtain ⟨h0', c2', c3', lk1, lk2⟩ := PR30.out w q; go_simp; try with_reducible rfl)
             refine layy ?_
             refine' tkL (i := 17) (v := ?v17_82) rfl ?h17_82 ?r17_82
             case h17_82 => (intro w q; obtain ⟨h0', c2', c3', lk1, lk2⟩ := PR30.out w q; go_simp; try with_reducible rfl)
             refine layy ?_
             refine' tkL (i := 18) (v := ?v18_83) rfl ?h18_83 ?r18_83
             case h18_83 => (intro w q; obtain ⟨h0', c2', c3', lk1, lk2⟩ := PR30.out w q; go_simp; try with_reducible rfl)
             refine layy ?_
             refine' tkL (i := 19) (v := ?v19_84) rfl ?h19_84 ?r19_84
             case h19_84 => (intro w q; obtain ⟨h0', c2', c3', lk1, lk2⟩ := PR30.out w q; go_simp; try with_reducible rfl)
             refine layy ?_
             refine' tkL (i := 20) (v := ?v20_85) rfl ?h20_85 ?r20_85
             case h20_85 => (intro w q; obtain ⟨h0', c2', c3', lk1, lk2⟩ := PR30.out w q; go_simp; try with_reducible rfl)
             refine layy ?_
             refine' tkR (i := 21) (v := .int .i64 t) rfl (Or.inr ⟨by rfl, 76, _, ?hx21_86, ?hy21_86⟩) ?rest21_86
             case hx21_86 => (intro w hSw; go_simp; (try with_reducible rfl))
             case hy21_86 => exact fun w hE => (tag_any (N.out.toHAt.ext hE).c2 rfl N.out.le N.out.cap (N.out.toHAt.ext hE).words K1.out).mono (fun _ _ h => ⟨h.1, h.2, Ext.trans hE h.2⟩)
             refine layy ?_
             refine' tkL (i := 22) (v := ?v22_87) rfl ?h22_87 ?r22_87
             case h22_87 => (intro w q; obtain ⟨h0', c2', c3', lk1, lk2⟩ := PR30.out w q; go_simp; try with_reducible rfl)
             refine layy ?_
             refine' tkL (i := 23) (v := ?v23_88) rfl ?h23_88 ?r23_88
             case h23_88 => (intro w q; obtain ⟨h0', c2', c3', lk1, lk2⟩ := PR30.out w q; go_simp; try with_reducible rfl)
             refine layy ?_
             refine' tkL (i := 24) (v := ?v24_89) rfl ?h24_89 ?r24_89
             case h24_89 => (intro w q; obtain ⟨h0', c2', c3', lk1, lk2⟩ := PR30.out w q; go_simp; try with_reducible rfl)
             refine layy ?_
             refine' tkL (i := 25) (v := ?v25_90) rfl ?h25_90 ?r25_90
             case h25_90 => (intro w q; obtain ⟨h0', c2', c3', lk1, lk2⟩ := PR30.out w q; go_simp; try with_reducible rfl)
             refine layy ?_
             refine' tkL (i := 26) (v := ?v26_91) rfl ?h26_91 ?r26_91
             case h26_91 => (intro w q; obtain ⟨h0', c2', c3', lk1, lk2⟩ := PR30.out w q; go_simp; try with_reducible rfl)
             refine layy ?_
             refine' tkR (i := 27) (v := .slice (some ⟨d.gw, a + 4, none⟩) l.length l.length) rfl (Or.inr ⟨by rfl, 79, _, ?hx27_92, ?hy27_92⟩) ?rest27_92
             case hx27_92 => (intro w hSw; go_simp; (try with_reducible rfl))
             case hy27_92 => exact fun w hE => (fields_any (N.out.toHAt.ext hE) K2.out).mono (fun _ _ h => ⟨h.1, h.2, Ext.trans hE h.2⟩)
             refine layy ?_
             refine' tkR (i := 28) (v := .int .i64 c) rfl (Or.inr ⟨by rfl, 132, _, ?hx28_93, ?hy28_93⟩) ?rest28_93
             case hx28_93 => (intro w hSw; go_simp; (try with_reducible rfl))
             case hy28_93 => exact fun w hE => (chain_any (FA.out.ext hE) K3.out).mono (fun _ _ h => ⟨h.1, h.2, Ext.trans hE h.2⟩)
             refine layy ?_
             refine' tkL (i := 29) (v := ?v29_94) rfl ?h29_94 ?r29_94
             case h29_94 => (intro w q; obtain ⟨h0', c2', c3', lk1, lk2⟩ := PR30.out w q; go_simp; try with_reducible rfl)
             refine layy ?_
             refine' tkL (i := 30) (v := ?v30_95) rfl ?h30_95 ?r30_95
             case h30_95 => (intro w q; obtain ⟨h0', c2', c3', lk1, lk2⟩ := PR30.out w q; go_simp; try with_reducible rfl)
             refine layy ?_
             refine' tkL (i := 31) (v := ?v31_96) rfl ?h31_96 ?r31_96
             case h31_96 => (intro w q; obtain ⟨h0', c2', c3', lk1, lk2⟩ := PR30.out w q; go_simp; try with_reducible rfl)
             refine layy ?_
             refine wpAnyR_done (by kernel_rfl) ?_ _
             intro x1 _ Ex1
             have NX := Lib.hid (N.out.ext Ex1)
             obtain ⟨w7, hup, hm7, ht7⟩ := (M2.out.ext Ex1).put (t := 102) Tryz.underlying3 Tryz.underlying4 Tryz.underlying102 (by have := len_within M2.out.sorted S2.out; have := N.out.toHAt.taken_len; have := N.out.small; unfold maxLen; omega) (a := a) (by omega)
             have E7 := Lib.hid (But.toExt (E2.out.trans Ex1) ((But.refl [w.heap.size] x1).turned ht7 (.inl (by simp))) (by simp))
             have N7 := Lib.hid (H.out.ext E7.out)
             have M7 := Lib.hid hm7
             have h07 := N7.out.h0
             have c27 := N7.out.c2
             rw [EN.out] at c27
             have gz := N7.out.words.get K4.out
             have BZ := Lib.hid (N7.out.words.bound K4.out)
             have S7 : Hid (∀ b ∈ Hp.Hs.insert a seen2, b ∈ S.taken) := Lib.hid (fun b hb => by
              rcases (mem_ins a b seen2).1 hb with rfl | hb
              · exact AT.out
              · exact S2.out b hb)
             clear hm7 ht7 h0 c2 c3
             go_wp2_with fail
             go_roundg m
             case measure => omega
             case rel => exact ⟨m, z, Hp.Hs.insert a seen2, Nat.le_refl _, rfl, BZ, HK2, M7, S7, E7⟩
           · rw [if_pos (by simpa using hcj), Option.some.injEq] at hk
             have t2 : ((c : Int) != (j : Int)) = true := by
              simp
              omega
             have hbf := NN.out hk.symm
             subst hbf
             clear hk hs ht k1 k2 k3 k4 ha
             go_upto_region 8 with (fail)
             have PR31 := Lib.hid (fun (ww : World) (hSw : Ext wr ww) => And.intro ((hSw.cell zl 0).trans h0) (And.intro ((hSw.cell zh 2).trans c2) (And.intro ((hSw.cell zh 3).trans c3) (And.intro (seen_look (S := S) (M2.out.ext hSw) HS.out by1 by2) (run_look (N.out.toHAt.ext hSw) HT.out by1 by2)))))
             refine wp_region_seq (S := fun W => Ext wr W) (R := Ext) (by kernel_rfl) Ext.refl ?_ ?_
             · exact exx
             refine' tkL (i := 0) (v := ?v0_97) rfl ?h0_97 ?r0_97
             case h0_97 => (intro w q; obtain ⟨h0', c2', c3', lk1, lk2⟩ := PR31.out w q; go_simp; try with_reducible rfl)
             refine layy ?_
             refine' tkL (i := 1) (v := ?v1_98) rfl ?h1_98 ?r1_98
             case h1_98 => (intro w q; obtain ⟨h0', c2', c3', lk1, lk2⟩ := PR31.out w q; go_simp; try with_reducible rfl)
             refine layy ?_
             refine' tkL (i := 2) (v := ?v2_99) rfl ?h2_99 ?r2_99
             case h2_99 => (intro w q; obtain ⟨h0', c2', c3', lk1, lk2⟩ := PR31.out w q; go_simp; try with_reducible rfl)
             refine layy ?_
             refine' tkL (i := 3) (v := ?v3_100) rfl ?h3_100 ?r3_100
             case h3_100 => (intro w q; obtain ⟨h0', c2', c3', lk1, lk2⟩ := PR31.out w q; go_simp; try with_reducible rfl)
             refine layy ?_
             refine' tkL (i := 4) (v := ?v4_101) rfl ?h4_101 ?r4_101
             case h4_101 => (intro w q; obtain ⟨h0', c2', c3', lk1, lk2⟩ := PR31.out w q; go_simp; try with_reducible rfl)
             refine layy ?_
             refine' tkL (i := 5) (v := ?v5_102) rfl ?h5_102 ?r5_102
             case h5_102 => (intro w q; obtain ⟨h0', c2', c3', lk1, lk2⟩ := PR31.out w q; go_simp; try with_reducible rfl)
             refine layy ?_
             refine' tkL (i := 6) (v := ?v6_103) rfl ?h6_103 ?r6_103
             case h6_103 => (intro w q; obtain ⟨h0', c2', c3', lk1, lk2⟩ := PR31.out w q; go_simp; try with_reducible rfl)
             refine layy ?_
             refine' tkL (i := 7) (v := ?v7_104) rfl ?h7_104 ?r7_104
             case h7_104 => (intro w q; obtain ⟨h0', c2', c3', lk1, lk2⟩ := PR31.out w q; go_simp; try with_reducible rfl)
             refine layy ?_
             refine' tkL (i := 8) (v := ?v8_105) rfl ?h8_105 ?r8_105
             case h8_105 => (intro w q; obtain ⟨h0', c2', c3', lk1, lk2⟩ := PR31.out w q; go_simp; try with_reducible rfl)
             refine layy ?_
             refine' tkL (i := 9) (v := ?v9_106) rfl ?h9_106 ?r9_106
             case h9_106 => (intro w q; obtain ⟨h0', c2', c3', lk1, lk2⟩ := PR31.out w q; go_simp; try with_reducible rfl)
             refine layy ?_
             refine' tkL (i := 10) (v := ?v10_107) rfl ?h10_107 ?r10_107
             case h10_107 => (intro w q; obtain ⟨h0', c2', c3', lk1, lk2⟩ := PR31.out w q; go_simp; try with_reducible rfl)
             refine layy ?_
             refine' tkL (i := 11) (v := ?v11_108) rfl ?h11_108 ?r11_108
             case h11_108 => (intro w q; obtain ⟨h0', c2', c3', lk1, lk2⟩ := PR31.out w q; go_simp; try with_reducible rfl)
             refine layy ?_
             refine' tkL (i := 12) (v := ?v12_109) rfl ?h12_109 ?r12_109
             case h12_109 => (intro w q; obtain ⟨h0', c2', c3', lk1, lk2⟩ := PR31.out w q; go_simp; try with_reducible rfl)
             refine layy ?_
             refine' tkL (i := 13) (v := ?v13_110) rfl ?h13_110 ?r13_110
             case h13_110 => (intro w q; obtain ⟨h0', c2', c3', lk1, lk2⟩ := PR31.out w q; go_simp; try with_reducible rfl)
             refine layy ?_
             refine' tkL (i := 14) (v := ?v14_111) rfl ?h14_111 ?r14_111
             case h14_111 => (intro w q; obtain ⟨h0', c2', c3', lk1, lk2⟩ := PR31.out w q; go_simp; try with_reducible rfl)
             refine layy ?_
             refine' tkL (i := 15) (v := ?v15_112) rfl ?h15_112 ?r15_112
             case h15_112 => (intro w q; obtain ⟨h0', c2', c3', lk1, lk2⟩ := PR31.out w q; go_simp; try with_reducible rfl)
             refine layy ?_
             refine' tkL (i := 16) (v := ?v16_113) rfl ?h16_113 ?r16_113
             case h16_113 => (intro w q; obtain ⟨h0', c2', c3', lk1, lk2⟩ := PR31.out w q; go_simp; try with_reducible rfl)
             refine layy ?_
             refine' tkL (i := 17) (v := ?v17_114) rfl ?h17_114 ?r17_114
             case h17_114 => (intro w q; obtain ⟨h0', c2', c3', lk1, lk2⟩ := PR31.out w q; go_simp; try with_reducible rfl)
             refine layy ?_
             refine' tkL (i := 18) (v := ?v18_115) rfl ?h18_115 ?r18_115
             case h18_115 => (intro w q; obtain ⟨h0', c2', c3', lk1, lk2⟩ := PR31.out w q; go_simp; try with_reducible rfl)
             refine layy ?_
             refine' tkL (i := 19) (v := ?v19_116) rfl ?h19_116 ?r19_116
             case h19_116 => (intro w q; obtain ⟨h0', c2', c3', lk1, lk2⟩ := PR31.out w q; go_simp; try with_reducible rfl)
             refine layy ?_
             refine' tkL (i := 20) (v := ?v20_117) rfl ?h20_117 ?r20_117
             case h20_117 => (intro w q; obtain ⟨h0', c2', c3', lk1, lk2⟩ := PR31.out w q; go_simp; try with_reducible rfl)
             refine layy ?_
             refine' tkR (i := 21) (v := .int .i64 t) rfl (Or.inr ⟨by rfl, 76, _, ?hx21_118, ?hy21_118⟩) ?rest21_118
             case hx21_118 => (intro w hSw; go_simp; (try with_reducible rfl))
             case hy21_118 => exact fun w hE => (tag_any (N.out.toHAt.ext hE).c2 rfl N.out.le N.out.cap (N.out.toHAt.ext hE).words K1.out).mono (fun _ _ h => ⟨h.1, h.2, Ext.trans hE h.2⟩)
             refine layy ?_
             refine' tkL (i := 22) (v := ?v22_119) rfl ?h22_119 ?r22_119
             case h22_119 => (intro w q; obtain ⟨h0', c2', c3', lk1, lk2⟩ := PR31.out w q; go_simp; try with_reducible rfl)
             refine layy ?_
             refine' tkL (i := 23) (v := ?v23_120) rfl ?h23_120 ?r23_120
             case h23_120 => (intro w q; obtain ⟨h0', c2', c3', lk1, lk2⟩ := PR31.out w q; go_simp; try with_reducible rfl)
             refine layy ?_
             refine' tkL (i := 24) (v := ?v24_121) rfl ?h24_121 ?r24_121
             case h24_121 => (intro w q; obtain ⟨h0', c2', c3', lk1, lk2⟩ := PR31.out w q; go_simp; try with_reducible rfl)
             refine layy ?_
             refine' tkL (i := 25) (v := ?v25_122) rfl ?h25_122 ?r25_122
             case h25_122 => (intro w q; obtain ⟨h0', c2', c3', lk1, lk2⟩ := PR31.out w q; go_simp; try with_reducible rfl)
             refine layy ?_
             refine' tkL (i := 26) (v := ?v26_123) rfl ?h26_123 ?r26_123
             case h26_123 => (intro w q; obtain ⟨h0', c2', c3', lk1, lk2⟩ := PR31.out w q; go_simp; try with_reducible rfl)
             refine layy ?_
             refine' tkR (i := 27) (v := .slice (some ⟨d.gw, a + 4, none⟩) l.length l.length) rfl (Or.inr ⟨by rfl, 79, _, ?hx27_124, ?hy27_124⟩) ?rest27_124
             case hx27_124 => (intro w hSw; go_simp; (try with_reducible rfl))
             case hy27_124 => exact fun w hE => (fields_any (N.out.toHAt.ext hE) K2.out).mono (fun _ _ h => ⟨h.1, h.2, Ext.trans hE h.2⟩)
             refine layy ?_
             refine' tkR (i := 28) (v := .int .i64 c) rfl (Or.inr ⟨by rfl, 132, _, ?hx28_125, ?hy28_125⟩) ?rest28_125
             case hx28_125 => (intro w hSw; go_simp; (try with_reducible rfl))
             case hy28_125 => exact fun w hE => (chain_any (FA.out.ext hE) K3.out).mono (fun _ _ h => ⟨h.1, h.2, Ext.trans hE h.2⟩)
             refine layy ?_
             refine' tkL (i := 29) (v := ?v29_126) rfl ?h29_126 ?r29_126
             case h29_126 => (intro w q; obtain ⟨h0', c2', c3', lk1, lk2⟩ := PR31.out w q; go_simp; try with_reducible rfl)
             refine layy ?_
             refine' tkL (i := 30) (v := ?v30_127) rfl ?h30_127 ?r30_127
             case h30_127 => (intro w q; obtain ⟨h0', c2', c3', lk1, lk2⟩ := PR31.out w q; go_simp; try with_reducible rfl)
             refine layy ?_
             refine' tkL (i := 31) (v := ?v31_128) rfl ?h31_128 ?r31_128
             case h31_128 => (intro w q; obtain ⟨h0', c2', c3', lk1, lk2⟩ := PR31.out w q; go_simp; try with_reducible rfl)
             refine layy ?_
             refine wpAnyR_done (by kernel_rfl) ?_ _
             intro x1 _ Ex1
             go_wp2
             go_returns
             exact ⟨rfl, E2.out.trans Ex1⟩
   · have : j = 16 := by omega
     subst this
     have hf := HF.out
     rw [Nat.sub_self] at hf
     simp only [Hp.Hs.headsFrom, Option.some.injEq] at hf
     subst hf
     have hb := HB.out
     simp only [Option.some.injEq] at hb
     have c3 := N.out.c3
     have tk : decide ((16 : Int) < 16) = false := by decide
     clear HF
     have zl := cell_lt h0
     have zh := cell_lt c3
     go_upto_region 12 with (fail)
     have PR32 := Lib.hid (fun (ww : World) (hSw : Ext wr ww) => And.intro ((hSw.cell zl 0).trans h0) (And.intro ((hSw.cell zh 3).trans c3) (And.intro (fun ty => (MS.out.ext hSw).len (t := 102) Tryz.underlying102 ty) (fun ty => (N.out.map.ext hSw).len (t := 102) Tryz.underlying102 ty))))
     refine wp_region_seq (S := fun W => Ext wr W) (R := Ext) (by kernel_rfl) Ext.refl ?_ ?_
     · exact exx
     refine' tkL (i := 0) (v := ?v0_129) rfl ?h0_129 ?r0_129
     case h0_129 => (intro w q; obtain ⟨h0', c3', l1, l2⟩ := PR32.out w q; go_simp; try with_reducible rfl)
     refine layy ?_
     refine' tkL (i := 1) (v := ?v1_130) rfl ?h1_130 ?r1_130
     case h1_130 => (intro w q; obtain ⟨h0', c3', l1, l2⟩ := PR32.out w q; go_simp; try with_reducible rfl)
     refine layy ?_
     refine' tkL (i := 2) (v := ?v2_131) rfl ?h2_131 ?r2_131
     case h2_131 => (intro w q; obtain ⟨h0', c3', l1, l2⟩ := PR32.out w q; go_simp; try with_reducible rfl)
     refine layy ?_
     refine' tkL (i := 3) (v := ?v3_132) rfl ?h3_132 ?r3_132
     case h3_132 => (intro w q; obtain ⟨h0', c3', l1, l2⟩ := PR32.out w q; go_simp; try with_reducible rfl)
     refine layy ?_
     refine' tkL (i := 4) (v := ?v4_133) rfl ?h4_133 ?r4_133
     case h4_133 => (intro w q; obtain ⟨h0', c3', l1, l2⟩ := PR32.out w q; go_simp; try with_reducible rfl)
     refine layy ?_
     refine' tkL (i := 5) (v := ?v5_134) rfl ?h5_134 ?r5_134
     case h5_134 => (intro w q; obtain ⟨h0', c3', l1, l2⟩ := PR32.out w q; go_simp; try with_reducible rfl)
     refine layy ?_
     refine' tkL (i := 6) (v := ?v6_135) rfl ?h6_135 ?r6_135
     case h6_135 => (intro w q; obtain ⟨h0', c3', l1, l2⟩ := PR32.out w q; go_simp; try with_reducible rfl)
     refine layy ?_
     refine' tkL (i := 7) (v := ?v7_136) rfl ?h7_136 ?r7_136
     case h7_136 => (intro w q; obtain ⟨h0', c3', l1, l2⟩ := PR32.out w q; go_simp; try with_reducible rfl)
     refine layy ?_
     refine' tkL (i := 8) (v := ?v8_137) rfl ?h8_137 ?r8_137
     case h8_137 => (intro w q; obtain ⟨h0', c3', l1, l2⟩ := PR32.out w q; go_simp; try with_reducible rfl)
     refine layy ?_
     refine' tkL (i := 9) (v := ?v9_138) rfl ?h9_138 ?r9_138
     case h9_138 => (intro w q; obtain ⟨h0', c3', l1, l2⟩ := PR32.out w q; go_simp; try with_reducible rfl)
     refine layy ?_
     refine' tkL (i := 10) (v := ?v10_139) rfl ?h10_139 ?r10_139
     case h10_139 => (intro w q; obtain ⟨h0', c3', l1, l2⟩ := PR32.out w q; go_simp; try with_reducible rfl)
     refine layy ?_
     refine' tkL (i := 11) (v := ?v11_140) rfl ?h11_140 ?r11_140
     case h11_140 => (intro w q; obtain ⟨h0', c3', l1, l2⟩ := PR32.out w q; go_simp; try with_reducible rfl)
     refine layy ?_
     refine wpAnyR_done (by kernel_rfl) ?_ _
     intro x1 _ Ex1
     go_wp2
     go_returns
     refine ⟨?_, E.out.trans Ex1⟩
     rw [← hb]
     simp
     first
      | exact bool_eq (by simp <;> omega)
      | (by_cases e : seen.length = S.taken.length <;> simp [e] <;> omega)
end Go.Proofs.YtdokmmhjmclmnaaGreat
