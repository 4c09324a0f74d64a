/-
  Part 29 of a proof: RH8.
-/
import Derived.Test.YtdokmmhjmclmnaaGreatM21
import Derived.Test.YtdokmmhjmclmnaaGreatM28
set_option linter.unusedSimpArgs false
set_option linter.unusedVariables false
set_option linter.unusedSectionVars false
set_option linter.unnecessarySimpa false
namespace Go.Proofs.YtdokmmhjmclmnaaGreat
open Go.RowKit Go.Maps
theorem pick_free (L : List Hp.Tl) : pick true L = (Hp.freeOf L).map fun t => (t.a : Int) := by
 unfold pick Hp.freeOf
 congr 1
 apply List.filter_congr
 intro t _
 cases t.fr <;> rfl
set_option maxRecDepth 100000 in
set_option maxHeartbeats 8000000 in
theorem rCheckFree {w : World} {r : Rd} {S : Hp.Hs} {B : Nat} {L : List Hp.Tl} {ch : Nat → List Nat} (h : RAt w r S) (hw : Hp.Wf S B L ch) :
    Calls Tryz.prog 69 #[.pointer (some ⟨r.rb, 0, none⟩)] w fun e w' => e = .returned (.bool true) ∧ Ext w w' := by
  have FREE := Lib.hid (rFree h hw.fr.toFr hw.hi hw.parts)
  rw [pick_free] at FREE
  have FF := Lib.hid hw.parts.frees
  have lo := hw.lo
  have hi := hw.hi
  have lln := Hp.lay_len_ hw.parts.lay
  have fl : (Hp.freeOf L).length ≤ L.length := List.length_filter_le _ _
  have H := Lib.hid h
  have hle := h.words.le
  have hcap := h.words.cap
  have hlt := h.lt
  have c2 := h.c2
  obtain ⟨gbb, o', hp', hbb, _⟩ := h.words.cells (by omega)
  cases hp'
  obtain ⟨n, hn⟩ : ∃ n, S.words.length = n := ⟨_, rfl⟩
  have EN := Lib.hid hn
  rw [hn] at lo hi lln hle c2 FF
  obtain ⟨F, hF⟩ : ∃ F, Hp.freeOf L = F := ⟨_, rfl⟩
  rw [hF] at FREE FF fl
  obtain ⟨m, hm⟩ : ∃ m, F.length = m := ⟨_, rfl⟩
  have EM := Lib.hid hm
  rw [hm] at fl
  clear h hw hF hn hm
  go_enter Tryz.func69, Tryz.ntmps69
  go_wp2_with (go_at_call 84; refine FREE.out.mono ?_; rintro e w1 ⟨p, c, rfl, hR, hE⟩; rw [List.length_map, EM.out]; have RR := Lib.hid hR.at_; have E1 := Lib.hid hE)
  clear hR hE FREE
  have lle := RR.out.le
  have lcap := RR.out.cap
  rw [List.length_map, EM.out] at lle
  go_loopg [4, 5] m (fun g b i wr => ∃ (j bf : Nat), j ≤ m ∧ m - j ≤ g ∧ i = .int .i64 j ∧ b = .int .i64 bf ∧ bf < n ∧ Hid (Hp.bef 16 F j = bf) ∧ Hid (Ext w1 wr))
  case atStart => exact ⟨0, 16, Nat.zero_le _, by omega, rfl, rfl, by omega, Lib.hid (Hp.bef_zero _ _), Lib.hid (Ext.refl _)⟩
  case round =>
   obtain ⟨j, bf, hj, hg, rfl, rfl, hbf, BF, E⟩ := hrel
   have Ew := E1.out.trans E.out
   have c2w := (Ew.cell hlt 2).trans c2
   have gbf := (H.out.ext Ew).get (j := bf) (by rw [EN.out]; exact hbf)
   have zb : r.rb < wr.heap.size := Nat.lt_of_lt_of_le hlt Ew.le
   have zg : r.gb < wr.heap.size := Nat.lt_of_lt_of_le hbb Ew.le
   have EW := Lib.hid Ew
   clear Ew
   by_cases hlt2 : j < m
   · obtain ⟨t, ht⟩ : ∃ t, F[j]? = some t := ⟨F[j]'(by rw [EM.out]; exact hlt2), List.getElem?_eq_getElem (by rw [EM.out]; exact hlt2)⟩
     have HTJ := Lib.hid ht
     have hlk := FF.out.link j t ht
     rw [BF.out] at hlk
     rw [hlk] at gbf
     have hrd : Hp.rd (F.map fun t => (t.a : Int)) j = some (t.a : Int) := by
      unfold Hp.rd
      rw [List.getElem?_map, ht]
      rfl
     obtain ⟨lb, lo', hlp, hlbb, hlc⟩ := (RR.out.ext E.out).cells (by rw [List.length_map, EM.out]; omega)
     have gl := hlc j _ hrd
     have LCH := Lib.hid hlc
     obtain ⟨p1, p2, p3, p4, p5, p6⟩ := FF.out.part t (List.mem_of_getElem? ht)
     have gk := (H.out.ext EW.out).get (j := t.a + 1) (by rw [EN.out]; omega)
     rw [p5] at gk
     have P6 := Lib.hid p6
     have tk : decide ((j : Int) < (m : Int)) = true := decide_eq_true (by omega)
     have t0 : ((t.a : Int) != (t.a : Int)) = false := by simp
     have s1 : IntKind.i64.wrap ((t.a : Int) + 1) = (t.a : Int) + 1 := IntWalk.i64_in _ (by omega)
     have s2 : (0 : Int) ≤ (t.a : Int) + 1 := by omega
     have s3 : (t.a : Int) + 1 < (n : Int) := by omega
     have s4 : ((t.a : Int) + 1).toNat = t.a + 1 := by omega
     have s5 : IntKind.i64.wrap ((t.a : Int) + (t.k : Int)) = (t.a : Int) + (t.k : Int) := IntWalk.i64_in _ (by omega)
     have q1 : (bf : Int) < (n : Int) := by omega
     have q2 : (j : Int) < (m : Int) := by omega
     clear hrd hlc ht p4 p5 p6 hlk
     subst hlp
     by_cases hj0 : j = 0
     · have u0 : decide (0 < j) = false := decide_eq_false (by omega)
       clear hj0
       go_upto_region 6 with (fail)
       have PR45 := Lib.hid (fun (ww : World) (hSw : Ext wr ww) => And.intro ((hSw.cell zb 2).trans c2w) (And.intro ((hSw.cell hlbb (lo' + j)).trans gl) ((hSw.cell zg (r.go + bf)).trans gbf)))
       refine wp_region_seq (S := fun W => Ext wr W) (R := Ext) (by kernel_rfl) Ext.refl ?_ ?_
       · exact exx
       refine' tkL (i := 0) (v := ?v0_1) rfl ?h0_1 ?r0_1
       case h0_1 => (intro w q; obtain ⟨c2', gl', gb'⟩ := PR45.out w q; go_simp; try with_reducible rfl)
       refine layy ?_
       refine' tkL (i := 1) (v := ?v1_2) rfl ?h1_2 ?r1_2
       case h1_2 => (intro w q; obtain ⟨c2', gl', gb'⟩ := PR45.out w q; go_simp; try with_reducible rfl)
       refine layy ?_
       refine' tkL (i := 2) (v := ?v2_3) rfl ?h2_3 ?r2_3
       case h2_3 => (intro w q; obtain ⟨c2', gl', gb'⟩ := PR45.out w q; go_simp; try with_reducible rfl)
       refine layy ?_
       refine' tkL (i := 3) (v := ?v3_4) rfl ?h3_4 ?r3_4
       case h3_4 => (intro w q; obtain ⟨c2', gl', gb'⟩ := PR45.out w q; go_simp; try with_reducible rfl)
       refine layy ?_
       refine' tkL (i := 4) (v := ?v4_5) rfl ?h4_5 ?r4_5
       case h4_5 => (intro w q; obtain ⟨c2', gl', gb'⟩ := PR45.out w q; go_simp; try with_reducible rfl)
       refine layy ?_
       refine' tkL (i := 5) (v := ?v5_6) rfl ?h5_6 ?r5_6
       case h5_6 => (intro w q; obtain ⟨c2', gl', gb'⟩ := PR45.out w q; go_simp; try with_reducible rfl)
       refine layy ?_
       refine' tkL (i := 6) (v := ?v6_7) rfl ?h6_7 ?r6_7
       case h6_7 => (intro w q; obtain ⟨c2', gl', gb'⟩ := PR45.out w q; go_simp; try with_reducible rfl)
       refine layy ?_
       refine' tkL (i := 7) (v := ?v7_8) rfl ?h7_8 ?r7_8
       case h7_8 => (intro w q; obtain ⟨c2', gl', gb'⟩ := PR45.out w q; go_simp; try with_reducible rfl)
       refine layy ?_
       refine' tkL (i := 8) (v := ?v8_9) rfl ?h8_9 ?r8_9
       case h8_9 => (intro w q; obtain ⟨c2', gl', gb'⟩ := PR45.out w q; go_simp; try with_reducible rfl)
       refine layy ?_
       refine' tkL (i := 9) (v := ?v9_10) rfl ?h9_10 ?r9_10
       case h9_10 => (intro w q; obtain ⟨c2', gl', gb'⟩ := PR45.out w q; go_simp; try with_reducible rfl)
       refine layy ?_
       refine' tkL (i := 10) (v := ?v10_11) rfl ?h10_11 ?r10_11
       case h10_11 => (intro w q; obtain ⟨c2', gl', gb'⟩ := PR45.out w q; go_simp; try with_reducible rfl)
       refine layy ?_
       refine' tkL (i := 11) (v := ?v11_12) rfl ?h11_12 ?r11_12
       case h11_12 => (intro w q; obtain ⟨c2', gl', gb'⟩ := PR45.out w q; go_simp; try with_reducible rfl)
       refine layy ?_
       refine' tkL (i := 12) (v := ?v12_13) rfl ?h12_13 ?r12_13
       case h12_13 => (intro w q; obtain ⟨c2', gl', gb'⟩ := PR45.out w q; go_simp; try with_reducible rfl)
       refine layy ?_
       refine' tkL (i := 13) (v := ?v13_14) rfl ?h13_14 ?r13_14
       case h13_14 => (intro w q; obtain ⟨c2', gl', gb'⟩ := PR45.out w q; go_simp; try with_reducible rfl)
       refine layy ?_
       refine' tkL (i := 14) (v := ?v14_15) rfl ?h14_15 ?r14_15
       case h14_15 => (intro w q; obtain ⟨c2', gl', gb'⟩ := PR45.out w q; go_simp; try with_reducible rfl)
       refine layy ?_
       refine' tkL (i := 15) (v := ?v15_16) rfl ?h15_16 ?r15_16
       case h15_16 => (intro w q; obtain ⟨c2', gl', gb'⟩ := PR45.out w q; go_simp; try with_reducible rfl)
       refine layy ?_
       refine' tkR (i := 16) (v := undef) rfl (Or.inl (Or.inr ⟨by rfl, rfl⟩)) ?rest16_17
       refine layy ?_
       refine' tkR (i := 17) (v := undef) rfl (Or.inl (Or.inr ⟨by rfl, rfl⟩)) ?rest17_18
       refine layy ?_
       refine' tkR (i := 18) (v := undef) rfl (Or.inl (Or.inr ⟨by rfl, rfl⟩)) ?rest18_19
       refine layy ?_
       refine' tkR (i := 19) (v := undef) rfl (Or.inl (Or.inr ⟨by rfl, rfl⟩)) ?rest19_20
       refine layy ?_
       refine' tkR (i := 20) (v := undef) rfl (Or.inl (Or.inr ⟨by rfl, rfl⟩)) ?rest20_21
       refine layy ?_
       refine' tkR (i := 21) (v := undef) rfl (Or.inl (Or.inr ⟨by rfl, rfl⟩)) ?rest21_22
       refine layy ?_
       refine' tkR (i := 22) (v := undef) rfl (Or.inl (Or.inr ⟨by rfl, rfl⟩)) ?rest22_23
       refine layy ?_
       refine' tkR (i := 23) (v := undef) rfl (Or.inl (Or.inr ⟨by rfl, rfl⟩)) ?rest23_24
       refine layy ?_
       refine' tkR (i := 24) (v := undef) rfl (Or.inl (Or.inr ⟨by rfl, rfl⟩)) ?rest24_25
       refine layy ?_
       refine' tkR (i := 25) (v := undef) rfl (Or.inl (Or.inr ⟨by rfl, rfl⟩)) ?rest25_26
       refine layy ?_
       refine' tkR (i := 26) (v := undef) rfl (Or.inl (Or.inr ⟨by rfl, rfl⟩)) ?rest26_27
       refine layy ?_
       refine' tkR (i := 27) (v := undef) rfl (Or.inl (Or.inr ⟨by rfl, rfl⟩)) ?rest27_28
       refine layy ?_
       refine' tkR (i := 28) (v := undef) rfl (Or.inl (Or.inr ⟨by rfl, rfl⟩)) ?rest28_29
       refine layy ?_
       refine' tkR (i := 29) (v := undef) rfl (Or.inl (Or.inr ⟨by rfl, rfl⟩)) ?rest29_30
       refine layy ?_
       refine' tkR (i := 30) (v := undef) rfl (Or.inl (Or.inr ⟨by rfl, rfl⟩)) ?rest30_31
       refine layy ?_
       refine' tkR (i := 31) (v := undef) rfl (Or.inl (Or.inr ⟨by rfl, rfl⟩)) ?rest31_32
       refine layy ?_
       refine' tkR (i := 32) (v := undef) rfl (Or.inl (Or.inr ⟨by rfl, rfl⟩)) ?rest32_33
       refine layy ?_
       refine' tkR (i := 33) (v := undef) rfl (Or.inl (Or.inr ⟨by rfl, rfl⟩)) ?rest33_34
       refine layy ?_
       refine' tkR (i := 34) (v := undef) rfl (Or.inl (Or.inr ⟨by rfl, rfl⟩)) ?rest34_35
       refine layy ?_
       refine' tkR (i := 35) (v := undef) rfl (Or.inl (Or.inr ⟨by rfl, rfl⟩)) ?rest35_36
       refine layy ?_
       refine' tkR (i := 36) (v := undef) rfl (Or.inl (Or.inr ⟨by rfl, rfl⟩)) ?rest36_37
       refine layy ?_
       refine' tkR (i := 37) (v := undef) rfl (Or.inl (Or.inr ⟨by rfl, rfl⟩)) ?rest37_38
       refine layy ?_
       refine' tkR (i := 38) (v := undef) rfl (Or.inl (Or.inr ⟨by rfl, rfl⟩)) ?rest38_39
       refine layy ?_
       refine' tkL (i := 39) (v := ?v39_40) rfl ?h39_40 ?r39_40
       case h39_40 => (intro w q; obtain ⟨c2', gl', gb'⟩ := PR45.out w q; go_simp; try with_reducible rfl)
       refine layy ?_
       refine' tkL (i := 40) (v := ?v40_41) rfl ?h40_41 ?r40_41
       case h40_41 => (intro w q; obtain ⟨c2', gl', gb'⟩ := PR45.out w q; go_simp; try with_reducible rfl)
       refine layy ?_
       refine wpAnyR_done (by kernel_rfl) ?_ _
       intro x1 _ Ex1
       have EW1 := Lib.hid (EW.out.trans Ex1)
       have EE1 := Lib.hid (E.out.trans Ex1)
       have zl1 := Nat.lt_of_lt_of_le hlbb Ex1.le
       have gl1 := (Ex1.cell hlbb _).trans gl
       have gk1 := (Ex1.cell zg _).trans gk
       have c21 := (Ex1.cell zb 2).trans c2w
       have zb1 := Nat.lt_of_lt_of_le zb Ex1.le
       have zg1 := Nat.lt_of_lt_of_le zg Ex1.le
       have BF2 : Hid (Hp.bef 16 F (j + 1) = t.a + 2) := Lib.hid (Hp.bef_succ HTJ.out)
       clear u0 gl gk c2w gbf EW E Ex1 BF
       go_upto_region 9 with (fail)
       go_loopg [6] t.k (fun g x wx => ∃ k : Nat, t.a + 3 ≤ k ∧ k ≤ t.a + t.k ∧ t.a + t.k - k ≤ g ∧ x = .int .i64 k ∧ Hid (Ext x1 wx))
       case atStart => exact ⟨t.a + 3, Nat.le_refl _, by omega, by omega, by go_num, Lib.hid (Ext.refl _)⟩
       case round =>
        obtain ⟨k, hk1, hk2, hg2, rfl, E3⟩ := hrel
        have c2x := (E3.out.cell zb1 2).trans c21
        have glx := (E3.out.cell zl1 (lo' + j)).trans gl1
        have gkx := (E3.out.cell zg1 (r.go + (t.a + 1))).trans gk1
        have zbx := Nat.lt_of_lt_of_le zb1 E3.out.le
        have zgx := Nat.lt_of_lt_of_le zg1 E3.out.le
        have zlx := Nat.lt_of_lt_of_le zl1 E3.out.le
        by_cases hkk : k < t.a + t.k
        · have v1 : decide ((k : Int) < (t.a : Int) + (t.k : Int)) = true := decide_eq_true (by omega)
          have gz := (H.out.ext (EW1.out.trans E3.out)).get (j := k) (by rw [EN.out]; omega)
          rw [P6.out k hk1 hkk] at gz
          go_upto_region 9 with (fail)
          have PR46 := Lib.hid (fun (ww : World) (hSw : Ext wr ww) => And.intro ((hSw.cell zbx 2).trans c2x) (And.intro ((hSw.cell zlx (lo' + j)).trans glx) ((hSw.cell zgx (r.go + (t.a + 1))).trans gkx)))
          refine wp_region_seq (S := fun W => Ext wr W) (R := Ext) (by kernel_rfl) Ext.refl ?_ ?_
          · exact exx
          refine' tkL (i := 0) (v := ?v0_42) rfl ?h0_42 ?r0_42
          case h0_42 => (intro w q; obtain ⟨c2', gl', gk'⟩ := PR46.out w q; go_simp; try with_reducible rfl)
          refine layy ?_
          refine' tkL (i := 1) (v := ?v1_43) rfl ?h1_43 ?r1_43
          case h1_43 => (intro w q; obtain ⟨c2', gl', gk'⟩ := PR46.out w q; go_simp; try with_reducible rfl)
          refine layy ?_
          refine' tkL (i := 2) (v := ?v2_44) rfl ?h2_44 ?r2_44
          case h2_44 => (intro w q; obtain ⟨c2', gl', gk'⟩ := PR46.out w q; go_simp; try with_reducible rfl)
          refine layy ?_
          refine' tkL (i := 3) (v := ?v3_45) rfl ?h3_45 ?r3_45
          case h3_45 => (intro w q; obtain ⟨c2', gl', gk'⟩ := PR46.out w q; go_simp; try with_reducible rfl)
          refine layy ?_
          refine' tkL (i := 4) (v := ?v4_46) rfl ?h4_46 ?r4_46
          case h4_46 => (intro w q; obtain ⟨c2', gl', gk'⟩ := PR46.out w q; go_simp; try with_reducible rfl)
          refine layy ?_
          refine' tkL (i := 5) (v := ?v5_47) rfl ?h5_47 ?r5_47
          case h5_47 => (intro w q; obtain ⟨c2', gl', gk'⟩ := PR46.out w q; go_simp; try with_reducible rfl)
          refine layy ?_
          refine' tkL (i := 6) (v := ?v6_48) rfl ?h6_48 ?r6_48
          case h6_48 => (intro w q; obtain ⟨c2', gl', gk'⟩ := PR46.out w q; go_simp; try with_reducible rfl)
          refine layy ?_
          refine' tkL (i := 7) (v := ?v7_49) rfl ?h7_49 ?r7_49
          case h7_49 => (intro w q; obtain ⟨c2', gl', gk'⟩ := PR46.out w q; go_simp; try with_reducible rfl)
          refine layy ?_
          refine' tkL (i := 8) (v := ?v8_50) rfl ?h8_50 ?r8_50
          case h8_50 => (intro w q; obtain ⟨c2', gl', gk'⟩ := PR46.out w q; go_simp; try with_reducible rfl)
          refine layy ?_
          refine' tkL (i := 9) (v := ?v9_51) rfl ?h9_51 ?r9_51
          case h9_51 => (intro w q; obtain ⟨c2', gl', gk'⟩ := PR46.out w q; go_simp; try with_reducible rfl)
          refine layy ?_
          refine' tkL (i := 10) (v := ?v10_52) rfl ?h10_52 ?r10_52
          case h10_52 => (intro w q; obtain ⟨c2', gl', gk'⟩ := PR46.out w q; go_simp; try with_reducible rfl)
          refine layy ?_
          refine' tkL (i := 11) (v := ?v11_53) rfl ?h11_53 ?r11_53
          case h11_53 => (intro w q; obtain ⟨c2', gl', gk'⟩ := PR46.out w q; go_simp; try with_reducible rfl)
          refine layy ?_
          refine' tkL (i := 12) (v := ?v12_54) rfl ?h12_54 ?r12_54
          case h12_54 => (intro w q; obtain ⟨c2', gl', gk'⟩ := PR46.out w q; go_simp; try with_reducible rfl)
          refine layy ?_
          refine' tkL (i := 13) (v := ?v13_55) rfl ?h13_55 ?r13_55
          case h13_55 => (intro w q; obtain ⟨c2', gl', gk'⟩ := PR46.out w q; go_simp; try with_reducible rfl)
          refine layy ?_
          refine' tkL (i := 14) (v := ?v14_56) rfl ?h14_56 ?r14_56
          case h14_56 => (intro w q; obtain ⟨c2', gl', gk'⟩ := PR46.out w q; go_simp; try with_reducible rfl)
          refine layy ?_
          refine' tkL (i := 15) (v := ?v15_57) rfl ?h15_57 ?r15_57
          case h15_57 => (intro w q; obtain ⟨c2', gl', gk'⟩ := PR46.out w q; go_simp; try with_reducible rfl)
          refine layy ?_
          refine' tkL (i := 16) (v := ?v16_58) rfl ?h16_58 ?r16_58
          case h16_58 => (intro w q; obtain ⟨c2', gl', gk'⟩ := PR46.out w q; go_simp; try with_reducible rfl)
          refine layy ?_
          refine' tkL (i := 17) (v := ?v17_59) rfl ?h17_59 ?r17_59
          case h17_59 => (intro w q; obtain ⟨c2', gl', gk'⟩ := PR46.out w q; go_simp; try with_reducible rfl)
          refine layy ?_
          refine wpAnyR_done (by kernel_rfl) ?_ _
          intro x3 _ Ex3
          have c23 := (Ex3.cell zbx 2).trans c2x
          have gz3 := (Ex3.cell zgx _).trans gz
          have E4 := Lib.hid (E3.out.trans Ex3)
          go_wp2_with fail
          go_roundg (t.a + t.k - (k + 1))
          case measure => omega
          case rel => exact ⟨k + 1, by omega, by omega, Nat.le_refl _, by go_num, E4⟩
        · have v1 : decide ((k : Int) < (t.a : Int) + (t.k : Int)) = false := decide_eq_false (by omega)
          go_upto_region 9 with (fail)
          have PR47 := Lib.hid (fun (ww : World) (hSw : Ext wr ww) => And.intro ((hSw.cell zbx 2).trans c2x) (And.intro ((hSw.cell zlx (lo' + j)).trans glx) ((hSw.cell zgx (r.go + (t.a + 1))).trans gkx)))
          refine wp_region_seq (S := fun W => Ext wr W) (R := Ext) (by kernel_rfl) Ext.refl ?_ ?_
          · exact exx
          refine' tkL (i := 0) (v := ?v0_60) rfl ?h0_60 ?r0_60
          case h0_60 => (intro w q; obtain ⟨c2', gl', gk'⟩ := PR47.out w q; go_simp; try with_reducible rfl)
          refine layy ?_
          refine' tkL (i := 1) (v := ?v1_61) rfl ?h1_61 ?r1_61
          case h1_61 => (intro w q; obtain ⟨c2', gl', gk'⟩ := PR47.out w q; go_simp; try with_reducible rfl)
          refine layy ?_
          refine' tkL (i := 2) (v := ?v2_62) rfl ?h2_62 ?r2_62
          case h2_62 => (intro w q; obtain ⟨c2', gl', gk'⟩ := PR47.out w q; go_simp; try with_reducible rfl)
          refine layy ?_
          refine' tkL (i := 3) (v := ?v3_63) rfl ?h3_63 ?r3_63
          case h3_63 => (intro w q; obtain ⟨c2', gl', gk'⟩ := PR47.out w q; go_simp; try with_reducible rfl)
          refine layy ?_
          refine' tkL (i := 4) (v := ?v4_64) rfl ?h4_64 ?r4_64
          case h4_64 => (intro w q; obtain ⟨c2', gl', gk'⟩ := PR47.out w q; go_simp; try with_reducible rfl)
          refine layy ?_
          refine' tkL (i := 5) (v := ?v5_65) rfl ?h5_65 ?r5_65
          case h5_65 => (intro w q; obtain ⟨c2', gl', gk'⟩ := PR47.out w q; go_simp; try with_reducible rfl)
          refine layy ?_
          refine' tkL (i := 6) (v := ?v6_66) rfl ?h6_66 ?r6_66
          case h6_66 => (intro w q; obtain ⟨c2', gl', gk'⟩ := PR47.out w q; go_simp; try with_reducible rfl)
          refine layy ?_
          refine' tkL (i := 7) (v := ?v7_67) rfl ?h7_67 ?r7_67
          case h7_67 => (intro w q; obtain ⟨c2', gl', gk'⟩ := PR47.out w q; go_simp; try with_reducible rfl)
          refine layy ?_
          refine' tkL (i := 8) (v := ?v8_68) rfl ?h8_68 ?r8_68
          case h8_68 => (intro w q; obtain ⟨c2', gl', gk'⟩ := PR47.out w q; go_simp; try with_reducible rfl)
          refine layy ?_
          refine' tkL (i := 9) (v := ?v9_69) rfl ?h9_69 ?r9_69
          case h9_69 => (intro w q; obtain ⟨c2', gl', gk'⟩ := PR47.out w q; go_simp; try with_reducible rfl)
          refine layy ?_
          refine' tkL (i := 10) (v := ?v10_70) rfl ?h10_70 ?r10_70
          case h10_70 => (intro w q; obtain ⟨c2', gl', gk'⟩ := PR47.out w q; go_simp; try with_reducible rfl)
          refine layy ?_
          refine' tkL (i := 11) (v := ?v11_71) rfl ?h11_71 ?r11_71
          case h11_71 => (intro w q; obtain ⟨c2', gl', gk'⟩ := PR47.out w q; go_simp; try with_reducible rfl)
          refine layy ?_
          refine' tkL (i := 12) (v := ?v12_72) rfl ?h12_72 ?r12_72
          case h12_72 => (intro w q; obtain ⟨c2', gl', gk'⟩ := PR47.out w q; go_simp; try with_reducible rfl)
          refine layy ?_
          refine' tkL (i := 13) (v := ?v13_73) rfl ?h13_73 ?r13_73
          case h13_73 => (intro w q; obtain ⟨c2', gl', gk'⟩ := PR47.out w q; go_simp; try with_reducible rfl)
          refine layy ?_
          refine' tkL (i := 14) (v := ?v14_74) rfl ?h14_74 ?r14_74
          case h14_74 => (intro w q; obtain ⟨c2', gl', gk'⟩ := PR47.out w q; go_simp; try with_reducible rfl)
          refine layy ?_
          refine' tkL (i := 15) (v := ?v15_75) rfl ?h15_75 ?r15_75
          case h15_75 => (intro w q; obtain ⟨c2', gl', gk'⟩ := PR47.out w q; go_simp; try with_reducible rfl)
          refine layy ?_
          refine' tkL (i := 16) (v := ?v16_76) rfl ?h16_76 ?r16_76
          case h16_76 => (intro w q; obtain ⟨c2', gl', gk'⟩ := PR47.out w q; go_simp; try with_reducible rfl)
          refine layy ?_
          refine' tkL (i := 17) (v := ?v17_77) rfl ?h17_77 ?r17_77
          case h17_77 => (intro w q; obtain ⟨c2', gl', gk'⟩ := PR47.out w q; go_simp; try with_reducible rfl)
          refine layy ?_
          refine wpAnyR_done (by kernel_rfl) ?_ _
          intro x3 _ Ex3
          have gl3 := (Ex3.cell zlx _).trans glx
          have E4 := Lib.hid (EE1.out.trans (E3.out.trans Ex3))
          go_wp2_with fail
          go_roundg (m - (j + 1))
          case measure => omega
          case rel => exact ⟨j + 1, t.a + 2, by omega, Nat.le_refl _, by go_num, by go_num, by omega, BF2, E4⟩
     · obtain ⟨i, hij⟩ : ∃ i, j = i + 1 := ⟨j - 1, by omega⟩
       obtain ⟨v, hv⟩ : ∃ v, F[i]? = some v := ⟨F[i]'(by rw [EM.out]; omega), List.getElem?_eq_getElem (by rw [EM.out]; omega)⟩
       have hfar := FF.out.far i v t hv (hij ▸ HTJ.out)
       obtain ⟨v1, v2, v3, v4, v5, v6⟩ := FF.out.part v (List.mem_of_getElem? hv)
       have hrv : Hp.rd (F.map fun t => (t.a : Int)) i = some (v.a : Int) := by
        unfold Hp.rd
        rw [List.getElem?_map, hv]
        rfl
       have glv := LCH.out i _ hrv
       have gkv := (H.out.ext EW.out).get (j := v.a + 1) (by rw [EN.out]; omega)
       rw [v5] at gkv
       have u0 : decide (0 < j) = true := decide_eq_true (by omega)
       have u1 : IntKind.i64.wrap ((j : Int) - 1) = (i : Int) := by
        rw [show (j : Int) - 1 = (i : Int) by omega]
        exact IntWalk.i64_in _ (by omega)
       have u2 : (0 : Int) ≤ (i : Int) := by omega
       have u3 : (i : Int) < (m : Int) := by omega
       have u4 : ((i : Int)).toNat = i := by omega
       have u5 : IntKind.i64.wrap ((v.a : Int) + 1) = (v.a : Int) + 1 := IntWalk.i64_in _ (by omega)
       have u6 : (0 : Int) ≤ (v.a : Int) + 1 := by omega
       have u7 : (v.a : Int) + 1 < (n : Int) := by omega
       have u8 : ((v.a : Int) + 1).toNat = v.a + 1 := by omega
       have u9 : IntKind.i64.wrap ((v.a : Int) + (v.k : Int)) = (v.a : Int) + (v.k : Int) := IntWalk.i64_in _ (by omega)
       have t1 : ((v.a : Int) + (v.k : Int) == (t.a : Int)) = false := by simp; omega
       clear hj0 hrv hv v4 v5 v6 hfar hij
       go_upto_region 6 with (fail)
       have PR48 := Lib.hid (fun (ww : World) (hSw : Ext wr ww) => And.intro ((hSw.cell zb 2).trans c2w) (And.intro ((hSw.cell hlbb (lo' + j)).trans gl) (And.intro ((hSw.cell zg (r.go + bf)).trans gbf) (And.intro ((hSw.cell hlbb (lo' + i)).trans glv) ((hSw.cell zg (r.go + (v.a + 1))).trans gkv)))))
       refine wp_region_seq (S := fun W => Ext wr W) (R := Ext) (by kernel_rfl) Ext.refl ?_ ?_
       · exact exx
       refine' tkL (i := 0) (v := ?v0_78) rfl ?h0_78 ?r0_78
       case h0_78 => (intro w q; obtain ⟨c2', gl', gb', glv', gkv'⟩ := PR48.out w q; go_simp; try with_reducible rfl)
       refine layy ?_
       refine' tkL (i := 1) (v := ?v1_79) rfl ?h1_79 ?r1_79
       case h1_79 => (intro w q; obtain ⟨c2', gl', gb', glv', gkv'⟩ := PR48.out w q; go_simp; try with_reducible rfl)
       refine layy ?_
       refine' tkL (i := 2) (v := ?v2_80) rfl ?h2_80 ?r2_80
       case h2_80 => (intro w q; obtain ⟨c2', gl', gb', glv', gkv'⟩ := PR48.out w q; go_simp; try with_reducible rfl)
       refine layy ?_
       refine' tkL (i := 3) (v := ?v3_81) rfl ?h3_81 ?r3_81
       case h3_81 => (intro w q; obtain ⟨c2', gl', gb', glv', gkv'⟩ := PR48.out w q; go_simp; try with_reducible rfl)
       refine layy ?_
       refine' tkL (i := 4) (v := ?v4_82) rfl ?h4_82 ?r4_82
       case h4_82 => (intro w q; obtain ⟨c2', gl', gb', glv', gkv'⟩ := PR48.out w q; go_simp; try with_reducible rfl)
       refine layy ?_
       refine' tkL (i := 5) (v := ?v5_83) rfl ?h5_83 ?r5_83
       case h5_83 => (intro w q; obtain ⟨c2', gl', gb', glv', gkv'⟩ := PR48.out w q; go_simp; try with_reducible rfl)
       refine layy ?_
       refine' tkL (i := 6) (v := ?v6_84) rfl ?h6_84 ?r6_84
       case h6_84 => (intro w q; obtain ⟨c2', gl', gb', glv', gkv'⟩ := PR48.out w q; go_simp; try with_reducible rfl)
       refine layy ?_
       refine' tkL (i := 7) (v := ?v7_85) rfl ?h7_85 ?r7_85
       case h7_85 => (intro w q; obtain ⟨c2', gl', gb', glv', gkv'⟩ := PR48.out w q; go_simp; try with_reducible rfl)
       refine layy ?_
       refine' tkL (i := 8) (v := ?v8_86) rfl ?h8_86 ?r8_86
       case h8_86 => (intro w q; obtain ⟨c2', gl', gb', glv', gkv'⟩ := PR48.out w q; go_simp; try with_reducible rfl)
       refine layy ?_
       refine' tkL (i := 9) (v := ?v9_87) rfl ?h9_87 ?r9_87
       case h9_87 => (intro w q; obtain ⟨c2', gl', gb', glv', gkv'⟩ := PR48.out w q; go_simp; try with_reducible rfl)
       refine layy ?_
       refine' tkL (i := 10) (v := ?v10_88) rfl ?h10_88 ?r10_88
       case h10_88 => (intro w q; obtain ⟨c2', gl', gb', glv', gkv'⟩ := PR48.out w q; go_simp; try with_reducible rfl)
       refine layy ?_
       refine' tkL (i := 11) (v := ?v11_89) rfl ?h11_89 ?r11_89
       case h11_89 => (intro w q; obtain ⟨c2', gl', gb', glv', gkv'⟩ := PR48.out w q; go_simp; try with_reducible rfl)
       refine layy ?_
       refine' tkL (i := 12) (v := ?v12_90) rfl ?h12_90 ?r12_90
       case h12_90 => (intro w q; obtain ⟨c2', gl', gb', glv', gkv'⟩ := PR48.out w q; go_simp; try with_reducible rfl)
       refine layy ?_
       refine' tkL (i := 13) (v := ?v13_91) rfl ?h13_91 ?r13_91
       case h13_91 => (intro w q; obtain ⟨c2', gl', gb', glv', gkv'⟩ := PR48.out w q; go_simp; try with_reducible rfl)
       refine layy ?_
       refine' tkL (i := 14) (v := ?v14_92) rfl ?h14_92 ?r14_92
       case h14_92 => (intro w q; obtain ⟨c2', gl', gb', glv', gkv'⟩ := PR48.out w q; go_simp; try with_reducible rfl)
       refine layy ?_
       refine' tkL (i := 15) (v := ?v15_93) rfl ?h15_93 ?r15_93
       case h15_93 => (intro w q; obtain ⟨c2', gl', gb', glv', gkv'⟩ := PR48.out w q; go_simp; try with_reducible rfl)
       refine layy ?_
       refine' tkL (i := 16) (v := ?v16_94) rfl ?h16_94 ?r16_94
       case h16_94 => (intro w q; obtain ⟨c2', gl', gb', glv', gkv'⟩ := PR48.out w q; go_simp; try with_reducible rfl)
       refine layy ?_
       refine' tkL (i := 17) (v := ?v17_95) rfl ?h17_95 ?r17_95
       case h17_95 => (intro w q; obtain ⟨c2', gl', gb', glv', gkv'⟩ := PR48.out w q; go_simp; try with_reducible rfl)
       refine layy ?_
       refine' tkL (i := 18) (v := ?v18_96) rfl ?h18_96 ?r18_96
       case h18_96 => (intro w q; obtain ⟨c2', gl', gb', glv', gkv'⟩ := PR48.out w q; go_simp; try with_reducible rfl)
       refine layy ?_
       refine' tkL (i := 19) (v := ?v19_97) rfl ?h19_97 ?r19_97
       case h19_97 => (intro w q; obtain ⟨c2', gl', gb', glv', gkv'⟩ := PR48.out w q; go_simp; try with_reducible rfl)
       refine layy ?_
       refine' tkL (i := 20) (v := ?v20_98) rfl ?h20_98 ?r20_98
       case h20_98 => (intro w q; obtain ⟨c2', gl', gb', glv', gkv'⟩ := PR48.out w q; go_simp; try with_reducible rfl)
       refine layy ?_
       refine' tkL (i := 21) (v := ?v21_99) rfl ?h21_99 ?r21_99
       case h21_99 => (intro w q; obtain ⟨c2', gl', gb', glv', gkv'⟩ := PR48.out w q; go_simp; try with_reducible rfl)
       refine layy ?_
       refine' tkL (i := 22) (v := ?v22_100) rfl ?h22_100 ?r22_100
       case h22_100 => (intro w q; obtain ⟨c2', gl', gb', glv', gkv'⟩ := PR48.out w q; go_simp; try with_reducible rfl)
       refine layy ?_
       refine' tkL (i := 23) (v := ?v23_101) rfl ?h23_101 ?r23_101
       case h23_101 => (intro w q; obtain ⟨c2', gl', gb', glv', gkv'⟩ := PR48.out w q; go_simp; try with_reducible rfl)
       refine layy ?_
       refine' tkL (i := 24) (v := ?v24_102) rfl ?h24_102 ?r24_102
       case h24_102 => (intro w q; obtain ⟨c2', gl', gb', glv', gkv'⟩ := PR48.out w q; go_simp; try with_reducible rfl)
       refine layy ?_
       refine' tkL (i := 25) (v := ?v25_103) rfl ?h25_103 ?r25_103
       case h25_103 => (intro w q; obtain ⟨c2', gl', gb', glv', gkv'⟩ := PR48.out w q; go_simp; try with_reducible rfl)
       refine layy ?_
       refine' tkL (i := 26) (v := ?v26_104) rfl ?h26_104 ?r26_104
       case h26_104 => (intro w q; obtain ⟨c2', gl', gb', glv', gkv'⟩ := PR48.out w q; go_simp; try with_reducible rfl)
       refine layy ?_
       refine' tkL (i := 27) (v := ?v27_105) rfl ?h27_105 ?r27_105
       case h27_105 => (intro w q; obtain ⟨c2', gl', gb', glv', gkv'⟩ := PR48.out w q; go_simp; try with_reducible rfl)
       refine layy ?_
       refine' tkL (i := 28) (v := ?v28_106) rfl ?h28_106 ?r28_106
       case h28_106 => (intro w q; obtain ⟨c2', gl', gb', glv', gkv'⟩ := PR48.out w q; go_simp; try with_reducible rfl)
       refine layy ?_
       refine' tkL (i := 29) (v := ?v29_107) rfl ?h29_107 ?r29_107
       case h29_107 => (intro w q; obtain ⟨c2', gl', gb', glv', gkv'⟩ := PR48.out w q; go_simp; try with_reducible rfl)
       refine layy ?_
       refine' tkL (i := 30) (v := ?v30_108) rfl ?h30_108 ?r30_108
       case h30_108 => (intro w q; obtain ⟨c2', gl', gb', glv', gkv'⟩ := PR48.out w q; go_simp; try with_reducible rfl)
       refine layy ?_
       refine' tkL (i := 31) (v := ?v31_109) rfl ?h31_109 ?r31_109
       case h31_109 => (intro w q; obtain ⟨c2', gl', gb', glv', gkv'⟩ := PR48.out w q; go_simp; try with_reducible rfl)
       refine layy ?_
       refine' tkL (i := 32) (v := ?v32_110) rfl ?h32_110 ?r32_110
       case h32_110 => (intro w q; obtain ⟨c2', gl', gb', glv', gkv'⟩ := PR48.out w q; go_simp; try with_reducible rfl)
       refine layy ?_
       refine' tkL (i := 33) (v := ?v33_111) rfl ?h33_111 ?r33_111
       case h33_111 => (intro w q; obtain ⟨c2', gl', gb', glv', gkv'⟩ := PR48.out w q; go_simp; try with_reducible rfl)
       refine layy ?_
       refine' tkL (i := 34) (v := ?v34_112) rfl ?h34_112 ?r34_112
       case h34_112 => (intro w q; obtain ⟨c2', gl', gb', glv', gkv'⟩ := PR48.out w q; go_simp; try with_reducible rfl)
       refine layy ?_
       refine' tkL (i := 35) (v := ?v35_113) rfl ?h35_113 ?r35_113
       case h35_113 => (intro w q; obtain ⟨c2', gl', gb', glv', gkv'⟩ := PR48.out w q; go_simp; try with_reducible rfl)
       refine layy ?_
       refine' tkL (i := 36) (v := ?v36_114) rfl ?h36_114 ?r36_114
       case h36_114 => (intro w q; obtain ⟨c2', gl', gb', glv', gkv'⟩ := PR48.out w q; go_simp; try with_reducible rfl)
       refine layy ?_
       refine' tkL (i := 37) (v := ?v37_115) rfl ?h37_115 ?r37_115
       case h37_115 => (intro w q; obtain ⟨c2', gl', gb', glv', gkv'⟩ := PR48.out w q; go_simp; try with_reducible rfl)
       refine layy ?_
       refine' tkL (i := 38) (v := ?v38_116) rfl ?h38_116 ?r38_116
       case h38_116 => (intro w q; obtain ⟨c2', gl', gb', glv', gkv'⟩ := PR48.out w q; go_simp; try with_reducible rfl)
       refine layy ?_
       refine' tkL (i := 39) (v := ?v39_117) rfl ?h39_117 ?r39_117
       case h39_117 => (intro w q; obtain ⟨c2', gl', gb', glv', gkv'⟩ := PR48.out w q; go_simp; try with_reducible rfl)
       refine layy ?_
       refine' tkL (i := 40) (v := ?v40_118) rfl ?h40_118 ?r40_118
       case h40_118 => (intro w q; obtain ⟨c2', gl', gb', glv', gkv'⟩ := PR48.out w q; go_simp; try with_reducible rfl)
       refine layy ?_
       refine wpAnyR_done (by kernel_rfl) ?_ _
       intro x1 _ Ex1
       clear glv gkv u1 u2 u3 u4 u5 u6 u7 u8 u9 t1
       have EW1 := Lib.hid (EW.out.trans Ex1)
       have EE1 := Lib.hid (E.out.trans Ex1)
       have zl1 := Nat.lt_of_lt_of_le hlbb Ex1.le
       have gl1 := (Ex1.cell hlbb _).trans gl
       have gk1 := (Ex1.cell zg _).trans gk
       have c21 := (Ex1.cell zb 2).trans c2w
       have zb1 := Nat.lt_of_lt_of_le zb Ex1.le
       have zg1 := Nat.lt_of_lt_of_le zg Ex1.le
       have BF2 : Hid (Hp.bef 16 F (j + 1) = t.a + 2) := Lib.hid (Hp.bef_succ HTJ.out)
       clear u0 gl gk c2w gbf EW E Ex1 BF
       go_upto_region 9 with (fail)
       go_loopg [6] t.k (fun g x wx => ∃ k : Nat, t.a + 3 ≤ k ∧ k ≤ t.a + t.k ∧ t.a + t.k - k ≤ g ∧ x = .int .i64 k ∧ Hid (Ext x1 wx))
       case atStart => exact ⟨t.a + 3, Nat.le_refl _, by omega, by omega, by go_num, Lib.hid (Ext.refl _)⟩
       case round =>
        obtain ⟨k, hk1, hk2, hg2, rfl, E3⟩ := hrel
        have c2x := (E3.out.cell zb1 2).trans c21
        have glx := (E3.out.cell zl1 (lo' + j)).trans gl1
        have gkx := (E3.out.cell zg1 (r.go + (t.a + 1))).trans gk1
        have zbx := Nat.lt_of_lt_of_le zb1 E3.out.le
        have zgx := Nat.lt_of_lt_of_le zg1 E3.out.le
        have zlx := Nat.lt_of_lt_of_le zl1 E3.out.le
        by_cases hkk : k < t.a + t.k
        · have v1 : decide ((k : Int) < (t.a : Int) + (t.k : Int)) = true := decide_eq_true (by omega)
          have gz := (H.out.ext (EW1.out.trans E3.out)).get (j := k) (by rw [EN.out]; omega)
          rw [P6.out k hk1 hkk] at gz
          go_upto_region 9 with (fail)
          have PR49 := Lib.hid (fun (ww : World) (hSw : Ext wr ww) => And.intro ((hSw.cell zbx 2).trans c2x) (And.intro ((hSw.cell zlx (lo' + j)).trans glx) ((hSw.cell zgx (r.go + (t.a + 1))).trans gkx)))
          refine wp_region_seq (S := fun W => Ext wr W) (R := Ext) (by kernel_rfl) Ext.refl ?_ ?_
          · exact exx
          refine' tkL (i := 0) (v := ?v0_119) rfl ?h0_119 ?r0_119
          case h0_119 => (intro w q; obtain ⟨c2', gl', gk'⟩ := PR49.out w q; go_simp; try with_reducible rfl)
          refine layy ?_
          refine' tkL (i := 1) (v := ?v1_120) rfl ?h1_120 ?r1_120
          case h1_120 => (intro w q; obtain ⟨c2', gl', gk'⟩ := PR49.out w q; go_simp; try with_reducible rfl)
          refine layy ?_
          refine' tkL (i := 2) (v := ?v2_121) rfl ?h2_121 ?r2_121
          case h2_121 => (intro w q; obtain ⟨c2', gl', gk'⟩ := PR49.out w q; go_simp; try with_reducible rfl)
          refine layy ?_
          refine' tkL (i := 3) (v := ?v3_122) rfl ?h3_122 ?r3_122
          case h3_122 => (intro w q; obtain ⟨c2', gl', gk'⟩ := PR49.out w q; go_simp; try with_reducible rfl)
          refine layy ?_
          refine' tkL (i := 4) (v := ?v4_123) rfl ?h4_123 ?r4_123
          case h4_123 => (intro w q; obtain ⟨c2', gl', gk'⟩ := PR49.out w q; go_simp; try with_reducible rfl)
          refine layy ?_
          refine' tkL (i := 5) (v := ?v5_124) rfl ?h5_124 ?r5_124
          case h5_124 => (intro w q; obtain ⟨c2', gl', gk'⟩ := PR49.out w q; go_simp; try with_reducible rfl)
          refine layy ?_
          refine' tkL (i := 6) (v := ?v6_125) rfl ?h6_125 ?r6_125
          case h6_125 => (intro w q; obtain ⟨c2', gl', gk'⟩ := PR49.out w q; go_simp; try with_reducible rfl)
          refine layy ?_
          refine' tkL (i := 7) (v := ?v7_126) rfl ?h7_126 ?r7_126
          case h7_126 => (intro w q; obtain ⟨c2', gl', gk'⟩ := PR49.out w q; go_simp; try with_reducible rfl)
          refine layy ?_
          refine' tkL (i := 8) (v := ?v8_127) rfl ?h8_127 ?r8_127
          case h8_127 => (intro w q; obtain ⟨c2', gl', gk'⟩ := PR49.out w q; go_simp; try with_reducible rfl)
          refine layy ?_
          refine' tkL (i := 9) (v := ?v9_128) rfl ?h9_128 ?r9_128
          case h9_128 => (intro w q; obtain ⟨c2', gl', gk'⟩ := PR49.out w q; go_simp; try with_reducible rfl)
          refine layy ?_
          refine' tkL (i := 10) (v := ?v10_129) rfl ?h10_129 ?r10_129
          case h10_129 => (intro w q; obtain ⟨c2', gl', gk'⟩ := PR49.out w q; go_simp; try with_reducible rfl)
          refine layy ?_
          refine' tkL (i := 11) (v := ?v11_130) rfl ?h11_130 ?r11_130
          case h11_130 => (intro w q; obtain ⟨c2', gl', gk'⟩ := PR49.out w q; go_simp; try with_reducible rfl)
          refine layy ?_
          refine' tkL (i := 12) (v := ?v12_131) rfl ?h12_131 ?r12_131
          case h12_131 => (intro w q; obtain ⟨c2', gl', gk'⟩ := PR49.out w q; go_simp; try with_reducible rfl)
          refine layy ?_
          refine' tkL (i := 13) (v := ?v13_132) rfl ?h13_132 ?r13_132
          case h13_132 => (intro w q; obtain ⟨c2', gl', gk'⟩ := PR49.out w q; go_simp; try with_reducible rfl)
          refine layy ?_
          refine' tkL (i := 14) (v := ?v14_133) rfl ?h14_133 ?r14_133
          case h14_133 => (intro w q; obtain ⟨c2', gl', gk'⟩ := PR49.out w q; go_simp; try with_reducible rfl)
          refine layy ?_
          refine' tkL (i := 15) (v := ?v15_134) rfl ?h15_134 ?r15_134
          case h15_134 => (intro w q; obtain ⟨c2', gl', gk'⟩ := PR49.out w q; go_simp; try with_reducible rfl)
          refine layy ?_
          refine' tkL (i := 16) (v := ?v16_135) rfl ?h16_135 ?r16_135
          case h16_135 => (intro w q; obtain ⟨c2', gl', gk'⟩ := PR49.out w q; go_simp; try with_reducible rfl)
          refine layy ?_
          refine' tkL (i := 17) (v := ?v17_136) rfl ?h17_136 ?r17_136
          case h17_136 => (intro w q; obtain ⟨c2', gl', gk'⟩ := PR49.out w q; go_simp; try with_reducible rfl)
          refine layy ?_
          refine wpAnyR_done (by kernel_rfl) ?_ _
          intro x3 _ Ex3
          have c23 := (Ex3.cell zbx 2).trans c2x
          have gz3 := (Ex3.cell zgx _).trans gz
          have E4 := Lib.hid (E3.out.trans Ex3)
          go_wp2_with fail
          go_roundg (t.a + t.k - (k + 1))
          case measure => omega
          case rel => exact ⟨k + 1, by omega, by omega, Nat.le_refl _, by go_num, E4⟩
        · have v1 : decide ((k : Int) < (t.a : Int) + (t.k : Int)) = false := decide_eq_false (by omega)
          go_upto_region 9 with (fail)
          have PR50 := Lib.hid (fun (ww : World) (hSw : Ext wr ww) => And.intro ((hSw.cell zbx 2).trans c2x) (And.intro ((hSw.cell zlx (lo' + j)).trans glx) ((hSw.cell zgx (r.go + (t.a + 1))).trans gkx)))
          refine wp_region_seq (S := fun W => Ext wr W) (R := Ext) (by kernel_rfl) Ext.refl ?_ ?_
          · exact exx
          refine' tkL (i := 0) (v := ?v0_137) rfl ?h0_137 ?r0_137
          case h0_137 => (intro w q; obtain ⟨c2', gl', gk'⟩ := PR50.out w q; go_simp; try with_reducible rfl)
          refine layy ?_
          refine' tkL (i := 1) (v := ?v1_138) rfl ?h1_138 ?r1_138
          case h1_138 => (intro w q; obtain ⟨c2', gl', gk'⟩ := PR50.out w q; go_simp; try with_reducible rfl)
          refine layy ?_
          refine' tkL (i := 2) (v := ?v2_139) rfl ?h2_139 ?r2_139
          case h2_139 => (intro w q; obtain ⟨c2', gl', gk'⟩ := PR50.out w q; go_simp; try with_reducible rfl)
          refine layy ?_
          refine' tkL (i := 3) (v := ?v3_140) rfl ?h3_140 ?r3_140
          case h3_140 => (intro w q; obtain ⟨c2', gl', gk'⟩ := PR50.out w q; go_simp; try with_reducible rfl)
          refine layy ?_
          refine' tkL (i := 4) (v := ?v4_141) rfl ?h4_141 ?r4_141
          case h4_141 => (intro w q; obtain ⟨c2', gl', gk'⟩ := PR50.out w q; go_simp; try with_reducible rfl)
          refine layy ?_
          refine' tkL (i := 5) (v := ?v5_142) rfl ?h5_142 ?r5_142
          case h5_142 => (intro w q; obtain ⟨c2', gl', gk'⟩ := PR50.out w q; go_simp; try with_reducible rfl)
          refine layy ?_
          refine' tkL (i := 6) (v := ?v6_143) rfl ?h6_143 ?r6_143
          case h6_143 => (intro w q; obtain ⟨c2', gl', gk'⟩ := PR50.out w q; go_simp; try with_reducible rfl)
          refine layy ?_
          refine' tkL (i := 7) (v := ?v7_144) rfl ?h7_144 ?r7_144
          case h7_144 => (intro w q; obtain ⟨c2', gl', gk'⟩ := PR50.out w q; go_simp; try with_reducible rfl)
          refine layy ?_
          refine' tkL (i := 8) (v := ?v8_145) rfl ?h8_145 ?r8_145
          case h8_145 => (intro w q; obtain ⟨c2', gl', gk'⟩ := PR50.out w q; go_simp; try with_reducible rfl)
          refine layy ?_
          refine' tkL (i := 9) (v := ?v9_146) rfl ?h9_146 ?r9_146
          case h9_146 => (intro w q; obtain ⟨c2', gl', gk'⟩ := PR50.out w q; go_simp; try with_reducible rfl)
          refine layy ?_
          refine' tkL (i := 10) (v := ?v10_147) rfl ?h10_147 ?r10_147
          case h10_147 => (intro w q; obtain ⟨c2', gl', gk'⟩ := PR50.out w q; go_simp; try with_reducible rfl)
          refine layy ?_
          refine' tkL (i := 11) (v := ?v11_148) rfl ?h11_148 ?r11_148
          case h11_148 => (intro w q; obtain ⟨c2', gl', gk'⟩ := PR50.out w q; go_simp; try with_reducible rfl)
          refine layy ?_
          refine' tkL (i := 12) (v := ?v12_149) rfl ?h12_149 ?r12_149
          case h12_149 => (intro w q; obtain ⟨c2', gl', gk'⟩ := PR50.out w q; go_simp; try with_reducible rfl)
          refine layy ?_
          refine' tkL (i := 13) (v := ?v13_150) rfl ?h13_150 ?r13_150
          case h13_150 => (intro w q; obtain ⟨c2', gl', gk'⟩ := PR50.out w q; go_simp; try with_reducible rfl)
          refine layy ?_
          refine' tkL (i := 14) (v := ?v14_151) rfl ?h14_151 ?r14_151
          case h14_151 => (intro w q; obtain ⟨c2', gl', gk'⟩ := PR50.out w q; go_simp; try with_reducible rfl)
          refine layy ?_
          refine' tkL (i := 15) (v := ?v15_152) rfl ?h15_152 ?r15_152
          case h15_152 => (intro w q; obtain ⟨c2', gl', gk'⟩ := PR50.out w q; go_simp; try with_reducible rfl)
          refine layy ?_
          refine' tkL (i := 16) (v := ?v16_153) rfl ?h16_153 ?r16_153
          case h16_153 => (intro w q; obtain ⟨c2', gl', gk'⟩ := PR50.out w q; go_simp; try with_reducible rfl)
          refine layy ?_
          refine' tkL (i := 17) (v := ?v17_154) rfl ?h17_154 ?r17_154
          case h17_154 => (intro w q; obtain ⟨c2', gl', gk'⟩ := PR50.out w q; go_simp; try with_reducible rfl)
          refine layy ?_
          refine wpAnyR_done (by kernel_rfl) ?_ _
          intro x3 _ Ex3
          have gl3 := (Ex3.cell zlx _).trans glx
          have E4 := Lib.hid (EE1.out.trans (E3.out.trans Ex3))
          go_wp2_with fail
          go_roundg (m - (j + 1))
          case measure => omega
          case rel => exact ⟨j + 1, t.a + 2, by omega, Nat.le_refl _, by go_num, by go_num, by omega, BF2, E4⟩
   · have : j = m := by omega
     subst this
     have tk : decide ((j : Int) < (j : Int)) = false := decide_eq_false (by omega)
     have hlast := FF.out.last
     rw [EM.out, BF.out] at hlast
     rw [hlast] at gbf
     have t0 : ((0 : Int) == 0) = true := by decide
     clear hlast
     go_wp2_with fail
     go_returns
     exact ⟨rfl, EW.out⟩
end Go.Proofs.YtdokmmhjmclmnaaGreat
