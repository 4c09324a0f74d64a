/-
  Part 23 of a proof: HFn43 HFn44 HFn45 RH1 RH2 RH3 RH4.
-/
import Derived.Test.YtdokmmhjmclmnaaGreatMP11
import Derived.Test.YtdokmmhjmclmnaaGreatMP15
import Derived.Test.YtdokmmhjmclmnaaGreatMP19
import Derived.Test.YtdokmmhjmclmnaaGreatMP22
set_option linter.unusedSimpArgs false
set_option linter.unusedVariables false
set_option linter.unusedSectionVars false
set_option linter.unnecessarySimpa false
namespace Go.Proofs.YtdokmmhjmclmnaaGreat
open Go.RowKit Go.Maps
theorem moved_vals {S S' : Hp.Hs} {M : List (Nat × Int)} (h : S.moved = some (M, S')) (hs : S.words.length ≤ 1000000) : ∀ p ∈ M, 0 ≤ p.2 ∧ p.2 ≤ 1000017 := by
 obtain ⟨Wf, nf, Sx, hmv, _⟩ := moved_some h
 intro p hp
 rcases (moves_spec hmv).2 p hp with h | ⟨_, h2, h3⟩
 · cases h
 · simp only [List.length_replicate] at h3; omega
set_option maxRecDepth 100000 in
set_option maxHeartbeats 8000000 in
theorem do_compact {w0 w : World} {sb : Nat} {d : Hd} {s s' : Hp.Sc} {p1 p2 p : Option Addr} {k1 k2 c f : Nat} {x : Hp.Act'} (h : ScAt w0 w sb d s p1 k1 p2 k2) (hl1 : s.res.length < 1000000) (hl2 : s.ats.length < 1000000) (hpos : ∀ a ∈ s.ats, 0 ≤ a) (hk : x.kind = 7) (hr : s.do' x = some s') :
    Calls Tryz.prog 93 #[.pointer (some ⟨sb, 0, none⟩), actV x p c f] w (DoPost w0 sb d s') := by
  unfold Hp.Sc.do' at hr
  rw [if_neg (by omega), if_neg (by omega), if_neg (by omega), if_neg (by omega), if_pos hk] at hr; simp only [Option.bind_eq_bind, Option.bind_eq_some_iff, Option.some.injEq] at hr; obtain ⟨⟨m, S1⟩, hr, ⟨M, S2⟩, hm, rfl⟩ := hr; have HR := Lib.hid hr; have HM := Lib.hid hm
  have POS := Lib.hid (fun a (hm : a ∈ (Hp.Sc.forget { s with S := S1 }).ats) => (by
   obtain ⟨b, hb, rfl⟩ := List.mem_map.1 hm; have := hpos b hb
   split <;> omega : (0 : Int) ≤ a))
  have flen : (Hp.Sc.forget { s with S := S1 }).ats.length = s.ats.length := by simp [Hp.Sc.forget]
  have flen1 : (Hp.Sc.forget { s with S := S1 }).res = s.res := rfl; unfold actV; rw [hk]; have H1 := Lib.hid (h.ext (Ext.alloc (Ext.refl w) (.cells #[.int .u8 7, .int .i64 x.a, .slice p x.list.length c, .int .u8 f, .int .i64 x.n] 85))); have h0 := H1.out.h0; clear h hk hr hm hpos; obtain ⟨s3, hs3⟩ : ∃ s3, Hp.Sc.forget { s with S := S1 } = s3 := ⟨_, rfl⟩
  rw [hs3] at POS flen flen1 HM ⊢; have HS3 := Lib.hid hs3; clear hs3; obtain ⟨fm, hfm⟩ : ∃ fm : Int → Int, (fun a => if a < 0 then 0 else (getI a.toNat M).getD 0) = fm := ⟨_, rfl⟩
  rw [hfm]; have FM := Lib.hid (fun (k : Nat) => (by rw [← hfm]; simp; omega : fm k = (getI k M).getD 0)); clear hfm; go_enter Tryz.func93, Tryz.ntmps93
  go_upto_region 30 with (first
   | (go_at_call 111; refine (collect_any H1.out.toHAt HR.out).mono ?_; rintro e' w2 ⟨rfl, hA, hB⟩; have N2 := Lib.hid (H1.out.turn (g := d.gw) (cap := d.cap) hB hA (.inl rfl)); clear hA hB)
   | (go_at_call 145; refine (forget_any N2.out (by simp only; omega)).mono ?_; rintro e' w3 ⟨rfl, hN3⟩; have N3 := Lib.hid (HS3.out ▸ hN3); clear hN3; have h03 := N3.out.h0)
   | (go_at_call 116; refine (move_any N3.out.toHAt HM.out).mono ?_; rintro e' w4 ⟨g, gm, rfl, hA, hM, hB, z1, z2, z3⟩; have N4 := Lib.hid (N3.out.turn (g := g) (cap := S2.words.length) hB hA (.inr z1)); have MH := Lib.hid hM; have GN := Lib.hid (fun b o (e' : p2 = some ⟨b, o, none⟩) => (by have := ScB.rlt N3.out.r2 e'; omega : b ≠ gm)); have GS := Lib.hid (fun (e' : sb = gm) => (by have := N3.out.lt1; omega : False)); clear hA hM hB))
  have hMV := moved_vals HM.out N3.out.small; have MVH := Lib.hid hMV; obtain ⟨n, hn⟩ : ∃ n, s3.ats.length = n := ⟨_, rfl⟩
  have HN := Lib.hid hn; have h24 := N4.out.h2; have le := N4.out.r2.at_.le; have cap := N4.out.r2.at_.cap; simp only at h24 le; rw [hn] at h24 le flen; have N5 := Lib.hid (show ScAt w0 w4 sb { d with gw := g, cap := S2.words.length } { S := S2, res := s3.res, ats := mapTo fm s3.ats 0 } p1 k1 p2 k2 by rw [mapTo_zero]; exact N4.out); clear h0 h03 N2 N3 N4 hMV hn
  go_wp2_with fail
  go_loopg [129] n (fun g' i wr => ∃ j : Nat, j ≤ n ∧ n - j ≤ g' ∧ i = .int .i64 j ∧ Hid (ScAt w0 wr sb { d with gw := g, cap := S2.words.length } { S := S2, res := s3.res, ats := mapTo fm s3.ats j } p1 k1 p2 k2) ∧ Hid (MapIAt Tryz.prog wr gm M))
  case atStart => exact ⟨0, Nat.zero_le _, by omega, rfl, N5, MH⟩
  case round =>
   obtain ⟨j, hj, hg, rfl, N, MM⟩ := hrel; clear N5 MH
   by_cases hlt : j < n
   · obtain ⟨x, hx⟩ := rd_get (l := s3.ats) (j := j) (by rw [HN.out]; exact hlt); have hr : Hp.rd (mapTo fm s3.ats j) j = some x := (mapTo_rd (by rw [HN.out]; exact hlt)).trans hx; have hx0 := POS.out x (List.mem_of_getElem? hx); obtain ⟨k, rfl⟩ : ∃ k : Nat, x = k := ⟨x.toNat, by omega⟩
     obtain ⟨b, hp, hb⟩ := N.out.r2.ptr (by simp only [mapTo_len]; rw [HN.out]; omega); obtain ⟨b', o', hp', hb', hc⟩ := N.out.r2.at_.cells (by simp only [mapTo_len]; rw [HN.out]; omega); rw [hp] at hp'
     cases hp'
     have gx := hc j _ hr; rw [Nat.zero_add] at gx; have bx := N.out.r2.2 _ (List.mem_of_getElem? hr); have h2 := N.out.h2; simp only [mapTo_len] at h2; rw [HN.out] at h2; have HX := Lib.hid hx; have fb : wr.frozen? ⟨b, j, none⟩ = false := by
      rcases N.out.r2.1.2 with ⟨e, _⟩ | ⟨g', cap', cur, e, _, hgb, _⟩
      · injection e with e1
        rw [hp] at e1
        cases e1
      · injection e with e1
        rw [hp] at e1
        cases e1
        simp [World.frozen?, hgb]
     have tk : decide ((j : Int) < (n : Int)) = true := by simpa using (by omega : (j : Int) < (n : Int))
     have vb := getD_small (k := k) MVH.out; have zs := N.out.lt1; clear hx hr hc hx0; subst hp; have bgm := GN.out b 0 rfl; go_upto_region 33 with (fail)
     clear gx; refine wp_region_any (by kernel_rfl) ?_; have PR22 := Lib.hid (fun (ww : World) (hSw : Ext wr ww) => And.intro ((hSw.cell zs 2).trans h2) ((MM.out.ext hSw).look (t := 119) Tryz.underlying3 Tryz.underlying119 (Tryz.zeroValue3 _) (k := k) (by omega))); refine wpAny_to_X (S := fun W => Ext wr W) (R := Ext) 8 8 Ext.refl ?_ ?_ (by rfl)
     · exact Ext.drew exx
     refine' tkY 0 rfl ?h0_1 ?_
     case h0_1 => (intro w q; obtain ⟨h2', hlk'⟩ := PR22.out w q; go_simp; try with_reducible rfl)
     refine layy ?_; refine' tkY 1 rfl ?h1_2 ?_
     case h1_2 => (intro w q; obtain ⟨h2', hlk'⟩ := PR22.out w q; go_simp; try with_reducible rfl)
     refine layy ?_; refine' tkY 2 rfl ?h2_3 ?_
     case h2_3 => (intro w q; obtain ⟨h2', hlk'⟩ := PR22.out w q; go_simp; try with_reducible rfl)
     refine layy ?_; refine' tkY 3 rfl ?h3_4 ?_
     case h3_4 => (intro w q; obtain ⟨h2', hlk'⟩ := PR22.out w q; go_simp; try with_reducible rfl)
     refine layy ?_; refine' tkY 4 rfl ?h4_5 ?_
     case h4_5 => (intro w q; obtain ⟨h2', hlk'⟩ := PR22.out w q; go_simp; try with_reducible rfl)
     refine layy ?_; refine' tkY 5 rfl ?h5_6 ?_
     case h5_6 => (intro w q; obtain ⟨h2', hlk'⟩ := PR22.out w q; go_simp; try with_reducible rfl)
     refine layy ?_; refine' tkY 6 rfl ?h6_7 ?_
     case h6_7 => (intro w q; obtain ⟨h2', hlk'⟩ := PR22.out w q; go_simp; try with_reducible rfl)
     refine layy ?_; refine' tkY 7 rfl ?h7_8 ?_
     case h7_8 => (intro w q; obtain ⟨h2', hlk'⟩ := PR22.out w q; go_simp; try with_reducible rfl)
     refine layy ?_; refine wpAnyX_done (by kernel_rfl) ?_; intro wd _ Ewd; simp only [List.drop_succ_cons, List.drop_zero]; have ND := Lib.hid (N.out.ext Ewd); have fd := (Ewd.frozen hb j).trans fb; have gd : ∃ y, wd.cell? ⟨b, j, none⟩ = some y := by
      obtain ⟨y, hy⟩ := rd_get (l := mapTo fm s3.ats j) (j := j) (by rw [mapTo_len, HN.out]; exact hlt); obtain ⟨b', o', hp', hb', hc⟩ := ND.out.r2.at_.cells (by simp only [mapTo_len]; rw [HN.out]; omega)
      cases hp'
      have := hc j _ hy; rw [Nat.zero_add] at this; exact ⟨_, this⟩
     obtain ⟨y, gy⟩ := gd; have N6 := Lib.hid (ND.out.setAt rfl (mapTo_step HX.out) (by rw [FM.out]; omega) (by rw [FM.out]; omega)); have MM6 := Lib.hid ((MM.out.ext Ewd).but ((But.refl [b] _).setCell (p := ⟨b, j, none⟩) (.inl (by simp)) (.int .i64 (fm (k : Int)))) (by simp; exact fun e => bgm e.symm)); have FK := FM.out k; rw [FK] at N6 MM6; clear FK fb h2 N ND
     go_wp2_with fail
     go_roundg (n - (j + 1))
     case measure => omega
     case rel => exact ⟨j + 1, by omega, Nat.le_refl _, by go_num, N6, MM6⟩
   · have : j = n := by omega
     subst this; have NF := Lib.hid (show ScAt w0 wr sb { d with gw := g, cap := S2.words.length } { S := S2, res := s3.res, ats := s3.ats.map fm } p1 k1 p2 k2 by
      have := N.out; rw [← HN.out, mapTo_all] at this; exact this)
     clear N
     go_wp2_with (go_at_call 142; refine (note_do NF.out (by rw [flen1]; exact hl1) (by simp only [List.length_map]; rw [HN.out]; omega) (by omega) (by omega) (by omega) (by omega)).mono ?_; rintro e' w9 ⟨rfl, hD⟩)
     go_returns; exact ⟨rfl, hD⟩
structure ActOk (x : Hp.Act') (f : Nat) : Prop where
 k0 : 0 ≤ x.kind
 fault : x.fault = f
 f2 : f < 256
 n1 : -9223372036854775808 ≤ x.n
 n2 : x.n ≤ 9223372036854775807
 a1 : -9223372036854775808 ≤ x.a
 a2 : x.a ≤ 9223372036854775807
 len : x.list.length ≤ 1000
theorem do_any {w0 w : World} {sb : Nat} {d : Hd} {s s' : Hp.Sc} {p1 p2 p : Option Addr} {k1 k2 c f : Nat} {x : Hp.Act'} (h : ScAt w0 w sb d s p1 k1 p2 k2) (hl1 : s.res.length < 1000000) (hl2 : s.ats.length < 1000000) (hpos : ∀ a ∈ s.ats, 0 ≤ a) (ok : ActOk x f) (hs : SliceAt w p c x.list) (hr : s.do' x = some s') :
    Calls Tryz.prog 93 #[.pointer (some ⟨sb, 0, none⟩), actV x p c f] w (DoPost w0 sb d s') := by
  have hk := ok.k0
  by_cases k1 : x.kind = 1
  · exact do_end h hl1 hl2 k1 ok.fault ok.f2 ok.n1 ok.n2 hr
  by_cases k2 : x.kind = 2
  · exact do_make h hl1 hl2 k2 hs ok.len ok.a1 ok.a2 hr
  by_cases k3 : x.kind = 3
  · exact do_find h hl1 hl2 k3 hs ok.len ok.a1 ok.a2 hr
  by_cases k4 : x.kind = 4
  · exact do_hold h hl1 hl2 k4 ok.a1 ok.a2 hr
  by_cases k5 : x.kind = 5
  · exact do_drop h hl1 hl2 k5 ok.a1 ok.a2 hr
  by_cases k6 : x.kind = 6
  · exact do_collect h hl1 hl2 k6 hr
  by_cases k7 : x.kind = 7
  · exact do_compact h hl1 hl2 hpos k7 hr
  · exact do_none h hl1 hl2 (by omega) hr
theorem check_has {S : Hp.Hs} {a : Int} {l : List Int} (h : S.checkNode a l = some 0) : ∀ k ∈ l, 0 ≤ k := by
 unfold Hp.Hs.checkNode at h
 split at h
 · cases h
 · simp only [Option.bind_eq_bind, Option.bind_eq_some_iff] at h; obtain ⟨v, _, h⟩ := h
   split at h
   · cases h
   · split at h
     · cases h
     · rename_i _ hn; intro k hk; have : S.has k = true := by
        have h2 : l.all S.has = true := by simpa using hn
        exact List.all_eq_true.1 h2 k hk
       unfold Hp.Hs.has at this; simp only [Bool.and_eq_true, decide_eq_true_eq] at this; exact this.1
theorem make_pos {S S' : Hp.Hs} {a : Int} {l : List Int} {r e : Int} (h : S.make a l = some (r, e, S')) : 0 ≤ r := by
 unfold Hp.Hs.make at h
 simp only [Option.bind_eq_bind, Option.bind_eq_some_iff] at h
 obtain ⟨e0, he, h⟩ := h
 split at h
 · simp only [Option.some.injEq, Prod.mk.injEq] at h; omega
 · rename_i h0; have h0 : e0 = 0 := by omega
   subst h0
   split at h
   · simp only [Option.bind_eq_some_iff, Option.some.injEq, Prod.mk.injEq] at h; obtain ⟨k, hk, rfl, rfl, _⟩ := h; exact check_has he k (List.mem_of_head? hk)
   · simp only [Option.bind_eq_some_iff, Option.pure_def, Option.some.injEq] at h; obtain ⟨⟨a', S1⟩, ha, h⟩ := h; rw [full_eq] at h; simp only [Prod.mk.injEq] at h; omega
theorem find_pos {S : Hp.Hs} {a : Int} {l : List Int} {r e : Int} (h : S.find a l = some (r, e)) : 0 ≤ r := by
 unfold Hp.Hs.find at h
 simp only [Option.bind_eq_bind, Option.bind_eq_some_iff] at h
 obtain ⟨e0, he, h⟩ := h
 split at h
 · simp only [Option.some.injEq, Prod.mk.injEq] at h; omega
 · rename_i h0; have h0 : e0 = 0 := by omega
   subst h0
   split at h
   · simp only [Option.bind_eq_some_iff, Option.some.injEq, Prod.mk.injEq] at h; obtain ⟨k, hk, rfl, rfl⟩ := h; exact check_has he k (List.mem_of_head? hk)
   · simp only [Option.bind_eq_some_iff] at h; obtain ⟨a', ha, h⟩ := h
     split at h
     · simp only [Option.some.injEq, Prod.mk.injEq] at h; omega
     · simp only [Option.some.injEq, Prod.mk.injEq] at h; omega
theorem end_pos {S S' : Hp.Hs} {f n r e : Int} (h : S.end' f n = some (r, e, S')) : 0 ≤ r := by
 unfold Hp.Hs.end' at h
 split at h
 · simp only [Option.some.injEq, Prod.mk.injEq] at h; omega
 · simp only [Option.bind_eq_bind, Option.bind_eq_some_iff, Option.pure_def, Option.some.injEq] at h; obtain ⟨⟨a, S1⟩, ha, h⟩ := h; rw [full_eq] at h; simp only [Prod.mk.injEq] at h; omega
structure ScOk (s : Hp.Sc) (j : Nat) : Prop where
 res : s.res.length = j
 ats : s.ats.length = j
 pos : ∀ a ∈ s.ats, 0 ≤ a
theorem ScOk.note {s : Hp.Sc} {j : Nat} {r e : Int} {b : Bool} (h : ScOk s j) (hr : b = true → 0 ≤ r) : ScOk (s.note r e b) (j + 1) := by
 refine ⟨by simp [Hp.Sc.note, h.res], by simp [Hp.Sc.note, h.ats], fun a ha => ?_⟩
 simp only [Hp.Sc.note, List.mem_append, List.mem_singleton] at ha
 rcases ha with ha | rfl
 · exact h.pos a ha
 · split
   · omega
   · split
     · rename_i hb; exact hr hb
     · omega
theorem ScOk.heap {s : Hp.Sc} {j : Nat} (h : ScOk s j) (S : Hp.Hs) : ScOk { s with S := S } j := ⟨h.res, h.ats, h.pos⟩
theorem ScOk.forget {s : Hp.Sc} {j : Nat} (h : ScOk s j) : ScOk s.forget j := by
 refine ⟨h.res, by simp [Hp.Sc.forget, h.ats], fun a ha => ?_⟩
 obtain ⟨b, hb, rfl⟩ := List.mem_map.1 ha
 have := h.pos b hb
 split <;> omega
theorem ScOk.do_ {s s' : Hp.Sc} {j : Nat} {x : Hp.Act'} (h : ScOk s j) (hs : s.S.words.length ≤ 1000000 ∨ True) (hv : ∀ S S' : Hp.Hs, ∀ M, S.moved = some (M, S') → ∀ p ∈ M, 0 ≤ p.2) (hr : s.do' x = some s') : ScOk s' (j + 1) := by
 unfold Hp.Sc.do' at hr
 split at hr
 · simp only [Option.bind_eq_bind, Option.bind_eq_some_iff, Option.some.injEq] at hr; obtain ⟨⟨r, e, S⟩, hr, rfl⟩ := hr; exact (h.heap S).note fun _ => end_pos hr
 split at hr
 · dsimp only at hr
   by_cases hc : (List.map (Hp.nameOf s.ats) x.list).contains 0 = true
   · rw [if_pos hc] at hr; simp only [Option.some.injEq] at hr; subst hr; exact h.note (by simp)
   · rw [if_neg hc] at hr
     split at hr
     · simp only [Option.bind_eq_bind, Option.bind_eq_some_iff, Option.some.injEq] at hr; obtain ⟨⟨r, e, S⟩, hr, rfl⟩ := hr; exact (h.heap S).note fun _ => make_pos hr
     · simp only [Option.bind_eq_bind, Option.bind_eq_some_iff, Option.some.injEq] at hr; obtain ⟨⟨r, e⟩, hr, rfl⟩ := hr; exact h.note fun _ => find_pos hr
 split at hr
 · split at hr
   · simp only [Option.some.injEq] at hr; subst hr; exact h.note (by simp)
   · split at hr
     · simp only [Option.bind_eq_bind, Option.bind_eq_some_iff, Option.some.injEq] at hr; obtain ⟨⟨e, S⟩, hr, rfl⟩ := hr; exact (h.heap S).note (by simp)
     · simp only [Option.bind_eq_bind, Option.bind_eq_some_iff, Option.some.injEq] at hr; obtain ⟨⟨e, S⟩, hr, rfl⟩ := hr; exact (h.heap S).note (by simp)
 split at hr
 · simp only [Option.bind_eq_bind, Option.bind_eq_some_iff, Option.some.injEq] at hr; obtain ⟨⟨m, S⟩, hr, rfl⟩ := hr; exact ((h.heap S).forget).note (by simp)
 split at hr
 · simp only [Option.bind_eq_bind, Option.bind_eq_some_iff, Option.some.injEq] at hr; obtain ⟨⟨m, S⟩, hr, ⟨M, S2⟩, hm, rfl⟩ := hr; have h3 := (h.heap S).forget; refine ScOk.note ⟨h3.res, by simp [h3.ats], fun a ha => ?_⟩ (by simp); obtain ⟨b, hb, rfl⟩ := List.mem_map.1 ha
   split
   · omega
   · cases e : getI b.toNat M with
     | none => simp
     | some v => simpa using hv _ _ _ hm _ (getI_val e)
 · simp only [Option.some.injEq] at hr; subst hr; exact h.note (by simp)
theorem moved_pos {S S' : Hp.Hs} {M : List (Nat × Int)} (h : S.moved = some (M, S')) : ∀ p ∈ M, 0 ≤ p.2 := by
 obtain ⟨Wf, nf, Sx, hmv, _⟩ := moved_some h
 intro p hp
 rcases (moves_spec hmv).2 p hp with h | ⟨_, h2, _⟩
 · cases h
 · exact h2
theorem ScOk.do' {s s' : Hp.Sc} {j : Nat} {x : Hp.Act'} (h : ScOk s j) (hr : s.do' x = some s') : ScOk s' (j + 1) := h.do_ (.inr trivial) (fun _ _ _ hm => moved_pos hm) hr
def ActIn (w : World) (b o : Nat) (x : Hp.Act') : Prop := ∃ q c f, ActOk x f ∧ w.cell? ⟨b, o, none⟩ = some (.int .u8 x.kind) ∧ w.cell? ⟨b, o + 1, none⟩ = some (.int .i64 x.a) ∧ w.cell? ⟨b, o + 2, none⟩ = some (.slice q x.list.length c) ∧ w.cell? ⟨b, o + 3, none⟩ = some (.int .u8 f) ∧ w.cell? ⟨b, o + 4, none⟩ = some (.int .i64 x.n) ∧ SliceAt w q c x.list
structure ActsAt (w : World) (p : Option Addr) (c : Nat) (l : List Hp.Act') : Prop where
 le : l.length ≤ c
 cap : c ≤ 9223372036854775807
 cells : 0 < l.length → ∃ b o, p = some ⟨b, o, none⟩ ∧ b < w.heap.size ∧ ∀ j x, l[j]? = some x → ActIn w b (o + j * 5) x
theorem ActsAt.ext {w w' : World} {p : Option Addr} {c : Nat} {l : List Hp.Act'} (h : ActsAt w p c l) (k : Ext w w') : ActsAt w' p c l := by
 refine ⟨h.le, h.cap, fun h0 => ?_⟩
 obtain ⟨b, o, rfl, hb, hc⟩ := h.cells h0
 refine ⟨b, o, rfl, Nat.lt_of_lt_of_le hb k.le, fun j x hx => ?_⟩
 obtain ⟨q, c', f, ok, a0, a1, a2, a3, a4, hs⟩ := hc j x hx
 exact ⟨q, c', f, ok, (k.cell hb _).trans a0, (k.cell hb _).trans a1, (k.cell hb _).trans a2, (k.cell hb _).trans a3, (k.cell hb _).trans a4, hs.ext k⟩
def PlayPost (w : World) (res words : List Int) (e : Ending) (w' : World) : Prop :=
 ∃ p c g cap, e = .returned (.tuple #[.slice p res.length c, .slice (some ⟨g, 0, none⟩) words.length cap, .int .i64 0]) ∧ SliceAt w' p c res ∧ SliceAt w' (some ⟨g, 0, none⟩) cap words ∧ Ext w w'
theorem Play_err {w : World} {p q pa : Option Addr} {c d ca n : Nat} {na : Nat} {sizes order : List Int} (hs : SliceAt w p c sizes) (ho : SliceAt w q d order) (hq : 0 < order.length ∨ q = none) (hol : order.length ≤ 1000000) {words : Int} (he : Hp.newErr sizes order words ≠ 0) :
    Calls Tryz.prog 30 #[.slice p sizes.length c, .slice q order.length d, .int .i64 words, .slice pa na ca] w fun e w' => e = .returned (.tuple #[.slice none 0 0, .slice none 0 0, .int .i64 (Hp.newErr sizes order words)]) ∧ Ext w w' := by
  have N := New_err hs ho hq hol he; have t0 : (Hp.newErr sizes order words != 0) = true := by simpa using he
  clear hs ho he; go_enter Tryz.func30, Tryz.ntmps30
  go_wp2_with (go_at_call 36; refine N.mono ?_; rintro e w1 ⟨rfl, hb1⟩)
  go_returns; exact ⟨rfl, hb1⟩
set_option maxRecDepth 100000 in
set_option maxHeartbeats 8000000 in
theorem Play_any {w : World} {p q pa : Option Addr} {c d ca n : Nat} {sizes order : List Int} {acts : List Hp.Act'} (hs : SliceAt w p c sizes) (ho : SliceAt w q d order) (hp : 0 < sizes.length ∨ p = none) (hq : 0 < order.length ∨ q = none) (hol : order.length ≤ 1000000) (hsl : sizes.length ≤ 6) (hn : 32 ≤ n) (hn2 : n ≤ 40000) (he : Hp.newErr sizes order n = 0)
    {S : Hp.Hs} (hS : Hp.new sizes order n = some S) (hpos : ∀ s ∈ sizes, 1 ≤ s ∧ s ≤ 12) (ha : ActsAt w pa ca acts) (hal : acts.length ≤ 300) {s' : Hp.Sc} (hr : Hp.Sc.play ⟨S, [], []⟩ acts = some s') :
    Calls Tryz.prog 30 #[.slice p sizes.length c, .slice q order.length d, .int .i64 n, .slice pa acts.length ca] w (PlayPost w s'.res s'.S.words) := by
  have NW := Lib.hid (New_any hs ho hp hq hol hsl hn hn2 he hS hpos); have HA := Lib.hid ha; have HR := Lib.hid hr; have le := ha.le; have cap := ha.cap; clear hs ho he hS ha hr hpos; have tk0 : decide ((300 : Int) < (acts.length : Int)) = false := decide_eq_false (by omega); go_enter Tryz.func30, Tryz.ntmps30; go_upto_region 7 with (go_at_call 36; refine NW.out.mono ?_; rintro e w1 ⟨dd, rfl, hA1, o1, E1, s1, s2⟩)
  have e8 : (w1.alloc (.cells #[.pointer (some ⟨dd.hb, 0, none⟩), .slice none 0 0, .slice none 0 0] 129)).cell? ⟨w1.heap.size, 0, none⟩ = some (.pointer (some ⟨dd.hb, 0, none⟩)) := by simp [go_sem]
  have N1 : ScAt w (w1.alloc (.cells #[.pointer (some ⟨dd.hb, 0, none⟩), .slice none 0 0, .slice none 0 0] 129)) w1.heap.size dd ⟨S, [], []⟩ none 0 none 0 :=
   { toHAt := hA1.ext (Ext.alloc (Ext.refl _) _)
     ext0 := E1.alloc _
     h0 := e8
     h1 := by simp [go_sem]
     h2 := by simp [go_sem]
     fz := fun k => by simp [go_sem]
     r1 := Row.nil _ _
     r2 := Row.nil _ _
     sb0 := E1.le
     own0 := o1
     sbn := fun hm => by have := hA1.own_lt _ hm; omega
     n1 := fun b o e => by cases e
     n2 := fun b o e => by cases e
     n12 := fun b o b' o' e => by cases e
     spn := fun b o e => ⟨fun e' => by have := hA1.old1 b o e; omega, by simp, by simp⟩
     opn := fun b o e => ⟨fun e' => by have := hA1.old2 b o e; omega, by simp, by simp⟩ }
  refine ScAt.cut N1 ?_; intro w2 N2'; have N2 := Lib.hid N2'; have OK0 := Lib.hid (show ScOk ⟨S, [], []⟩ 0 from ⟨rfl, rfl, by simp⟩); have HR0 := Lib.hid (show Hp.Sc.play ⟨S, [], []⟩ (acts.drop 0) = some s' from HR.out); clear N1 N2' e8 hA1 o1 E1 s1 s2; obtain ⟨sb, hsb⟩ : ∃ sb, w1.heap.size = sb := ⟨_, rfl⟩
  obtain ⟨m, hm⟩ : ∃ m, acts.length = m := ⟨_, rfl⟩
  have HM := Lib.hid hm; have hdb : ∃ hb, dd.hb = hb := ⟨_, rfl⟩
  rw [hsb] at N2 ⊢; rw [hm] at le hal ⊢; have tk3 : decide ((300 : Int) < (m : Int)) = false := decide_eq_false (by omega); clear hsb hm
  go_wp2_with fail
  go_loopg [35] m (fun g' i wr => ∃ (j : Nat) (s : Hp.Sc) (gw cp : Nat) (p1 : Option Addr) (k1 : Nat) (p2 : Option Addr) (k2 : Nat), j ≤ m ∧ m - j ≤ g' ∧ i = .int .i64 j ∧ Hid (ScAt w wr sb { dd with gw := gw, cap := cp } s p1 k1 p2 k2) ∧ Hid (Hp.Sc.play s (acts.drop j) = some s') ∧ Hid (ScOk s j))
  case atStart => exact ⟨0, _, dd.gw, dd.cap, none, 0, none, 0, Nat.zero_le _, by omega, rfl, N2, HR0, OK0⟩
  case round =>
   obtain ⟨j, s, gw, cp, p1, k1, p2, k2, hj, hg, rfl, N, HP, OK⟩ := hrel; clear N2 HR0 OK0
   by_cases hlt : j < m
   · obtain ⟨x, hx⟩ : ∃ x, acts[j]? = some x := ⟨acts[j]'(by rw [HM.out]; exact hlt), List.getElem?_eq_getElem _⟩
     obtain ⟨b, o, rfl, hb, hc⟩ := (HA.out.ext N.out.ext0).cells (by rw [HM.out]; omega); obtain ⟨q', c', f, ok, a0, a1, a2, a3, a4, hs⟩ := hc j x hx; have tk : decide ((j : Int) < (m : Int)) = true := by simpa using (by omega : (j : Int) < (m : Int))
     have HX := Lib.hid hx; have HOK := Lib.hid ok; have HS := Lib.hid hs; clear hc hx ok hs; have hp2 := HP.out; rw [List.drop_eq_getElem_cons (by rw [HM.out]; exact hlt)] at hp2; have hxe : acts[j]'(by rw [HM.out]; exact hlt) = x := by
      have := HX.out; rw [List.getElem?_eq_getElem (by rw [HM.out]; exact hlt)] at this; exact Option.some.inj this
     rw [hxe] at hp2; simp only [Hp.Sc.play, Option.bind_eq_bind, Option.bind_eq_some_iff] at hp2; obtain ⟨s1, hdo, hrest⟩ := hp2; have HD := Lib.hid hdo; have HREST := Lib.hid hrest; have OK1 := Lib.hid (OK.out.do' hdo); have l1 : s.res.length < 1000000 := by rw [OK.out.res]; omega
     have l2 : s.ats.length < 1000000 := by rw [OK.out.ats]; omega
     clear hdo hrest hxe HP; have EA : Ext wr (wr.alloc (.cells #[.int .u8 x.kind, .int .i64 x.a, .slice q' x.list.length c', .int .u8 f, .int .i64 x.n] 85)) := Ext.alloc (Ext.refl _) _; have CD := do_any (N.out.ext EA) l1 l2 OK.out.pos HOK.out (HS.out.ext EA) HD.out; unfold actV at CD
     go_wp2_with (go_at_call 93; refine CD.mono ?_; rintro e w3 ⟨rfl, g3, cp3, q1, c1, q2, c2, hN3⟩; have N3 := Lib.hid hN3; clear hN3)
     go_roundg (m - (j + 1))
     case measure => omega
     case rel => exact ⟨j + 1, s1, g3, cp3, q1, c1, q2, c2, by omega, Nat.le_refl _, by go_num, N3, HREST, OK1⟩
   · have : j = m := by omega
     subst this; have hp2 := HP.out; rw [List.drop_of_length_le (by rw [HM.out]; exact Nat.le_refl _)] at hp2; obtain rfl : s = s' := by simpa [Hp.Sc.play] using hp2
     have h1 := N.out.h1; have c2 := N.out.c2; dsimp only at c2; go_upto_region 12 with (fail)
     go_quiet (fail)
     go_wp2_with fail
     go_returns; exact ⟨p1, k1, gw, cp, rfl, N.out.r1.at_.ext exx, (words_at N.out.toHAt).ext exx, N.out.ext0.trans exx⟩
structure Rd where
 rb : Nat
 sp : Option Addr
 sc : Nat
 op : Option Addr
 oc : Nat
 gb : Nat
 go : Nat
 wc : Nat
structure RAt (w : World) (r : Rd) (S : Hp.Hs) : Prop where
 c0 : w.cell? ⟨r.rb, 0, none⟩ = some (.slice r.sp S.sizes.length r.sc)
 c1 : w.cell? ⟨r.rb, 1, none⟩ = some (.slice r.op S.order.length r.oc)
 c2 : w.cell? ⟨r.rb, 2, none⟩ = some (.slice (some ⟨r.gb, r.go, none⟩) S.words.length r.wc)
 sizes : SliceAt w r.sp r.sc S.sizes
 order : SliceAt w r.op r.oc S.order
 words : SliceAt w (some ⟨r.gb, r.go, none⟩) r.wc S.words
namespace RAt
variable {w w' : World} {r : Rd} {S : Hp.Hs}
theorem ext (h : RAt w r S) (k : Ext w w') : RAt w' r S :=
 ⟨(k.cell (cell_lt h.c0) 0).trans h.c0, (k.cell (cell_lt h.c0) 1).trans h.c1, (k.cell (cell_lt h.c0) 2).trans h.c2, h.sizes.ext k, h.order.ext k, h.words.ext k⟩
theorem get (h : RAt w r S) {j : Nat} (hj : j < S.words.length) : w.cell? ⟨r.gb, r.go + j, none⟩ = some (.int .i64 (Hp.ow S.words j)) := by
 obtain ⟨b, o, e, _, hc⟩ := h.words.cells (by omega)
 cases e
 exact hc j _ (Hp.rd_ow hj)
theorem lt (h : RAt w r S) : r.rb < w.heap.size := cell_lt h.c0
end RAt
set_option maxHeartbeats 2000000 in
theorem rFields {w : World} {r : Rd} {S : Hp.Hs} (h : RAt w r S) (hz : Hp.Fr S.sizes) {t : Int} (ht : Hp.okTag S.sizes t = true) :
    Calls Tryz.prog 68 #[.pointer (some ⟨r.rb, 0, none⟩), .int .i64 t] w fun e w' => e = .returned (.int .i64 ((Hp.wz S.sizes t - 4 : Nat) : Int)) ∧ Ext w w' := by
  have h0 := h.c0; have few := hz.few; have hle := h.sizes.le; have hcap := h.sizes.cap; have hwz := Hp.wz_ok hz ht
  cases he : Hp.isEnd t with
  | true =>
   have e : Hp.wz S.sizes t = 5 := by simp [Hp.wz, he]
   rw [e]; simp only [Hp.isEnd, Hp.within, Bool.and_eq_true, decide_eq_true_eq] at he; obtain ⟨e1, e2⟩ := he; clear h hz ht hwz e; generalize S.sizes.length = n at *; have t1 : decide (t ≤ (n : Int)) = false := decide_eq_false (by omega); have t2 : decide (t ≥ 1) = true := decide_eq_true (by omega); have t3 : decide (t ≥ 20) = true := decide_eq_true (by omega); have t4 : decide (t ≤ 24) = true := decide_eq_true (by omega); go_enter Tryz.func68, Tryz.ntmps68
   go_wp2_with fail
   go_returns; exact ⟨rfl, exx⟩
  | false =>
   have hn := Hp.isNode_of ht he; simp only [Hp.isNode, Hp.within, Bool.and_eq_true, decide_eq_true_eq] at hn; obtain ⟨e1, e2⟩ := hn; obtain ⟨i, rfl⟩ : ∃ i : Nat, t = (i : Int) + 1 := ⟨(t - 1).toNat, by omega⟩
   have hi : i < S.sizes.length := by omega
   obtain ⟨x, hx⟩ := rd_get (l := S.sizes) (j := i) hi; have hxp := hz.pos x (List.mem_of_getElem? hx); have e : ((Hp.wz S.sizes ((i : Int) + 1) - 4 : Nat) : Int) = x := by
    unfold Hp.wz; rw [he]; have : S.sizes.getD ((i : Int) + 1 - 1).toNat 0 = x := by
     rw [show ((i : Int) + 1 - 1).toNat = i by omega, List.getD_eq_getElem?_getD]; unfold Hp.rd at hx; rw [hx]; rfl
    rw [this]; simp only [Bool.false_eq_true, if_false]; omega
   rw [e]; obtain ⟨b, o, hp, hb, hc⟩ := h.sizes.cells (by omega); have gx := hc i x hx; rw [hp] at h0; clear h hz ht hwz e hc hx he hp; generalize S.sizes.length = n at *; have t1 : decide ((i : Int) + 1 ≤ (n : Int)) = true := decide_eq_true (by omega); have t2 : decide ((i : Int) + 1 ≥ 1) = true := decide_eq_true (by omega); go_enter Tryz.func68, Tryz.ntmps68
   go_wp2_with fail
   go_returns; exact ⟨rfl, exx⟩
theorem rIsNode {w : World} {r : Rd} {S : Hp.Hs} (h : RAt w r S) {a : Nat} (ha : a < S.words.length) :
    Calls Tryz.prog 87 #[.pointer (some ⟨r.rb, 0, none⟩), .int .i64 a] w fun e w' => e = .returned (.bool (decide (Hp.ow S.words a < 20))) ∧ Ext w w' := by
  have c2 := h.c2; have gx := h.get ha; have hle := h.words.le; have hcap := h.words.cap; clear h; generalize S.words.length = n at *; generalize Hp.ow S.words a = x at *; go_enter Tryz.func87, Tryz.ntmps87
  go_wp2_with fail
  go_returns; exact ⟨rfl, exx⟩
set_option maxHeartbeats 2000000 in
theorem rLong_cell {w : World} {r : Rd} {S : Hp.Hs} (h : RAt w r S) (hz : Hp.Fr S.sizes) {a : Nat} (ha : a < S.words.length) (ht : Hp.okTag S.sizes (Hp.ow S.words a) = true) :
    Calls Tryz.prog 67 #[.pointer (some ⟨r.rb, 0, none⟩), .int .i64 a] w fun e w' => e = .returned (.int .i64 ((Hp.wz S.sizes (Hp.ow S.words a) : Nat) : Int)) ∧ Ext w w' := by
  have c2 := h.c2; have gx := h.get ha; have hle := h.words.le; have hcap := h.words.cap; have hwz := Hp.wz_ok hz ht; have hto := Hp.okTag_le hz ht; have HC := Lib.hid (fun W (hW : Ext w W) => rFields (h.ext hW) hz ht); clear h hz ht; generalize S.words.length = n at *; generalize Hp.ow S.words a = x at *; obtain ⟨k, hk⟩ : ∃ k, Hp.wz S.sizes x = k + 4 := ⟨Hp.wz S.sizes x - 4, by omega⟩
  have e4 : ((Hp.wz S.sizes x - 4 : Nat) : Int) = k := by omega
  have HC2 := Lib.hid (fun W (hW : Ext w W) => e4 ▸ HC.out W hW); rw [hk]; have hk16 : k ≤ 12 := by omega
  have t0 : (x == 0) = false := by simp; omega
  clear hwz hk e4 HC hto; go_enter Tryz.func67, Tryz.ntmps67
  go_wp2_with (go_at_call 68; refine (HC2.out _ (exx)).mono ?_; rintro e w1 ⟨rfl, hb1⟩; obtain ⟨hc1, hf1, hs1⟩ := hb1.cells)
  go_returns; exact ⟨by rw [show ((k + 4 : Nat) : Int) = 4 + (k : Int) by push_cast; omega]; rfl, exx⟩
theorem rLong_free {w : World} {r : Rd} {S : Hp.Hs} (h : RAt w r S) {a : Nat} (ha : a + 1 < S.words.length) {k : Nat} (h0 : Hp.ow S.words a = 0) (h1 : Hp.ow S.words (a + 1) = k) :
    Calls Tryz.prog 67 #[.pointer (some ⟨r.rb, 0, none⟩), .int .i64 a] w fun e w' => e = .returned (.int .i64 (k : Int)) ∧ Ext w w' := by
  have c2 := h.c2; have gx := h.get (j := a) (by omega); have gy := h.get ha; rw [h0] at gx; rw [h1] at gy; have hle := h.words.le; have hcap := h.words.cap; clear h h0 h1; generalize S.words.length = n at *; go_enter Tryz.func67, Tryz.ntmps67
  go_wp2_with fail
  go_returns; exact ⟨rfl, exx⟩
open Go.RowKit Go.Maps
def pick (b : Bool) (L : List Hp.Tl) : List Int := (L.filter fun t => t.fr == b).map fun t => (t.a : Int)
theorem pick_snoc (b : Bool) (P : List Hp.Tl) (t : Hp.Tl) : pick b (P ++ [t]) = pick b P ++ (if t.fr == b then [(t.a : Int)] else []) := by
 unfold pick
 rw [List.filter_append, List.map_append]
 congr 1
 cases h : t.fr == b <;> simp [h]
theorem pick_len (b : Bool) (L : List Hp.Tl) : (pick b L).length ≤ L.length := by
 unfold pick
 rw [List.length_map]
 exact List.length_filter_le _ _
theorem pick_cells (L : List Hp.Tl) : pick false L = (Hp.adsOf L).map fun a : Nat => (a : Int) := by
 unfold pick Hp.adsOf
 rw [List.map_map]
 congr 1
 apply List.filter_congr
 intro t _
 cases t.fr <;> rfl
def ListPost (w : World) (l : List Int) (e : Ending) (w' : World) : Prop := ∃ p c, e = .returned (.slice p l.length c) ∧ Row w' w.heap.size p c l ∧ Ext w w'
set_option maxRecDepth 100000 in
set_option maxHeartbeats 4000000 in
theorem rWhich {w : World} {r : Rd} {S : Hp.Hs} (h : RAt w r S) (hz : Hp.Fr S.sizes) (hi : S.words.length ≤ 100000) {L : List Hp.Tl} (hL : Hp.Parts (Hp.ow S.words) S.sizes L S.words.length) (b : Bool) :
    Calls Tryz.prog 139 #[.pointer (some ⟨r.rb, 0, none⟩), .bool b] w (ListPost w (pick b L)) := by
  obtain ⟨n, hn⟩ : ∃ n, S.words.length = n := ⟨_, rfl⟩
  have EN := Lib.hid hn; have H := Lib.hid h; have HL := Lib.hid hL; have hLn := Hp.lay_len_ hL.lay; rw [hn] at hi hLn; clear h hL hn; go_enter Tryz.func139, Tryz.ntmps139
  go_wp2_with fail
  go_loopg [5, 6] L.length (fun g o i wr => ∃ (P Q : List Hp.Tl) (s : Nat) (p : Option Addr) (c : Nat), Q.length ≤ g ∧ i = .int .i64 s ∧ s ≤ n ∧ o = .slice p (pick b P).length c ∧ Hid (L = P ++ Q) ∧ Hid (Hp.Lay s Q n) ∧ Hid (Row wr w.heap.size p c (pick b P)) ∧ Hid (Ext w wr))
  case atStart => exact ⟨[], L, 17, none, 0, Nat.le_refl _, rfl, by omega, rfl, Lib.hid rfl, Lib.hid (by rw [← EN.out]; exact HL.out.lay), Lib.hid (Row.nil _ _), Lib.hid (Ext.refl w)⟩
  case round =>
   obtain ⟨P, Q, s, p, c, hg, rfl, hs, rfl, EL, LQ, R, E⟩ := hrel; have N := Lib.hid (H.out.ext E.out); have c2 := N.out.c2; have hle := N.out.words.le; have hcap := N.out.words.cap; rw [EN.out] at c2 hle
   cases Q with
   | nil =>
    have : s = n := LQ.out; subst this; have tk : decide ((s : Int) < (s : Int)) = false := decide_eq_false (by omega); have hP : P = L := by rw [EL.out, List.append_nil]
    subst hP
    go_wp2_with fail
    go_returns; exact ⟨p, c, rfl, R.out, E.out⟩
   | cons t Q =>
    have htL : t ∈ L := by rw [EL.out]; simp
    have hok := HL.out.ok t htL; obtain ⟨q1, q2, q3⟩ := LQ.out; have q4 := q3.le; subst q1; have hta : t.a + t.k ≤ S.words.length := (HL.out.lay.mem htL).2.1; have gx := N.out.get (j := t.a) (by omega); have tk : decide ((t.a : Int) < (n : Int)) = true := decide_eq_true (by omega); have EL2 : Hid (L = (P ++ [t]) ++ Q) := Lib.hid (by rw [EL.out]; simp); have LQ2 := Lib.hid q3; have HTA := Lib.hid hta; have plen := pick_len b P; have hPL : P.length ≤ L.length := by rw [EL.out]; simp
    have hnext : IntKind.i64.wrap ((t.a : Int) + (t.k : Int)) = ((t.a + t.k : Nat) : Int) := by rw [Int.natCast_add]; exact IntWalk.i64_in _ (by omega)
    have HNX := Lib.hid hnext; simp only [List.length_cons] at hg
    cases hf : t.fr with
    | true =>
     have hfr := hok.free hf; have LONG := Lib.hid (fun W (hW : Ext w W) => rLong_free (H.out.ext hW) (a := t.a) (by omega) hfr.1 hfr.2.1); rw [hfr.1] at gx
     cases b with
     | true =>
      have EP : pick true (P ++ [t]) = pick true P ++ [(t.a : Int)] := by rw [pick_snoc, hf]; rfl
      have RA := Lib.hid (R.out.ext (Ext.alloc (Ext.refl _) (.cells #[.int .i64 t.a] 3))); clear hfr hok hta q3 LQ EL hnext hf htL
      go_wp2_with (first
       | (go_at_call 67; refine (LONG.out _ E8).mono ?_; rintro e w1 ⟨rfl, hb1⟩; obtain ⟨hc1, hf1, hs1⟩ := hb1.cells)
       | (at_builtin; refine wpList_append_int rfl _ _ rfl (y := (t.a : Int)) rfl rfl RA.out (by go_simp) (by omega) (by omega) (by omega) (by have := E.out.le; simp; omega) ?_; intro g8 c8 x8 hR8 hG8; obtain ⟨row, hgr, hrow⟩ := id hG8; have E8 : Ext w x8 := ext_grow (E.out.alloc _) hgr hrow; have N8 := Lib.hid (H.out.ext E8); have c28 := N8.out.c2; have R8H := Lib.hid hR8))
      go_roundg Q.length
      case measure => omega
      case rel => exact ⟨P ++ [t], Q, t.a + t.k, some ⟨g8, 0, none⟩, c8, Nat.le_refl _, by go_num, by omega, by rw [EP]; simp, EL2, LQ2, Lib.hid (by rw [EP]; exact R8H.out.ext hb1), Lib.hid (E8.trans hb1)⟩
     | false =>
      have EP : pick false (P ++ [t]) = pick false P := by rw [pick_snoc, hf]; simp
      clear hfr hok hta q3 LQ EL hnext hf htL
      go_wp2_with (go_at_call 67; refine (LONG.out _ E.out).mono ?_; rintro e w1 ⟨rfl, hb1⟩; obtain ⟨hc1, hf1, hs1⟩ := hb1.cells)
      go_roundg Q.length
      case measure => omega
      case rel => exact ⟨P ++ [t], Q, t.a + t.k, p, c, Nat.le_refl _, by go_num, by omega, by rw [EP], EL2, LQ2, Lib.hid (by rw [EP]; exact R.out.ext hb1), Lib.hid (E.out.trans hb1)⟩
    | false =>
     have hcl := hok.cell hf; have hto := Hp.okTag_le hz hcl.1; have LONG := Lib.hid (fun W (hW : Ext w W) => hcl.2 ▸ rLong_cell (H.out.ext hW) hz (a := t.a) (by omega) hcl.1); have t0 : (Hp.ow S.words t.a == 0) = false := by simp; omega
     cases b with
     | false =>
      have EP : pick false (P ++ [t]) = pick false P ++ [(t.a : Int)] := by rw [pick_snoc, hf]; rfl
      have RA := Lib.hid (R.out.ext (Ext.alloc (Ext.refl _) (.cells #[.int .i64 t.a] 3))); clear hcl hto hok hta q3 LQ EL hnext hf htL; generalize Hp.ow S.words t.a = x at *
      go_wp2_with (first
       | (go_at_call 67; refine (LONG.out _ E8).mono ?_; rintro e w1 ⟨rfl, hb1⟩; obtain ⟨hc1, hf1, hs1⟩ := hb1.cells)
       | (at_builtin; refine wpList_append_int rfl _ _ rfl (y := (t.a : Int)) rfl rfl RA.out (by go_simp) (by omega) (by omega) (by omega) (by have := E.out.le; simp; omega) ?_; intro g8 c8 x8 hR8 hG8; obtain ⟨row, hgr, hrow⟩ := id hG8; have E8 : Ext w x8 := ext_grow (E.out.alloc _) hgr hrow; have N8 := Lib.hid (H.out.ext E8); have c28 := N8.out.c2; have R8H := Lib.hid hR8))
      go_roundg Q.length
      case measure => omega
      case rel => exact ⟨P ++ [t], Q, t.a + t.k, some ⟨g8, 0, none⟩, c8, Nat.le_refl _, by go_num, by omega, by rw [EP]; simp, EL2, LQ2, Lib.hid (by rw [EP]; exact R8H.out.ext hb1), Lib.hid (E8.trans hb1)⟩
     | true =>
      have EP : pick true (P ++ [t]) = pick true P := by rw [pick_snoc, hf]; simp
      clear hcl hto hok hta q3 LQ EL hnext hf htL; generalize Hp.ow S.words t.a = x at *
      go_wp2_with (go_at_call 67; refine (LONG.out _ E.out).mono ?_; rintro e w1 ⟨rfl, hb1⟩; obtain ⟨hc1, hf1, hs1⟩ := hb1.cells)
      go_roundg Q.length
      case measure => omega
      case rel => exact ⟨P ++ [t], Q, t.a + t.k, p, c, Nat.le_refl _, by go_num, by omega, by rw [EP], EL2, LQ2, Lib.hid (by rw [EP]; exact R.out.ext hb1), Lib.hid (E.out.trans hb1)⟩
theorem rCells {w : World} {r : Rd} {S : Hp.Hs} (h : RAt w r S) (hz : Hp.Fr S.sizes) (hi : S.words.length ≤ 100000) {L : List Hp.Tl} (hL : Hp.Parts (Hp.ow S.words) S.sizes L S.words.length) :
    Calls Tryz.prog 82 #[.pointer (some ⟨r.rb, 0, none⟩)] w (ListPost w (pick false L)) := by
  have HC := Lib.hid (rWhich h hz hi hL false); clear h hz hL; go_enter Tryz.func82, Tryz.ntmps82
  go_wp2_with (go_at_call 139; refine HC.out.mono ?_; rintro e w1 ⟨p, c, rfl, hR, hE⟩)
  go_returns; exact ⟨p, c, rfl, hR, hE⟩
theorem rFree {w : World} {r : Rd} {S : Hp.Hs} (h : RAt w r S) (hz : Hp.Fr S.sizes) (hi : S.words.length ≤ 100000) {L : List Hp.Tl} (hL : Hp.Parts (Hp.ow S.words) S.sizes L S.words.length) :
    Calls Tryz.prog 84 #[.pointer (some ⟨r.rb, 0, none⟩)] w (ListPost w (pick true L)) := by
  have HC := Lib.hid (rWhich h hz hi hL true); clear h hz hL; go_enter Tryz.func84, Tryz.ntmps84
  go_wp2_with (go_at_call 139; refine HC.out.mono ?_; rintro e w1 ⟨p, c, rfl, hR, hE⟩)
  go_returns; exact ⟨p, c, rfl, hR, hE⟩
theorem dIn (n a b : Int) (w : World) : Calls Tryz.prog 66 #[.int .i64 n, .int .i64 a, .int .i64 b] w fun e w' => e = .returned (.bool (Hp.within a b n)) ∧ Ext w w' := by
 by_cases h1 : a ≤ n
 · have t1 : decide (n ≥ a) = true := decide_eq_true h1
   by_cases h2 : n ≤ b
   · have t2 : decide (n ≤ b) = true := decide_eq_true h2; have e : Hp.within a b n = true := by simp [Hp.within, h1, h2]
     rw [e]; clear e; go_enter Tryz.func66, Tryz.ntmps66
     go_wp2_with fail
     go_returns; exact ⟨rfl, exx⟩
   · have t2 : decide (n ≤ b) = false := decide_eq_false h2; have e : Hp.within a b n = false := by simp [Hp.within, h2]
     rw [e]; clear e; go_enter Tryz.func66, Tryz.ntmps66
     go_wp2_with fail
     go_returns; exact ⟨rfl, exx⟩
 · have t1 : decide (n ≥ a) = false := decide_eq_false h1; have e : Hp.within a b n = false := by simp [Hp.within, h1]
   rw [e]; clear e; go_enter Tryz.func66, Tryz.ntmps66
   go_wp2_with fail
   go_returns; exact ⟨rfl, exx⟩
set_option maxHeartbeats 2000000 in
theorem rHas {w : World} {p : Option Addr} {c : Nat} {l : List Int} {x : Int} (h : SliceAt w p c l) :
    Calls Tryz.prog 85 #[.slice p l.length c, .int .i64 x] w fun e w' => e = .returned (.bool (l.contains x)) ∧ Ext w w' := by
  have hle := h.le; have hcap := h.cap; have H := Lib.hid h; clear h; generalize hL : l.length = n at hle ⊢; have HL := Lib.hid hL; clear hL; obtain ⟨b, hb⟩ : ∃ b, l.contains x = b := ⟨_, rfl⟩
  have HB := Lib.hid hb; rw [hb]; clear hb; go_enter Tryz.func85, Tryz.ntmps85
  go_wp2_with fail
  go_loopg [5] n (fun g i wr => ∃ j : Nat, j ≤ n ∧ n - j ≤ g ∧ i = .int .i64 j ∧ Hid (Ext w wr) ∧ Hid (∀ i, i < j → Hp.rd l i ≠ some x))
  case atStart => exact ⟨0, Nat.zero_le _, by omega, rfl, Lib.hid (Ext.refl w), Lib.hid (fun i hi => absurd hi (Nat.not_lt_zero _))⟩
  case round =>
   obtain ⟨j, hj, hg, rfl, E, A⟩ := hrel
   by_cases hlt : j < n
   · obtain ⟨y, hy⟩ := rd_get (l := l) (j := j) (by rw [HL.out]; exact hlt); obtain ⟨bb, o, rfl, hbb, hc⟩ := (H.out.ext E.out).cells (by rw [HL.out]; omega); have g1 := hc j y hy; have HY := Lib.hid hy; have tk : decide ((j : Int) < (n : Int)) = true := decide_eq_true (by omega); clear hc hy
     by_cases hyx : y = x
     · have t0 : (y == x) = true := by simpa using hyx
       have hbt : b = true := by
        rw [← HB.out]; have := List.mem_of_getElem? HY.out; rw [hyx] at this
        simpa using this
       subst hbt
       go_wp2_with fail
       go_returns; exact ⟨rfl, E.out⟩
     · have t0 : (y == x) = false := by simpa using hyx
       have A2 : Hid (∀ i, i < j + 1 → Hp.rd l i ≠ some x) := Lib.hid (fun i hi => by
        by_cases e : i = j
        · subst e; rw [HY.out]
          simpa using hyx
        · exact A.out i (by omega))
       go_wp2_with fail
       go_roundg (n - (j + 1))
       case measure => omega
       case rel => exact ⟨j + 1, by omega, Nat.le_refl _, by go_num, E, A2⟩
   · have : j = n := by omega
     subst this; have tk : decide ((j : Int) < (j : Int)) = false := decide_eq_false (by omega); have hbf : b = false := by
      rw [← HB.out]
      cases hc : l.contains x with
      | false => rfl
      | true =>
       have hm : x ∈ l := by simpa using hc
       obtain ⟨i, hi, e⟩ := List.getElem_of_mem hm; exact absurd (by unfold Hp.rd; rw [List.getElem?_eq_getElem hi, e]) (A.out i (by rw [← HL.out]; exact hi))
     subst hbf
     go_wp2_with fail
     go_returns; exact ⟨rfl, E.out⟩
set_option maxHeartbeats 2000000 in
theorem rPlace {w : World} {r : Rd} {S : Hp.Hs} (h : RAt w r S) {c : Int} {k : Nat} (hk : Hp.rd S.order k = some c) (hf : ∀ j, j < k → Hp.rd S.order j ≠ some c) :
    Calls Tryz.prog 173 #[.pointer (some ⟨r.rb, 0, none⟩), .int .i64 c] w fun e w' => e = .returned (.int .i64 (k : Int)) ∧ Ext w w' := by
  have hkl := rd_lt hk; have hle := h.order.le; have hcap := h.order.cap; have H := Lib.hid h; have HK := Lib.hid hk; have HF := Lib.hid hf; clear h hk hf; generalize hL : S.order.length = n at hle hkl; have HL := Lib.hid hL; clear hL; go_enter Tryz.func173, Tryz.ntmps173
  go_wp2_with fail
  go_loopg [5] n (fun g i wr => ∃ j : Nat, j ≤ k ∧ n - j ≤ g ∧ i = .int .i64 j ∧ Hid (Ext w wr))
  case atStart => exact ⟨0, Nat.zero_le _, by omega, rfl, Lib.hid (Ext.refl w)⟩
  case round =>
   obtain ⟨j, hj, hg, rfl, E⟩ := hrel; have N := Lib.hid (H.out.ext E.out); have c1 := N.out.c1; rw [HL.out] at c1; obtain ⟨y, hy⟩ := rd_get (l := S.order) (j := j) (by rw [HL.out]; omega); obtain ⟨bb, o, hp, hbb, hc⟩ := N.out.order.cells (by rw [HL.out]; omega); have g1 := hc j y hy; rw [hp] at c1; have tk : decide ((j : Int) < (n : Int)) = true := decide_eq_true (by omega); have HY := Lib.hid hy; clear hc hy hp
   by_cases hjk : j = k
   · subst hjk; have hyc : y = c := by
      have := HY.out; rw [HK.out] at this; exact (Option.some.inj this).symm
     have t0 : (y == c) = true := by simpa using hyc
     go_wp2_with fail
     go_returns; exact ⟨rfl, E.out⟩
   · have hyc : y ≠ c := by
       intro e; exact HF.out j (by omega) (by rw [HY.out, e])
     have t0 : (y == c) = false := by simpa using hyc
     clear hyc
     go_wp2_with fail
     go_roundg (n - (j + 1))
     case measure => omega
     case rel => exact ⟨j + 1, by omega, Nat.le_refl _, by go_num, E⟩
theorem index_spec {o : List Int} {c : Int} (h : c ∈ o) : ∃ k : Nat, Hp.index o c = k ∧ Hp.rd o k = some c ∧ ∀ j, j < k → Hp.rd o j ≠ some c := by
 unfold Hp.index
 cases hf : o.findIdx? (· == c) with
 | none =>
  rw [List.findIdx?_eq_none_iff] at hf; have := hf c h; simp at this
 | some i =>
  rw [List.findIdx?_eq_some_iff_getElem] at hf; obtain ⟨hl, h1, h2⟩ := hf; refine ⟨i, rfl, ?_, fun j hj e => ?_⟩
  · unfold Hp.rd; rw [List.getElem?_eq_getElem hl]
    simpa using h1
  · have := h2 j hj; unfold Hp.rd at e; rw [List.getElem?_eq_getElem (by omega)] at e; have e := Option.some.inj e; simp [e] at this
theorem order_mem {S : Hp.Hs} (hz : Hp.FrOk S.sizes S.order) {t : Int} (h : Hp.isNode S.sizes t = true) : t - 1 ∈ S.order := by
 simp only [Hp.isNode, Hp.within, Bool.and_eq_true, decide_eq_true_eq] at h
 have := hz.perm (t - 1).toNat (by omega)
 rwa [show (((t - 1).toNat : Nat) : Int) = t - 1 by omega] at this
theorem rank_node {z o : List Int} {t : Int} (he : Hp.isEnd t = false) : Hp.rank o t = Hp.index o (t - 1) := by simp [Hp.rank, he]
set_option maxHeartbeats 2000000 in
theorem rRank {w : World} {r : Rd} {S : Hp.Hs} {B : Nat} {L : List Hp.Tl} {ch : Nat → List Nat} (h : RAt w r S) (hw : Hp.Wf S B L ch) {a : Nat} (ha : a ∈ S.taken) :
    Calls Tryz.prog 172 #[.pointer (some ⟨r.rb, 0, none⟩), .int .i64 a] w fun e w' => e = .returned (.int .i64 (Hp.rank S.order (Hp.ow S.words a))) ∧ Ext w w' := by
  have pa := hw.part ha; have ht := hw.cells.tags a ha; have hto := hw.tag_le ha; have few := hw.fr.few; have NODE := Lib.hid (fun W (hW : Ext w W) => rIsNode (h.ext hW) (a := a) (by omega))
  cases he : Hp.isEnd (Hp.ow S.words a) with
  | true =>
   have e : Hp.rank S.order (Hp.ow S.words a) = S.order.length := by simp [Hp.rank, he]
   rw [e]; simp only [Hp.isEnd, Hp.within, Bool.and_eq_true, decide_eq_true_eq] at he; have NODE2 := Lib.hid (fun W (hW : Ext w W) => (decide_eq_false (by omega : ¬ Hp.ow S.words a < 20)) ▸ NODE.out W hW); have H := Lib.hid h; have hcap := h.order.cap; have hle := h.order.le; clear h hw ha ht he e NODE pa; go_enter Tryz.func172, Tryz.ntmps172
   go_wp2_with (go_at_call 87; refine (NODE2.out _ (exx)).mono ?_; rintro e w1 ⟨rfl, hb1⟩; obtain ⟨hc1, hf1, hs1⟩ := hb1.cells; have c1 := (H.out.ext hb1).c1)
   go_returns; exact ⟨rfl, exx⟩
  | false =>
   have hn := Hp.isNode_of ht he; have hm := order_mem hw.fr hn; obtain ⟨k, e1, e2, e3⟩ := index_spec hm; rw [rank_node (z := S.sizes) he, e1]; have PL := Lib.hid (fun W (hW : Ext w W) => rPlace (h.ext hW) e2 e3); simp only [Hp.isNode, Hp.within, Bool.and_eq_true, decide_eq_true_eq] at hn; have NODE2 := Lib.hid (fun W (hW : Ext w W) => (decide_eq_true (by omega : Hp.ow S.words a < 20)) ▸ NODE.out W hW); have H := Lib.hid h; have gx := h.get (j := a) (by omega); have hlt := h.lt; have c2 := h.c2; have hle := h.words.le; have hcap := h.words.cap; obtain ⟨bb, o', hp', hbb, _⟩ := h.words.cells (by omega)
   cases hp'
   have al : a < S.words.length := by omega
   clear h hw ha ht he e1 e2 e3 NODE hm pa; generalize S.words.length = n at *; generalize Hp.ow S.words a = x at *; go_enter Tryz.func172, Tryz.ntmps172
   go_wp2_with (first
    | (go_at_call 87; refine (NODE2.out _ (exx)).mono ?_; rintro e w1 ⟨rfl, hb1⟩; obtain ⟨hc1, hf1, hs1⟩ := hb1.cells; have c2' := (hb1.cell hlt 2).trans c2; have gx' := (hb1.cell hbb (r.go + a)).trans gx)
    | (go_at_call 173; refine (PL.out _ (exx)).mono ?_; rintro e w2 ⟨rfl, hb2⟩; obtain ⟨hc2, hf2, hs2⟩ := hb2.cells))
   go_returns; exact ⟨rfl, exx⟩
set_option maxHeartbeats 2000000 in
theorem rChain {w : World} {p : Option Addr} {c k : Nat} {t : Int} {l : List Int} (h : SliceAt w p c l) (hk : Hp.chain t l = some k) :
    Calls Tryz.prog 137 #[.int .i64 t, .slice p l.length c] w fun e w' => e = .returned (.int .i64 k) ∧ Ext w w' := by
  simp only [Hp.chain, Option.bind_eq_bind, Option.bind_eq_some_iff, Option.pure_def, Option.some.injEq] at hk; obtain ⟨t', ht, n0, hn, r, hr, hk⟩ := hk; obtain ⟨rfl, ht1, ht2⟩ := ck_some ht; obtain ⟨rfl, hn1, hn2⟩ := ck_some hn; subst hk; have hle := h.le; have hcap := h.cap; have H := Lib.hid h; have HR := Lib.hid hr; clear h hr ht hn; generalize hL : l.length = n at hle ⊢; have HL := Lib.hid hL; clear hL; go_enter Tryz.func137, Tryz.ntmps137; go_wp2
  go_loop [5, 6] (fun a i => ∃ (j : Nat) (m : Int), j ≤ n ∧ i = .int .i64 j ∧ a = .int .i64 m ∧ -4611686018427387904 < m ∧ m < 4611686018427387904 ∧ Hid (Hp.sums (l.drop j) j m = some r)) (fun _ i => n - (intOf i).toNat)
  case atStart => exact ⟨0, _, Nat.zero_le _, rfl, rfl, hn1, hn2, HR⟩
  case round =>
   obtain ⟨j, m, hj, rfl, rfl, hm1, hm2, HS⟩ := hrel
   by_cases hlt : j < n
   · have hjl : j < l.length := by rw [HL.out]; exact hlt
     have hs := HS.out; rw [List.drop_eq_getElem_cons hjl] at hs; obtain ⟨f, hf, hs⟩ := Option.bind_eq_some_iff.1 hs; obtain ⟨m', hm', hs⟩ := Option.bind_eq_some_iff.1 hs; obtain ⟨hfe, hf1, hf2⟩ := ck_some hf; obtain ⟨rfl, hm3, hm4⟩ := ck_some hm'; rw [← hfe] at hf1 hf2; obtain ⟨b, o, rfl, hb, hc⟩ := H.out.cells (by omega); have g := hc j f (by unfold Hp.rd; rw [List.getElem?_eq_getElem hjl, hfe]); have HT := Lib.hid hs; clear hs hf hfe hm' hc HS; generalize he : ((j : Int) + 1) * f = q at hm3 hm4 HT; have e2 : wrap64 (((j : Int) + 1) * f) = q := by rw [he]; exact IntWalk.wrap64_in _ ⟨by omega, by omega⟩
     clear he; go_wp2
     go_round
     case rel => exact ⟨j + 1, m + q, by omega, by go_num, rfl, hm3, hm4, HT⟩
     case measure => simp [intOf]; omega
   · have : j = n := by omega
     subst this; have hs := HS.out; rw [List.drop_of_length_le (by rw [HL.out]; exact Nat.le_refl _)] at hs; obtain rfl : m = r := by simpa [Hp.sums] using hs
     clear hs HS HR; obtain ⟨q1, q2, q3⟩ := tmod16 m; have Q := Lib.hid q3; clear q3; have q4 : -9223372036854775808 ≤ m.tmod 16 + 16 := by omega
     have q5 : m.tmod 16 + 16 ≤ 9223372036854775807 := by omega
     have q6 : 0 ≤ m.tmod 16 + 16 := by omega
     go_wp2; go_returns; refine ⟨?_, exx⟩; show Ending.returned (Value.int IntKind.i64 (m.tmod 16 % 16)) = _; rw [Q.out]
theorem dIsCell_is {w : World} {f n : Int} (h1 : f = 0 → -9999 ≤ n ∧ n ≤ 9999) (h2 : f ≠ 0 → n = 0) (h3 : 0 ≤ f) (h4 : f ≤ 4) :
    Calls Tryz.prog 134 #[.agg #[.int .u8 f, .int .i64 n]] w fun e w' => e = .returned (.bool true) ∧ Ext w w' := by
  by_cases h0 : f = 0
  · subst h0; obtain ⟨k1, k2⟩ := h1 rfl; have e : Hp.within (-9999) 9999 n = true := by simp [Hp.within, k1, k2]
    have IN := Lib.hid (fun W => e ▸ dIn n (-9999) 9999 W); clear h1 h2 e; go_enter Tryz.func134, Tryz.ntmps134
    go_wp2_with (go_at_call 66; refine (IN.out _).mono ?_; rintro e w1 ⟨rfl, hb1⟩; obtain ⟨hc1, hf1, hs1⟩ := hb1.cells; have hz1_0 : w.heap.size < w1.heap.size := (by have h := hb1.le; (try simp at h); omega); have hc1_0 := hb1.cell (b := w.heap.size) (by first | omega | (simp; done) | (simp; omega)); have hf1_0 := hb1.frozen (b := w.heap.size) (by first | omega | (simp; done) | (simp; omega)))
    go_returns; exact ⟨rfl, exx⟩
  · have hn := h2 h0; subst hn; have t0 : (f == 0) = false := by simpa using h0
    have t1 : decide (f ≤ 4) = true := decide_eq_true h4; clear h1 h2; go_enter Tryz.func134, Tryz.ntmps134
    go_wp2_with fail
    go_returns; exact ⟨rfl, exx⟩
def cellsI (S : Hp.Hs) : List Int := S.taken.map fun a : Nat => (a : Int)
theorem Hp.Wf.pick_ {S : Hp.Hs} {B : Nat} {L : List Hp.Tl} {ch : Nat → List Nat} (h : Hp.Wf S B L ch) : pick false L = cellsI S := by
 rw [pick_cells, ← h.taken]
 rfl
theorem rCells_ {w : World} {r : Rd} {S : Hp.Hs} {B : Nat} {L : List Hp.Tl} {ch : Nat → List Nat} (h : RAt w r S) (hw : Hp.Wf S B L ch) : Calls Tryz.prog 82 #[.pointer (some ⟨r.rb, 0, none⟩)] w (ListPost w (cellsI S)) := by
 rw [← hw.pick_]
 exact rCells h hw.fr.toFr hw.hi hw.parts
theorem cellsI_mem {S : Hp.Hs} {x : Int} : x ∈ cellsI S ↔ ∃ a ∈ S.taken, x = (a : Int) := by
 unfold cellsI
 rw [List.mem_map]
 constructor
 · rintro ⟨a, h1, h2⟩; exact ⟨a, h1, h2.symm⟩
 · rintro ⟨a, h1, h2⟩; exact ⟨a, h1, h2.symm⟩
theorem rHas_is {w : World} {p : Option Addr} {c : Nat} {l : List Int} {x : Int} {b : Bool} (hb : l.contains x = b) (h : SliceAt w p c l) : Calls Tryz.prog 85 #[.slice p l.length c, .int .i64 x] w fun e w' => e = .returned (.bool b) ∧ Ext w w' := by
 rw [← hb]
 exact rHas h
theorem rIs {w : World} {r : Rd} {S : Hp.Hs} {B : Nat} {L : List Hp.Tl} {ch : Nat → List Nat} (h : RAt w r S) (hw : Hp.Wf S B L ch) (x : Int) : Calls Tryz.prog 26 #[.pointer (some ⟨r.rb, 0, none⟩), .int .i64 x] w fun e w' => e = .returned (.bool ((cellsI S).contains x)) ∧ Ext w w' := by
 have HC := Lib.hid (rCells_ h hw)
 obtain ⟨b, hb⟩ : ∃ b, (cellsI S).contains x = b := ⟨_, rfl⟩
 rw [hb]
 have HB := Lib.hid hb
 clear h hw hb
 go_enter Tryz.func26, Tryz.ntmps26
 go_wp2_with (first
  | (go_at_call 82; refine HC.out.mono ?_; rintro e w1 ⟨p, c, rfl, hR, hE⟩; have SA := Lib.hid hR.at_)
  | (go_at_call 85; refine (rHas_is HB.out SA.out).mono ?_; rintro e w2 ⟨rfl, hE2⟩))
 go_returns
 exact ⟨rfl, hE.trans hE2⟩
theorem fieldAt {w : World} {r : Rd} {S : Hp.Hs} {B : Nat} {L : List Hp.Tl} {ch : Nat → List Nat} (h : RAt w r S) (hw : Hp.Wf S B L ch) {a : Nat} (ha : a ∈ S.taken) : SliceAt w (some ⟨r.gb, r.go + (a + 4), none⟩) (r.wc - (a + 4)) (Hp.fz (Hp.ow S.words) S.sizes a) := by
 have pa := hw.part ha
 have hle := h.words.le
 have hcap := h.words.cap
 obtain ⟨b, o, e, hb, hc⟩ := h.words.cells (by omega)
 cases e
 refine ⟨by rw [Hp.fz_length]; omega, by omega, fun x hx => ?_, fun _ => ⟨r.gb, r.go + (a + 4), rfl, hb, fun j x hx => ?_⟩⟩
 · have := hw.fld_le ha x hx; omega
 · have hj := rd_lt hx; rw [Hp.fz_length] at hj; unfold Hp.rd Hp.fz at hx; rw [Hp.cut_get hj] at hx
   cases hx
   have := hc (a + 4 + j) _ (Hp.rd_ow (by omega)); rw [Nat.add_assoc, Nat.add_assoc]; rw [Nat.add_assoc] at this; exact this
set_option maxHeartbeats 2000000 in
theorem rField {w : World} {r : Rd} {S : Hp.Hs} {B : Nat} {L : List Hp.Tl} {ch : Nat → List Nat} (h : RAt w r S) (hw : Hp.Wf S B L ch) {a : Nat} (ha : a ∈ S.taken) :
    Calls Tryz.prog 88 #[.pointer (some ⟨r.rb, 0, none⟩), .int .i64 a] w fun e w' => e = .returned (.slice (some ⟨r.gb, r.go + (a + 4), none⟩) (Hp.fz (Hp.ow S.words) S.sizes a).length (r.wc - (a + 4))) ∧ Ext w w' := by
  have pa := hw.part ha; have hle := h.words.le; have hcap := h.words.cap; have LONG := Lib.hid (fun W (hW : Ext w W) => rLong_cell (h.ext hW) hw.fr.toFr (a := a) (by omega) (hw.cells.tags a ha)); rw [Hp.fz_length]; have c2 := h.c2; have hlt := h.lt; have hhi := hw.hi; clear h hw ha; generalize S.words.length = n at *; generalize hk : Hp.wz S.sizes (Hp.ow S.words a) = k at *; clear hk; have s1 : IntKind.i64.wrap ((a : Int) + 4) = (a : Int) + 4 := IntWalk.i64_in _ (by omega); have s2 : IntKind.i64.wrap ((a : Int) + (k : Int)) = (a : Int) + (k : Int) := IntWalk.i64_in _ (by omega); have s3 : (0 : Int) ≤ (a : Int) + 4 := by omega
  have s4 : (a : Int) + 4 ≤ (a : Int) + (k : Int) := by omega
  have s5 : (a : Int) + (k : Int) ≤ (r.wc : Int) := by omega
  have s6 : ((a : Int) + 4).toNat = a + 4 := by omega
  have s7 : ((a : Int) + (k : Int)).toNat = a + k := by omega
  have s8 : a + k - (a + 4) = k - 4 := by omega
  have cne : ¬ r.wc = a + 4 := by omega
  go_enter Tryz.func88, Tryz.ntmps88
  go_wp2_with fail
  have PR23 := Lib.hid (fun (ww : World) (hSw : Ext w ww) => (hSw.cell hlt 2).trans c2); refine wp_region_seq (S := fun W => Ext w W) (R := Ext) (by kernel_rfl) Ext.refl ?_ ?_
  · exact exx
  refine' tkL 0 rfl ?h0_1 ?_
  case h0_1 => (intro w q; obtain c2' := PR23.out w q; go_simp; try with_reducible rfl)
  refine layy ?_; refine' tkL 1 rfl ?h1_2 ?_
  case h1_2 => (intro w q; obtain c2' := PR23.out w q; go_simp; try with_reducible rfl)
  refine layy ?_; refine' tkL 2 rfl ?h2_3 ?_
  case h2_3 => (intro w q; obtain c2' := PR23.out w q; go_simp; try with_reducible rfl)
  refine layy ?_; refine' tkL 3 rfl ?h3_4 ?_
  case h3_4 => (intro w q; obtain c2' := PR23.out w q; go_simp; try with_reducible rfl)
  refine layy ?_; refine' tkL 4 rfl ?h4_5 ?_
  case h4_5 => (intro w q; obtain c2' := PR23.out w q; go_simp; try with_reducible rfl)
  refine layy ?_; refine' tkL 5 rfl ?h5_6 ?_
  case h5_6 => (intro w q; obtain c2' := PR23.out w q; go_simp; try with_reducible rfl)
  refine layy ?_; refine' tkL 6 rfl ?h6_7 ?_
  case h6_7 => (intro w q; obtain c2' := PR23.out w q; go_simp; try with_reducible rfl)
  refine layy ?_; refine' tkL 7 rfl ?h7_8 ?_
  case h7_8 => (intro w q; obtain c2' := PR23.out w q; go_simp; try with_reducible rfl)
  refine layy ?_; refine' tkL 8 rfl ?h8_9 ?_
  case h8_9 => (intro w q; obtain c2' := PR23.out w q; go_simp; try with_reducible rfl)
  refine layy ?_; refine' tkR 9 (v := .int .i64 k) rfl (Or.inr ⟨by rfl, 67, _, ?hx9_10, ?hy9_10⟩) ?rest9_10
  case hx9_10 => (intro w hSw; go_simp; try with_reducible rfl)
  case hy9_10 => exact fun w hE => (LONG.out _ hE).mono (fun _ _ h => ⟨h.1, h.2, Ext.trans hE h.2⟩)
  refine layy ?_; refine' tkL 10 rfl ?h10_11 ?_
  case h10_11 => (intro w q; obtain c2' := PR23.out w q; go_simp; try with_reducible rfl)
  refine layy ?_; refine' tkL 11 rfl ?h11_12 ?_
  case h11_12 => (intro w q; obtain c2' := PR23.out w q; go_simp; try with_reducible rfl)
  refine layy ?_; refine' tkL 12 rfl ?h12_13 ?_
  case h12_13 => (intro w q; obtain c2' := PR23.out w q; go_simp; try with_reducible rfl)
  refine layy ?_; refine wpAnyR_done (by kernel_rfl) ?_ _; intro x1 _ Ex1; go_wp2; go_returns; exact ⟨rfl, exx⟩
end Go.Proofs.YtdokmmhjmclmnaaGreat
