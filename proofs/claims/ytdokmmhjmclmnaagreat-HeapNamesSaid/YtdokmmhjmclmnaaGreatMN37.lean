/-
  Part 37 of a proof: NM8.
-/
import Derived.Test.YtdokmmhjmclmnaaGreatMN28
import Derived.Test.YtdokmmhjmclmnaaGreatMN32
import Derived.Test.YtdokmmhjmclmnaaGreatMN36
set_option linter.unusedSimpArgs false
set_option linter.unusedVariables false
set_option linter.unusedSectionVars false
set_option linter.unnecessarySimpa false
namespace Go.Proofs.YtdokmmhjmclmnaaGreat
open Go.RowKit Go.Maps
theorem cn_any {wb:World} {c:Cn} {i:Mkr} {L:DgL} {d:Nd.Dia} (hd:DgRd wb L d.sizes d.order d.ends d.nodes) (hin:CnIn d):∀ (n:Nat) (r:Int),d.Ref r n → n ≤ d.nodes.length → ∀ (w:World) (s:Nd.Cl) (pe:Option Addr) (ce:Nat) (pn:Option Addr) (cn:Nat) (K:List (Nat × Nat)),CnSt wb w c i L d s pe ce pn cn K → Nd.ClIn d s →
    Calls Tryz.prog 196 (c.args r) w (CnPost wb w c i L d (i.dyn pe pn) K (d.cfrom (n+1) r s).1 (d.cfrom (n+1) r s).2)
  | n,r,hr,hn,w,s,pe,ce,pn,cn,K,h,hcl=>by
   have few:=hcl.few;have h1:=hin.el;have h2:=hin.nl
   by_cases h0:r < 0
   · have:=cn_end hd h h0 hr.2 hin.ends h1 (by omega);have e:d.cfrom (n+1) r s=Nd.mEnd (d.endAt (-1-r).toNat) s:=by rw [Nd.Dia.cfrom,if_pos h0]
     rw [e];exact this
   · obtain ⟨a,rfl⟩:∃ a:Nat,r=(a:Int):=⟨r.toNat,by omega⟩
     have han:a < n:=by have:=hr.1;omega
     cases hk:getI a s.known with
     | some x=>
      have e:d.cfrom (n+1) (a:Int) s=(x,s):=by rw [Nd.Dia.cfrom,if_neg h0,Int.toNat_natCast,hk]
      rw [e];exact cn_known h (by omega) hk
     | none=>
      obtain ⟨m,rfl⟩:∃ m,n=m+1:=⟨n-1,by omega⟩
      exact cn_node hd hin h hcl (by omega) (by omega) hk fun r hr w s pe ce pn cn K=>cn_any hd hin m r hr (by omega) w s pe ce pn cn K
def NmPost (w:World) (z o:List Int) (e:Ending) (w':World):Prop:=
 ∃ (i:Mkr) (p2:Option Addr) (c2:Nat) (p3:Option Addr) (c3:Nat),e = .returned (.pointer (some ⟨i.gm,0,none⟩)) ∧ MkSt w w' i [] [] none 0 none 0 [] ∧ i.v2 = .slice p2 z.length c2 ∧ i.v3 = .slice p3 o.length c3 ∧ i.v6 = .int .i64 0 ∧ SliceAt w' p2 c2 z ∧ SliceAt w' p3 c3 o ∧
  ∀ b,b ∈ blk p2 ∨ b ∈ blk p3 → w.heap.size ≤ b ∧ b < w'.heap.size ∧ b ≠ i.gm ∧ b ≠ i.ge ∧ b ≠ i.gn
theorem nm_pack {w W:World} {gm ge gn:Nat} {p2 p3:Option Addr} {c2 c3:Nat} {f0 f1:Value} {z o:List Int} (t:TypeId) (hgm:gm=W.heap.size) (h:Ext w W) (he:IxAt 43 encV W ge ([]:List (Int × Int))) (hn:IxAt 204 encN W gn ([]:List (List Int))) (lo:w.heap.size ≤ ge ∧ w.heap.size ≤ gn) (hne:ge ≠ gn)
    (s2:SliceAt W p2 c2 z) (s3:SliceAt W p3 c3 o) (hb:∀ b,b ∈ blk p2 ∨ b ∈ blk p3 → w.heap.size ≤ b ∧ b < W.heap.size ∧ b ≠ ge ∧ b ≠ gn) :
    NmPost w z o (.returned (.pointer (some ⟨gm,0,none⟩))) (W.alloc (.cells #[f0,f1,.slice p2 z.length c2,.slice p3 o.length c3,.slice none 0 0,.slice none 0 0,.int .i64 0,.map (some ge),.map (some gn)] t)):=by
  subst hgm;have k:Ext W (W.alloc (.cells #[f0,f1,.slice p2 z.length c2,.slice p3 o.length c3,.slice none 0 0,.slice none 0 0,.int .i64 0,.map (some ge),.map (some gn)] t)):=Ext.alloc (Ext.refl W) _;have ze:=he.lt;have zn:=hn.lt;have le:=h.le;have sz:(W.alloc (.cells #[f0,f1,.slice p2 z.length c2,.slice p3 o.length c3,.slice none 0 0,.slice none 0 0,.int .i64 0,.map (some ge),.map (some gn)] t)).heap.size=W.heap.size+1:=by simp
  refine ⟨⟨W.heap.size,ge,gn,f0,f1,.slice p2 z.length c2,.slice p3 o.length c3,.int .i64 0⟩,p2,c2,p3,c3,rfl, ?_,rfl,rfl,rfl,s2.ext k,s3.ext k,fun b hb'=>?_⟩
  · exact
      { ext:=h.trans k
        c:=⟨by go_simp,by go_simp,by go_simp,by go_simp,by go_simp,by go_simp,by go_simp,by go_simp,by go_simp,fun o=>by go_simp⟩
        e:=⟨he.ext k,RowN.nil _ _ _⟩
        n:=⟨hn.ext k,RowN.nil _ _ _,rfl,fun j q k h=>by simp at h⟩
        lo:=fun b hb=>by
         rw [sz];simp [Mkr.dyn,blk] at hb;omega
        nd:=⟨by simp only;omega,by simp only;omega,hne⟩
        ndp:=fun b hb=>by simp [blk] at hb
        ndn:=fun b hb=>by simp [blk] at hb
        ndk:=fun b hb=>by simp at hb }
  · have:=hb b hb';rw [sz];refine ⟨this.1,by omega,by simp only;omega,this.2.2.1,this.2.2.2⟩
def vb:Value → List Nat
 | .slice p _ _=>blk p
 | .map (some g)=>[g]
 | _=>[]
structure NmK (w0:World) (z o:List Int) (f0 f1:Value) (L:Nat → Bool) (W:World) (v1 v2 v3 v4 v5 v6 v7 v8:Value):Prop where
 ext:Ext w0 W
 sz:L 3=true → ∃ p c,v1 = .slice p z.length c ∧ SliceAt W p c z ∧ ∀ b ∈ blk p,w0.heap.size ≤ b ∧ b < W.heap.size
 so:L 6=true → ∃ p c,v2 = .slice p o.length c ∧ SliceAt W p c o ∧ ∀ b ∈ blk p,w0.heap.size ≤ b ∧ b < W.heap.size
 d:L 7=true → L 3=true ∧ L 6=true ∧ v3 = .agg #[v1,v2,.slice none 0 0,.slice none 0 0,.int .i64 0]
 e:L 8=true → ∃ g,v4 = .map (some g) ∧ w0.heap.size ≤ g ∧ IxAt 43 encV W g ([]:List (Int × Int))
 n:L 9=true → ∃ g,v5 = .map (some g) ∧ w0.heap.size ≤ g ∧ IxAt 204 encN W g ([]:List (List Int))
 se:L 3=true → L 8=true → ∀ b ∈ vb v1,b ∉ vb v4
 sn:L 3=true → L 9=true → ∀ b ∈ vb v1,b ∉ vb v5
 oe:L 6=true → L 8=true → ∀ b ∈ vb v2,b ∉ vb v4
 on:L 6=true → L 9=true → ∀ b ∈ vb v2,b ∉ vb v5
 en:L 8=true → L 9=true → ∀ b ∈ vb v4,b ∉ vb v5
 m:L 10=true → L 7=true ∧ L 8=true ∧ L 9=true ∧ v6 = .agg #[f0,f1,v1,v2,.slice none 0 0,.slice none 0 0,.int .i64 0,v4,v5]
 b:L 11=true → L 10=true ∧ NmPost w0 z o (.returned v7) W
 a:L 12=true → L 11=true ∧ v8=v7
namespace NmK
variable {w0 W W':World} {z o:List Int} {f0 f1:Value} {L:Nat → Bool} {v1 v2 v3 v4 v5 v6 v7 v8:Value}
theorem lt1 (k:NmK w0 z o f0 f1 L W v1 v2 v3 v4 v5 v6 v7 v8) (h:L 3=true):∀ b ∈ vb v1,b < W.heap.size:=fun b hb=>by
 obtain ⟨p,c,rfl,_,h2⟩:=k.sz h
 exact (h2 b hb).2
theorem lt2 (k:NmK w0 z o f0 f1 L W v1 v2 v3 v4 v5 v6 v7 v8) (h:L 6=true):∀ b ∈ vb v2,b < W.heap.size:=fun b hb=>by
 obtain ⟨p,c,rfl,_,h2⟩:=k.so h
 exact (h2 b hb).2
theorem lt4 (k:NmK w0 z o f0 f1 L W v1 v2 v3 v4 v5 v6 v7 v8) (h:L 8=true):∀ b ∈ vb v4,b < W.heap.size:=fun b hb=>by
 obtain ⟨g,rfl,_,h2⟩:=k.e h
 rw [List.mem_singleton.1 hb]
 exact h2.lt
theorem lt5 (k:NmK w0 z o f0 f1 L W v1 v2 v3 v4 v5 v6 v7 v8) (h:L 9=true):∀ b ∈ vb v5,b < W.heap.size:=fun b hb=>by
 obtain ⟨g,rfl,_,h2⟩:=k.n h
 rw [List.mem_singleton.1 hb]
 exact h2.lt
theorem s' (k:NmK w0 z o f0 f1 L W v1 v2 v3 v4 v5 v6 v7 v8) (y:Ext W W') (h:L 3=true):∃ p c,v1 = .slice p z.length c ∧ SliceAt W' p c z ∧ ∀ b ∈ blk p,w0.heap.size ≤ b ∧ b < W'.heap.size:=by
 obtain ⟨p,c,e,h1,h2⟩:=k.sz h
 exact ⟨p,c,e,h1.ext y,fun b hb=>⟨(h2 b hb).1,Nat.lt_of_lt_of_le (h2 b hb).2 y.le⟩⟩
theorem o' (k:NmK w0 z o f0 f1 L W v1 v2 v3 v4 v5 v6 v7 v8) (y:Ext W W') (h:L 6=true):∃ p c,v2 = .slice p o.length c ∧ SliceAt W' p c o ∧ ∀ b ∈ blk p,w0.heap.size ≤ b ∧ b < W'.heap.size:=by
 obtain ⟨p,c,e,h1,h2⟩:=k.so h
 exact ⟨p,c,e,h1.ext y,fun b hb=>⟨(h2 b hb).1,Nat.lt_of_lt_of_le (h2 b hb).2 y.le⟩⟩
theorem e' (k:NmK w0 z o f0 f1 L W v1 v2 v3 v4 v5 v6 v7 v8) (y:Ext W W') (h:L 8=true):∃ g,v4 = .map (some g) ∧ w0.heap.size ≤ g ∧ IxAt 43 encV W' g ([]:List (Int × Int)):=by
 obtain ⟨g,e,h1,h2⟩:=k.e h
 exact ⟨g,e,h1,h2.ext y⟩
theorem n' (k:NmK w0 z o f0 f1 L W v1 v2 v3 v4 v5 v6 v7 v8) (y:Ext W W') (h:L 9=true):∃ g,v5 = .map (some g) ∧ w0.heap.size ≤ g ∧ IxAt 204 encN W' g ([]:List (List Int)):=by
 obtain ⟨g,e,h1,h2⟩:=k.n h
 exact ⟨g,e,h1,h2.ext y⟩
theorem no {p:Prop} {a:Bool} (h0:a=false) (h:a=true):p:=by rw [h0] at h;cases h
theorem step3 (k:NmK w0 z o f0 f1 L W v1 v2 v3 v4 v5 v6 v7 v8) (hL:L 3=false) (y:Ext W W') {p:Option Addr} {c:Nat} (hs:SliceAt W' p c z) (hb:∀ b ∈ blk p,W.heap.size ≤ b ∧ b < W'.heap.size):NmK w0 z o f0 f1 (also L 3) W' (.slice p z.length c) v2 v3 v4 v5 v6 v7 v8:=
 ⟨k.ext.trans y,fun _=>⟨p,c,rfl,hs,fun b h=>⟨Nat.le_trans k.ext.le (hb b h).1,(hb b h).2⟩⟩,k.o' y,fun h=>no hL (k.d h).1,k.e' y,k.n' y,fun _ h b hb' hm=>by have:=k.lt4 h b hm;have:=(hb b hb').1;omega,fun _ h b hb' hm=>by have:=k.lt5 h b hm;have:=(hb b hb').1;omega,k.oe,k.on,k.en,fun h=>no hL (k.d (k.m h).1).1,fun h=>no hL (k.d (k.m (k.b h).1).1).1,k.a⟩
theorem step6 (k:NmK w0 z o f0 f1 L W v1 v2 v3 v4 v5 v6 v7 v8) (hL:L 6=false) (y:Ext W W') {p:Option Addr} {c:Nat} (hs:SliceAt W' p c o) (hb:∀ b ∈ blk p,W.heap.size ≤ b ∧ b < W'.heap.size):NmK w0 z o f0 f1 (also L 6) W' v1 (.slice p o.length c) v3 v4 v5 v6 v7 v8:=
 ⟨k.ext.trans y,k.s' y,fun _=>⟨p,c,rfl,hs,fun b h=>⟨Nat.le_trans k.ext.le (hb b h).1,(hb b h).2⟩⟩,fun h=>no hL (k.d h).2.1,k.e' y,k.n' y,k.se,k.sn,fun _ h b hb' hm=>by have:=k.lt4 h b hm;have:=(hb b hb').1;omega,fun _ h b hb' hm=>by have:=k.lt5 h b hm;have:=(hb b hb').1;omega,k.en,fun h=>no hL (k.d (k.m h).1).2.1,fun h=>no hL (k.d (k.m (k.b h).1).1).2.1,k.a⟩
theorem step7 (k:NmK w0 z o f0 f1 L W v1 v2 v3 v4 v5 v6 v7 v8) (h3:L 3=true) (h6:L 6=true):NmK w0 z o f0 f1 (also L 7) W v1 v2 (.agg #[v1,v2,.slice none 0 0,.slice none 0 0,.int .i64 0]) v4 v5 v6 v7 v8:=
 ⟨k.ext,k.sz,k.so,fun _=>⟨h3,h6,rfl⟩,k.e,k.n,k.se,k.sn,k.oe,k.on,k.en,fun h=>⟨rfl,(k.m h).2⟩,k.b,k.a⟩
theorem step8 (k:NmK w0 z o f0 f1 L W v1 v2 v3 v4 v5 v6 v7 v8) (hL:L 8=false):NmK w0 z o f0 f1 (also L 8) (W.alloc (.map #[] 0)) v1 v2 v3 (.map (some W.heap.size)) v5 v6 v7 v8:=by
 have y:Ext W (W.alloc (.map #[] 0)):=Ext.alloc (Ext.refl W) _
 exact ⟨k.ext.trans y,k.s' y,k.o' y,k.d,fun _=>⟨_,rfl,k.ext.le,IxAt.made W⟩,k.n' y,fun h _ b hb hm=>by have:=k.lt1 h b hb;rw [List.mem_singleton.1 hm] at this;omega,k.sn,fun h _ b hb hm=>by have:=k.lt2 h b hb;rw [List.mem_singleton.1 hm] at this;omega,k.on,fun _ h b hb hm=>by have:=k.lt5 h b hm;rw [List.mem_singleton.1 hb] at this;omega,fun h=>no hL (k.m h).2.1,fun h=>no hL (k.m (k.b h).1).2.1,k.a⟩
theorem step9 (k:NmK w0 z o f0 f1 L W v1 v2 v3 v4 v5 v6 v7 v8) (hL:L 9=false):NmK w0 z o f0 f1 (also L 9) (W.alloc (.map #[] 0)) v1 v2 v3 v4 (.map (some W.heap.size)) v6 v7 v8:=by
 have y:Ext W (W.alloc (.map #[] 0)):=Ext.alloc (Ext.refl W) _
 exact ⟨k.ext.trans y,k.s' y,k.o' y,k.d,k.e' y,fun _=>⟨_,rfl,k.ext.le,IxAt.made W⟩,k.se,fun h _ b hb hm=>by have:=k.lt1 h b hb;rw [List.mem_singleton.1 hm] at this;omega,k.oe,fun h _ b hb hm=>by have:=k.lt2 h b hb;rw [List.mem_singleton.1 hm] at this;omega,fun h _ b hb hm=>by have:=k.lt4 h b hb;rw [List.mem_singleton.1 hm] at this;omega,fun h=>no hL (k.m h).2.2.1,fun h=>no hL (k.m (k.b h).1).2.2.1,k.a⟩
theorem step10 (k:NmK w0 z o f0 f1 L W v1 v2 v3 v4 v5 v6 v7 v8) (hL:L 10=false) (h7:L 7=true) (h8:L 8=true) (h9:L 9=true):NmK w0 z o f0 f1 (also L 10) W v1 v2 v3 v4 v5 (.agg #[f0,f1,v1,v2,.slice none 0 0,.slice none 0 0,.int .i64 0,v4,v5]) v7 v8:=
 ⟨k.ext,k.sz,k.so,k.d,k.e,k.n,k.se,k.sn,k.oe,k.on,k.en,fun _=>⟨h7,h8,h9,rfl⟩,fun h=>no hL (k.b h).1,k.a⟩
theorem step11 (k:NmK w0 z o f0 f1 L W v1 v2 v3 v4 v5 v6 v7 v8) (hL:L 11=false) (h10:L 10=true) (t:TypeId):NmK w0 z o f0 f1 (also L 11) (W.alloc (.cells #[f0,f1,v1,v2,.slice none 0 0,.slice none 0 0,.int .i64 0,v4,v5] t)) v1 v2 v3 v4 v5 v6 (.pointer (some ⟨W.heap.size,0,none⟩)) v8:=by
 have y:Ext W (W.alloc (.cells #[f0,f1,v1,v2,.slice none 0 0,.slice none 0 0,.int .i64 0,v4,v5] t)):=Ext.alloc (Ext.refl W) _
 refine ⟨k.ext.trans y,k.s' y,k.o' y,k.d,k.e' y,k.n' y,k.se,k.sn,k.oe,k.on,k.en,k.m,fun _=>⟨h10, ?_⟩,fun h=>no hL (k.a h).1⟩
 obtain ⟨h7,h8,h9,_⟩:=k.m h10
 obtain ⟨h3,h6,_⟩:=k.d h7
 have a1:=k.se h3 h8
 have a2:=k.sn h3 h9
 have a3:=k.oe h6 h8
 have a4:=k.on h6 h9
 have a5:=k.en h8 h9
 obtain ⟨p,c,rfl,s1,s2⟩:=k.sz h3
 obtain ⟨p',c',rfl,o1,o2⟩:=k.so h6
 obtain ⟨g,rfl,e1,e2⟩:=k.e h8
 obtain ⟨g',rfl,n1,n2⟩:=k.n h9
 simp only [vb,List.mem_singleton] at a1 a2 a3 a4 a5
 refine nm_pack t rfl k.ext e2 n2 ⟨e1,n1⟩ (a5 g rfl) s1 o1 fun b hb=>?_
 rcases hb with hb | hb
 · exact ⟨(s2 b hb).1,(s2 b hb).2,a1 b hb,a2 b hb⟩
 · exact ⟨(o2 b hb).1,(o2 b hb).2,a3 b hb,a4 b hb⟩
theorem step12 (k:NmK w0 z o f0 f1 L W v1 v2 v3 v4 v5 v6 v7 v8) (h11:L 11=true):NmK w0 z o f0 f1 (also L 12) W v1 v2 v3 v4 v5 v6 v7 v7:=
 ⟨k.ext,k.sz,k.so,k.d,k.e,k.n,k.se,k.sn,k.oe,k.on,k.en,k.m,k.b,fun _=>⟨h11,rfl⟩⟩
end NmK
set_option maxRecDepth 100000 in
set_option maxHeartbeats 16000000 in
theorem newMaker_any {w:World} {p q:Option Addr} {c d:Nat} {z o:List Int} (hs:SliceAt w p c z) (ho:SliceAt w q d o) (hz:z.length ≤ 1000000) (hol:o.length ≤ 1000000) :
    Calls Tryz.prog 195 #[.agg #[.slice p z.length c,.slice q o.length d]] w fun e w'=>∃ v,e = .returned v ∧ ∃ w1,Ext w w1 ∧ NmPost w1 z o (.returned v) w':=by
  have CS:=Lib.hid (fun W (hE:Ext w W)=>sClone_gen (hs.ext hE) hz);have CO:=Lib.hid (fun W (hE:Ext w W)=>sClone_gen (ho.ext hE) hol);clear hs ho;have mixed:Tryz.prog.follows .mixedOrders=true:=by kernel_rfl
  have hmm:=@run_makeMap Tryz.prog;generalize hzl:z.length=n1 at CS ⊢;generalize hoo:o.length=n2 at CO ⊢;have HZ:=Lib.hid hzl;have HO:=Lib.hid hoo;clear hzl hoo;go_enter Tryz.func195,Tryz.ntmps195;go_upto_region 1 with fail
  refine cut_world (F:=fun W=>Hid (Ext w W) ∧ W.cell? ⟨w.heap.size,0,none⟩=some (.slice p n1 c) ∧ W.cell? ⟨w.heap.size,1,none⟩=some (.slice q n2 d)) ⟨Lib.hid (exx),by go_simp,by go_simp⟩ ?_;intro w1 ⟨E1,g0,g1⟩;generalize w.heap.size=gf at g0 g1 ⊢;have zf:=cell_lt g0;have PR33:=Lib.hid (fun (ww:World) (hSw:Ext w1 ww)=>And.intro ((hSw.cell zf 0).trans g0) ((hSw.cell zf 1).trans g1));refine wp_region_held_drew (S:=fun W=>Ext w1 W) (by kernel_rfl) ?_ (fun hS=>?_)
  · exact exx
  · skip
    refine' wpAnyH_take (i:=0) (v:=?v0_1545) rfl (by kernel_rfl) (by kernel_rfl) (by kernel_rfl) (fun _ _ _ h=>h) (Or.inl ⟨by rfl, ?hy0_1545⟩) (by assumption) ?rest0_1545
    case hy0_1545=>(intro w q;obtain ⟨g0',g1'⟩:=PR33.out w q;go_simp;try with_reducible rfl)
    refine layy ?_;refine' wpAnyH_take (i:=1) (v:=?v1_1546) rfl (by kernel_rfl) (by kernel_rfl) (by kernel_rfl) (fun _ _ _ h=>h) (Or.inl ⟨by rfl, ?hy1_1546⟩) (by assumption) ?rest1_1546
    case hy1_1546=>(intro w q;obtain ⟨g0',g1'⟩:=PR33.out w q;go_simp;try with_reducible rfl)
    refine layy ?_;refine' wpAnyH_take (i:=2) (v:=?v2_1547) rfl (by kernel_rfl) (by kernel_rfl) (by kernel_rfl) (fun _ _ _ h=>h) (Or.inl ⟨by rfl, ?hy2_1547⟩) (by assumption) ?rest2_1547
    case hy2_1547=>(intro w q;obtain ⟨g0',g1'⟩:=PR33.out w q;go_simp;try with_reducible rfl)
    refine layy ?_;refine' wpAnyH_take (i:=4) (v:=?v4_1548) rfl (by kernel_rfl) (by kernel_rfl) (by kernel_rfl) (fun _ _ _ h=>h) (Or.inl ⟨by rfl, ?hy4_1548⟩) (by assumption) ?rest4_1548
    case hy4_1548=>(intro w q;obtain ⟨g0',g1'⟩:=PR33.out w q;go_simp;try with_reducible rfl)
    refine layy ?_;refine' wpAnyH_take (i:=5) (v:=?v5_1549) rfl (by kernel_rfl) (by kernel_rfl) (by kernel_rfl) (fun _ _ _ h=>h) (Or.inl ⟨by rfl, ?hy5_1549⟩) (by assumption) ?rest5_1549
    case hy5_1549=>(intro w q;obtain ⟨g0',g1'⟩:=PR33.out w q;go_simp;try with_reducible rfl)
    refine layy ?_;refine wpAnyH_slots [3,6,7,8,9,10,11,12] [6,9,10,11,12,13,14,2] (fun L vs W=>∃ v1 v2 v3 v4 v5 v6 v7 v8:Value,vs=[v1,v2,v3,v4,v5,v6,v7,v8] ∧ Ext w1 W ∧ NmK w1 z o (.slice p n1 c) (.slice q n2 d) L W v1 v2 v3 v4 v5 v6 v7 v8) (by kernel_rfl) (by kernel_rfl) ?h0 ?hsteps ?hend
    case h0=>exact ⟨_,_,_,_,_,_,_,_,rfl,hS,⟨hS,fun h=>(by cases h),fun h=>(by cases h),fun h=>(by cases h),fun h=>(by cases h),fun h=>(by cases h),fun h=>(by cases h),fun h=>(by cases h),fun h=>(by cases h),fun h=>(by cases h),fun h=>(by cases h),fun h=>(by cases h),fun h=>(by cases h),fun h=>(by cases h)⟩⟩
    case hsteps=>
     refine StepsInv.cons rfl ?_ (StepsInv.cons rfl ?_ (StepsInv.cons rfl ?_ (StepsInv.cons rfl ?_ (StepsInv.cons rfl ?_ (StepsInv.cons rfl ?_ (StepsInv.cons rfl ?_ (StepsInv.cons rfl ?_ StepsInv.nil)))))))
     all_goals (try simp only [List.getElem_toArray,List.getElem_cons_zero,List.getElem_cons_succ])
     all_goals
      rintro L a w ⟨vs,ha,v1,v2,v3,v4,v5,v6,v7,v8,rfl,hE,J⟩ hL hC;obtain rfl:=ha;intro K' hK
      (try simp only [putAll,Act.put,List.setIfInBounds_toArray,List.set_cons_zero,List.set_cons_succ])
     · go_simp
       go_at_call 60
       refine (CS.out _ (E1.out.trans hE)).mono ?_;rintro e x ⟨p2,c2,rfl,hS2,y,hb2⟩
       go_wp2_with fail
       exact hK.out _ _ (hE.trans y) ⟨[.slice p2 n1 c2,v2,v3,v4,v5,v6,v7,v8],rfl,_,_,_,_,_,_,_,_,rfl,hE.trans y,by have:=J.step3 hL y hS2 hb2;rw [HZ.out] at this;exact this⟩
     · go_simp
       go_at_call 60
       refine (CO.out _ (E1.out.trans hE)).mono ?_;rintro e x ⟨p2,c2,rfl,hS2,y,hb2⟩
       go_wp2_with fail
       exact hK.out _ _ (hE.trans y) ⟨[v1,.slice p2 n2 c2,v3,v4,v5,v6,v7,v8],rfl,_,_,_,_,_,_,_,_,rfl,hE.trans y,by have:=J.step6 hL y hS2 hb2;rw [HO.out] at this;exact this⟩
     · have h3:L 3=true:=hC ⟨3,.data⟩ (by simp) rfl;have h6:L 6=true:=hC ⟨6,.data⟩ (by simp) rfl;have J7:=J.step7 h3 h6;obtain ⟨p2,c2,rfl,-⟩:=J.sz h3;obtain ⟨p3,c3,rfl,-⟩:=J.so h6;go_simp;exact hK.out _ _ hE ⟨[_,_,_,v4,v5,v6,v7,v8],rfl,_,_,_,_,_,_,_,_,rfl,hE,J7⟩
     · go_simp;exact hK.out _ _ (hE.alloc _) ⟨[v1,v2,v3,.map (some w.heap.size),v5,v6,v7,v8],rfl,_,_,_,_,_,_,_,_,rfl,hE.alloc _,J.step8 hL⟩
     · go_simp;exact hK.out _ _ (hE.alloc _) ⟨[v1,v2,v3,v4,.map (some w.heap.size),v6,v7,v8],rfl,_,_,_,_,_,_,_,_,rfl,hE.alloc _,J.step9 hL⟩
     · have h7:L 7=true:=hC ⟨7,.data⟩ (by simp) rfl;have h8:L 8=true:=hC ⟨8,.data⟩ (by simp) rfl;have h9:L 9=true:=hC ⟨9,.data⟩ (by simp) rfl;have J10:=J.step10 hL h7 h8 h9;obtain ⟨h3,h6,rfl⟩:=J.d h7;obtain ⟨p2,c2,rfl,-⟩:=J.sz h3;obtain ⟨p3,c3,rfl,-⟩:=J.so h6;obtain ⟨ge,rfl,-⟩:=J.e h8;obtain ⟨gn,rfl,-⟩:=J.n h9;go_simp;exact hK.out _ _ hE ⟨[_,_,_,_,_,_,v7,v8],rfl,_,_,_,_,_,_,_,_,rfl,hE,J10⟩
     · have h10:L 10=true:=hC ⟨10,.data⟩ (by simp) rfl;have J11:=J.step11 hL h10 192;obtain ⟨h7,h8,h9,rfl⟩:=J.m h10;go_simp;exact hK.out _ _ (hE.alloc _) ⟨[_,_,_,_,_,_,.pointer (some ⟨w.heap.size,0,none⟩),v8],rfl,_,_,_,_,_,_,_,_,rfl,hE.alloc _,J11⟩
     · have h11:L 11=true:=hC ⟨11,.data⟩ (by simp) rfl;go_simp;exact hK.out _ _ hE ⟨[v1,v2,v3,v4,v5,v6,v7,v7],rfl,_,_,_,_,_,_,_,_,rfl,hE,J.step12 h11⟩
    rintro L _ w9 ⟨v1,v2,v3,v4,v5,v6,v7,v8,rfl,E9,J⟩ hall;obtain ⟨h11,rfl⟩:=J.a (hall 12 (by simp));have HP:=Lib.hid (J.b h11).2;clear J hall h11 hS;simp only [putAll,Act.put,List.setIfInBounds_toArray,List.set_cons_zero,List.set_cons_succ]
    go_wp2_with fail
    go_returns;exact ⟨_,rfl,w1,E1.out,HP.out⟩
end Go.Proofs.YtdokmmhjmclmnaaGreat
