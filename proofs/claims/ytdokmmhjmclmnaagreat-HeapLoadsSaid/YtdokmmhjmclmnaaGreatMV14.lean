/-
  Part 14 of a proof: HFn50.
-/
import Derived.Test.YtdokmmhjmclmnaaGreatMV06
import Derived.Test.YtdokmmhjmclmnaaGreatMV13
set_option linter.unusedSimpArgs false
set_option linter.unusedVariables false
set_option linter.unusedSectionVars false
set_option linter.unnecessarySimpa false
namespace Go.Proofs.YtdokmmhjmclmnaaGreat
variable {W' w w' w0 wb:World} {B a b base c cap ce cn f g gb i j k lb m n oc s sc:Nat} {choice t x:Int} {G W fs l o xs z:List Int} {S S':Hp.Hs} {A N T:List Nat} {M:List (Nat × Int)} {op p pe pn q sp:Option Addr} {d:Hd} {acts:List Hp.Act'}
open Go.RowKit Go.Maps
theorem seen_look {b:Bool} (h:MapAt Tryz.prog w g T) (hb:({ S with taken:=T }:Hp.Hs).has x=b) (h1 : -9223372036854775808<=x) (h2:x<=9223372036854775807) :
    (Instr.lookup 102 (.map (some g)) (.int .i64 x) false).run Tryz.prog w = .ok (.bool b) w:=by
  rw [<- hb,<- has_lit];exact h.look Tryz.underlying3 Tryz.underlying4 Tryz.underlying102 (Tryz.zeroValue4 w) h1 h2
theorem seen_made (w:World):MapAt Tryz.prog (w.alloc (.map #[] 0)) w.heap.size []:=
 ⟨by simpa [mapOf] using World.ownsMap_made w Tryz.prog 3 (plainElem (H:=Unit) Tryz.prog 4),List.Pairwise.nil⟩
set_option maxRecDepth 100000 in
set_option maxHeartbeats 8000000 in
theorem areChained_any {v:Value} (h:LdAt w0 w lb d S v p k G) (hc:ChainsOk S) (h17:17<=S.words.length) {bb:Bool} (hbb:S.chainedB=some bb) :
    Calls Tryz.prog 65 #[.pointer (some ⟨lb,0,none⟩)] w fun e w'=>e = .returned (.bool bb)/\Ext w w':=by
  have sm:=h.small;obtain ⟨n,hn⟩:∃ n,S.words.length=n:=⟨_,rfl⟩
  have EN:=hZ hn;rw [hn] at sm h17;have H:=hZ h;have HC:=hZ hc;simp only [Hp.Hs.chainedB,Option.bind_eq_bind,Option.bind_eq_some_iff] at hbb;obtain ⟨R,hR,hbb⟩:=hbb;have HB:=hZ hbb;have HR:=hZ hR;clear h hc hbb hR hn;have hmm:=@run_makeMap Tryz.prog;go_enter Tryz.func65,Tryz.ntmps65
  go_wp2_with fail
  go_loopg [7] 16 (fun g i wr=>∃ (j:Nat) (seen:List Nat),j<=16/\16-j<=g/\i = .int .i64 j/\Hid (S.headsFrom (16-j) j seen=some R)/\Hid (MapAt Tryz.prog wr w.heap.size seen)/\Hid (∀ a ∈ seen,a ∈ S.taken)/\Hid (Ext w wr))
  case atStart=>exact ⟨0,[],Nat.zero_le _,by omega,rfl,HR,hZ (seen_made _),hZ (by simp),hZ (exx)⟩
  case round=>
   obtain ⟨j,seen,hj,hg,rfl,HF,MS,SS,E⟩:=hrel;clear HR;have N:=hZ (H.out.ext E.out);have h0:=N.out.h0;have c2:=N.out.c2;have hle:=N.out.le;have hcap:=N.out.cap;rw [EN.out] at c2 hle
   by_cases hlt:j < 16
   . obtain ⟨x,hx⟩:=rd_get (l:=S.words) (j:=j) (by rw [EN.out];omega);have gx:=N.out.words.get hx;have bx:=N.out.words.bound hx;have tk:decide ((j:Int) < 16)=true:=dT;have hf:=HF.out;rw [show 16-j=(16-(j+1))+1 by omega] at hf;simp only [Hp.Hs.headsFrom,hx,Option.bind_eq_bind,Option.bind_some,Option.bind_eq_some_iff] at hf;obtain ⟨r,hr,hf⟩:=hf;have HL:=hZ hr;have HF2:=hZ hf;clear hr hf hx HF;have jn:(j:Int) < (n:Int):=by omega
     go_upto_region 6 with (fail)
     go_loopg [5] (S.taken.length+1) (fun g x wx=>∃ (m:Nat) (y:Int) (seen2:List Nat),m<=g/\x = .int .i64 y/\Hid (-9223372036854775808<=y/\y<=9223372036854775807)/\Hid (S.linkFrom j m y seen2=some r)/\Hid (MapAt Tryz.prog wx w.heap.size seen2)/\Hid (∀ a ∈ seen2,a ∈ S.taken)/\Hid (Ext w wx))
     case atStart=>exact ⟨S.taken.length+1,x,seen,Nat.le_refl _,rfl,hZ bx,HL,MS,SS,E⟩
     case round=>
      obtain ⟨m,y,seen2,hg2,rfl,BY,HK,M2,S2,E2⟩:=hrel;clear MS SS E N h0 c2 gx;obtain ⟨by1,by2⟩:=BY.out;have N:=hZ (H.out.ext E2.out);have h0:=N.out.h0;have c2:=N.out.c2;have c3:=N.out.c3;rw [EN.out] at c2
      cases m with
      | zero=>
       have:=HK.out;simp [Hp.Hs.linkFrom] at this
      | succ m=>
       by_cases hy0:y=0
       . have t0:(y != 0)=false:=by simpa using hy0
         have hk:=HK.out;unfold Hp.Hs.linkFrom at hk;rw [if_pos hy0] at hk;obtain rfl:=Option.some.inj hk;have HF3:=hZ HF2.out;clear hk HK HF2
         go_wp2_with fail
         go_roundg (16-(j+1))
         case measure=>omega
         case rel=>exact ⟨j+1,seen2,by omega,Nat.le_refl _,by go_num,HF3,M2,S2,E2⟩
       have t0:(y != 0)=true:=by simpa using hy0
       have zl:=cell_lt h0;have zh:=cell_lt c2;have hk:=HK.out;unfold Hp.Hs.linkFrom at hk;rw [if_neg hy0] at hk;have none_:r=none->bb=false:=fun e=>by
        have h1:=HF2.out;rw [e] at h1;obtain rfl:=Option.some.inj h1;have h2:=HB.out
        simpa using h2.symm
       have NN:=hZ none_;clear none_ HK
       cases hs:({ S with taken:=seen2 }:Hp.Hs).has y with
       | true=>
        have HS:=hZ hs;rw [hs] at hk;simp only [Bool.true_or,if_true,Option.some.injEq] at hk;have hbf:=NN.out hk.symm;subst hbf;clear hk hs;go_upto_region 8 with (fail)
        have pr21a:=fun u_ (h_:Ext wr u_)=>(h_.cell zl 0).trans h0
        have pr21b:=fun u_ (h_:Ext wr u_)=>(h_.cell zh 2).trans c2
        have pr21c:=fun u_ (h_:Ext wr u_)=>(h_.cell zh 3).trans c3
        have pr21d:=fun u_ (h_:Ext wr u_)=>seen_look (S:=S) (M2.out.ext h_) HS.out by1 by2
        refine wp_region_seq (S:=fun W=>Ext wr W) (R:=Ext) (by kernel_rfl) Ext.refl ?_ ?_
        . exact exx
        refine' tkL 0 ?_;refine' tkL 1 ?_;refine' tkL 2 ?_;refine' tkL 3 ?_;refine' tkN 4 ?_;refine' tkN 5 ?_;refine' tkN 6 ?_;refine' tkN 7 ?_;refine' tkN 8 ?_;refine' tkN 9 ?_;refine' tkN 10 ?_;refine' tkN 11 ?_;refine' tkN 12 ?_;refine' tkN 13 ?_;refine' tkL 14 ?_;refine' tkL 15 ?_;refine' tkN 16 ?_;refine' tkN 17 ?_;refine' tkN 18 ?_;refine' tkN 19 ?_;refine' tkN 20 ?_;refine' tkN 21 ?_;refine' tkN 22 ?_;refine' tkN 23 ?_;refine' tkN 24 ?_;refine' tkN 25 ?_;refine' tkN 26 ?_;refine' tkN 27 ?_;refine' tkN 28 ?_;refine' tkN 29 ?_;refine' tkN 30 ?_;refine' tkL 31 ?_;refine wpAnyR_done (by kernel_rfl) ?_ _;intro x1 _ Ex1;clear pr21a pr21b pr21c pr21d;go_wp2;go_returns;exact ⟨rfl,E2.out.trans Ex1⟩
       | false=>
        have HS:=hZ hs;rw [hs,Bool.false_or] at hk
        cases ht:S.has y with
        | false=>
         have HT:=hZ ht;rw [ht] at hk;simp only [Bool.not_false,if_true,Option.some.injEq] at hk;have hbf:=NN.out hk.symm;subst hbf;clear hk hs ht;go_upto_region 8 with (fail)
         have pr22a:=fun u_ (h_:Ext wr u_)=>(h_.cell zl 0).trans h0
         have pr22b:=fun u_ (h_:Ext wr u_)=>(h_.cell zh 2).trans c2
         have pr22c:=fun u_ (h_:Ext wr u_)=>(h_.cell zh 3).trans c3
         have pr22d:=fun u_ (h_:Ext wr u_)=>seen_look (S:=S) (M2.out.ext h_) HS.out by1 by2
         have pr22e:=fun u_ (h_:Ext wr u_)=>run_look (N.out.toHAt.ext h_) HT.out by1 by2
         refine wp_region_seq (S:=fun W=>Ext wr W) (R:=Ext) (by kernel_rfl) Ext.refl ?_ ?_
         . exact exx
         refine' tkL 0 ?_;refine' tkL 1 ?_;refine' tkL 2 ?_;refine' tkL 3 ?_;refine' tkL 4 ?_;refine' tkL 5 ?_;refine' tkL 6 ?_;refine' tkL 7 ?_;refine' tkL 8 ?_;refine' tkL 9 ?_;refine' tkL 10 ?_;refine' tkL 11 ?_;refine' tkL 12 ?_;refine' tkL 13 ?_;refine' tkL 14 ?_;refine' tkL 15 ?_;refine' tkN 16 ?_;refine' tkN 17 ?_;refine' tkN 18 ?_;refine' tkN 19 ?_;refine' tkN 20 ?_;refine' tkN 21 ?_;refine' tkN 22 ?_;refine' tkN 23 ?_;refine' tkN 24 ?_;refine' tkN 25 ?_;refine' tkN 26 ?_;refine' tkN 27 ?_;refine' tkN 28 ?_;refine' tkN 29 ?_;refine' tkN 30 ?_;refine' tkL 31 ?_;refine wpAnyR_done (by kernel_rfl) ?_ _;intro x1 _ Ex1;clear pr22a pr22b pr22c pr22d pr22e;go_wp2;go_returns;exact ⟨rfl,E2.out.trans Ex1⟩
        | true=>
         have HT:=hZ ht;rw [ht] at hk;obtain ⟨a,rfl,ha⟩:=has_nat ht;obtain ⟨t,l,c,z,k1,k2,k3,k4⟩:=HC.out a ha;have K1:=hZ k1;have K2:=hZ k2;have K3:=hZ k3;have K4:=hZ k4;have AT:=hZ ha;have FA:=hZ (fields_at N.out.toHAt k2);simp only [Bool.not_true,Bool.false_eq_true,if_false,Int.toNat_natCast,chainOf_some k1 k2 k3,k4,Option.bind_eq_bind,Option.bind_some] at hk;have az:a+3 < n:=by
          have:=rd_lt k4;rw [EN.out] at this;exact this
         by_cases hcj:c=j
         . rw [if_neg (by simpa using hcj)] at hk;have HK2:=hZ hk;have t2:((c:Int) != (j:Int))=false:=by rw [hcj];simp
           clear hk hs ht k1 k2 k3 k4 ha;go_upto_region 8 with (fail)
           have pr23a:=fun u_ (h_:Ext wr u_)=>(h_.cell zl 0).trans h0
           have pr23b:=fun u_ (h_:Ext wr u_)=>(h_.cell zh 2).trans c2
           have pr23c:=fun u_ (h_:Ext wr u_)=>(h_.cell zh 3).trans c3
           have pr23d:=fun u_ (h_:Ext wr u_)=>seen_look (S:=S) (M2.out.ext h_) HS.out by1 by2
           have pr23e:=fun u_ (h_:Ext wr u_)=>run_look (N.out.toHAt.ext h_) HT.out by1 by2
           refine wp_region_seq (S:=fun W=>Ext wr W) (R:=Ext) (by kernel_rfl) Ext.refl ?_ ?_
           . exact exx
           refine' tkL 0 ?_;refine' tkL 1 ?_;refine' tkL 2 ?_;refine' tkL 3 ?_;refine' tkL 4 ?_;refine' tkL 5 ?_;refine' tkL 6 ?_;refine' tkL 7 ?_;refine' tkL 8 ?_;refine' tkL 9 ?_;refine' tkL 10 ?_;refine' tkL 11 ?_;refine' tkL 12 ?_;refine' tkL 13 ?_;refine' tkL 14 ?_;refine' tkL 15 ?_;refine' tkL 16 ?_;refine' tkL 17 ?_;refine' tkL 18 ?_;refine' tkL 19 ?_;refine' tkL 20 ?_;refine' tkC 21 (.int .i64 t) 76 (fun w hE=>tag_any (N.out.toHAt.ext hE).c2 rfl N.out.le N.out.cap (N.out.toHAt.ext hE).words K1.out) ?_;refine' tkL 22 ?_;refine' tkL 23 ?_;refine' tkL 24 ?_;refine' tkL 25 ?_;refine' tkL 26 ?_;refine' tkC 27 (.slice (some ⟨d.gw,a+4,none⟩) l.length l.length) 79 (fun w hE=>fields_any (N.out.toHAt.ext hE) K2.out) ?_;refine' tkC 28 (.int .i64 c) 132 (fun w hE=>chain_any (FA.out.ext hE) K3.out) ?_;refine' tkL 29 ?_;refine' tkL 30 ?_;refine' tkL 31 ?_;refine wpAnyR_done (by kernel_rfl) ?_ _;intro x1 _ Ex1;clear pr23a pr23b pr23c pr23d pr23e;have NX:=hZ (N.out.ext Ex1);obtain ⟨w7,hup,hm7,ht7⟩:=(M2.out.ext Ex1).put (t:=102) Tryz.underlying3 Tryz.underlying4 Tryz.underlying102 (by have:=len_within M2.out.sorted S2.out;have:=N.out.toHAt.taken_len;have:=N.out.small;unfold maxLen;omega) (a:=a) (by omega);have E7:=hZ (But.toExt (E2.out.trans Ex1) ((But.refl [w.heap.size] x1).turned ht7 (.inl (by simp))) (by simp));have N7:=hZ (H.out.ext E7.out);have M7:=hZ hm7;have h07:=N7.out.h0;have c27:=N7.out.c2;rw [EN.out] at c27;have gz:=N7.out.words.get K4.out;have BZ:=hZ (N7.out.words.bound K4.out);have S7:Hid (∀ b ∈ Hp.Hs.insert a seen2,b ∈ S.taken):=hZ (fun b hb=>by
            rcases (mem_ins a b seen2).1 hb with rfl | hb
            . exact AT.out
            . exact S2.out b hb)
           clear hm7 ht7 h0 c2 c3
           go_wp2_with fail
           go_roundg m
           case measure=>omega
           case rel=>exact ⟨m,z,Hp.Hs.insert a seen2,Nat.le_refl _,rfl,BZ,HK2,M7,S7,E7⟩
         rw [if_pos (by simpa using hcj),Option.some.injEq] at hk;have t2:((c:Int) != (j:Int))=true:=by
          simp;omega
         have hbf:=NN.out hk.symm;subst hbf;clear hk hs ht k1 k2 k3 k4 ha;go_upto_region 8 with (fail)
         have pr24a:=fun u_ (h_:Ext wr u_)=>(h_.cell zl 0).trans h0
         have pr24b:=fun u_ (h_:Ext wr u_)=>(h_.cell zh 2).trans c2
         have pr24c:=fun u_ (h_:Ext wr u_)=>(h_.cell zh 3).trans c3
         have pr24d:=fun u_ (h_:Ext wr u_)=>seen_look (S:=S) (M2.out.ext h_) HS.out by1 by2
         have pr24e:=fun u_ (h_:Ext wr u_)=>run_look (N.out.toHAt.ext h_) HT.out by1 by2
         refine wp_region_seq (S:=fun W=>Ext wr W) (R:=Ext) (by kernel_rfl) Ext.refl ?_ ?_
         . exact exx
         refine' tkL 0 ?_;refine' tkL 1 ?_;refine' tkL 2 ?_;refine' tkL 3 ?_;refine' tkL 4 ?_;refine' tkL 5 ?_;refine' tkL 6 ?_;refine' tkL 7 ?_;refine' tkL 8 ?_;refine' tkL 9 ?_;refine' tkL 10 ?_;refine' tkL 11 ?_;refine' tkL 12 ?_;refine' tkL 13 ?_;refine' tkL 14 ?_;refine' tkL 15 ?_;refine' tkL 16 ?_;refine' tkL 17 ?_;refine' tkL 18 ?_;refine' tkL 19 ?_;refine' tkL 20 ?_;refine' tkC 21 (.int .i64 t) 76 (fun w hE=>tag_any (N.out.toHAt.ext hE).c2 rfl N.out.le N.out.cap (N.out.toHAt.ext hE).words K1.out) ?_;refine' tkL 22 ?_;refine' tkL 23 ?_;refine' tkL 24 ?_;refine' tkL 25 ?_;refine' tkL 26 ?_;refine' tkC 27 (.slice (some ⟨d.gw,a+4,none⟩) l.length l.length) 79 (fun w hE=>fields_any (N.out.toHAt.ext hE) K2.out) ?_;refine' tkC 28 (.int .i64 c) 132 (fun w hE=>chain_any (FA.out.ext hE) K3.out) ?_;refine' tkL 29 ?_;refine' tkL 30 ?_;refine' tkL 31 ?_;refine wpAnyR_done (by kernel_rfl) ?_ _;intro x1 _ Ex1;clear pr24a pr24b pr24c pr24d pr24e;go_wp2;go_returns;exact ⟨rfl,E2.out.trans Ex1⟩
   have:j=16:=by omega
   subst this;have hf:=HF.out;rw [Nat.sub_self] at hf;simp only [Hp.Hs.headsFrom,Option.some.injEq] at hf;subst hf;have hb:=HB.out;simp only [Option.some.injEq] at hb;have c3:=N.out.c3;have tk:decide ((16:Int) < 16)=false:=by decide
   clear HF;have zl:=cell_lt h0;have zh:=cell_lt c3;go_upto_region 12 with (fail)
   have pr25a:=fun u_ (h_:Ext wr u_)=>(h_.cell zl 0).trans h0
   have pr25b:=fun u_ (h_:Ext wr u_)=>(h_.cell zh 3).trans c3
   have pr25c:=fun u_ (h_:Ext wr u_)=>fun ty=>(MS.out.ext h_).len (t:=102) Tryz.underlying102 ty
   have pr25d:=fun u_ (h_:Ext wr u_)=>fun ty=>(N.out.map.ext h_).len (t:=102) Tryz.underlying102 ty
   refine wp_region_seq (S:=fun W=>Ext wr W) (R:=Ext) (by kernel_rfl) Ext.refl ?_ ?_
   . exact exx
   refine' tkL 0 ?_;refine' tkL 1 ?_;refine' tkL 2 ?_;refine' tkL 3 ?_;refine' tkL 4 ?_;refine' tkL 5 ?_;refine' tkL 6 ?_;refine' tkL 7 ?_;refine' tkL 8 ?_;refine' tkL 9 ?_;refine' tkL 10 ?_;refine' tkL 11 ?_;refine wpAnyR_done (by kernel_rfl) ?_ _;intro x1 _ Ex1;clear pr25a pr25b pr25c pr25d;go_wp2;go_returns;refine ⟨?_,E.out.trans Ex1⟩;rw [<- hb];simp
   first
    | exact bool_eq (by simp <;> omega)
    | (by_cases e:seen.length=S.taken.length <;> simp [e] <;> omega)
end Go.Proofs.YtdokmmhjmclmnaaGreat
