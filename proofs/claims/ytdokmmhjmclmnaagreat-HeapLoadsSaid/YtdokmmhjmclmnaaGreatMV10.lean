/-
  Part 10 of a proof: HFn25.
-/
import Derived.Test.YtdokmmhjmclmnaaGreatMV08
set_option linter.unusedSimpArgs false
set_option linter.unusedVariables false
set_option linter.unusedSectionVars false
set_option linter.unnecessarySimpa false
namespace Go.Proofs.YtdokmmhjmclmnaaGreat
variable {W' w w' w0 wb:World} {B a b base c cap ce cn f g gb i j k lb m n oc s sc:Nat} {choice t x:Int} {G W fs l o xs z:List Int} {S S':Hp.Hs} {A N T:List Nat} {M:List (Nat × Int)} {op p pe pn q sp:Option Addr} {d:Hd}
open Go.RowKit Go.Maps
theorem Row.lt {o:Nat} (h:Row w base p c l) (e:p=some ⟨b,o,none⟩):b < w.heap.size:=by
 rcases h.1.2 with ⟨e',_⟩ | ⟨g,cap,cur,e',h1,hg,_⟩
 . injection e' with e1
   rw [e] at e1
   cases e1
 injection e' with e1
 rw [e] at e1
 cases e1
 exact (Array.getElem?_eq_some_iff.1 hg).1
theorem made_at (w:World) (n g:Nat) (hg:g=w.heap.size):WordsAt (w.alloc (.cells (madeCells #[.int .i64 0] n) 3)) g (List.replicate n 0):=by
 subst hg
 exact made_words w n
theorem map_at (w:World) (g:Nat) (hg:g=w.heap.size):MapAt Tryz.prog (w.alloc (.map #[] 0)) g []:=by
 subst hg
 exact ⟨by simpa [mapOf] using World.ownsMap_made w Tryz.prog 3 (plainElem (H:=Unit) Tryz.prog 4),List.Pairwise.nil⟩
theorem new_cut {P:Program} {cd:Code} {Q:Exit->Act->World->Prop} {act:Act} {W:World} {hb gw gm c2 c3 m2 m3:Nat} {p2 p3:Option Addr}
    (_:act.tmps[25]? = some (.agg #[.slice p2 m2 c2,.slice p3 m3 c3,.slice (some ⟨gw,0,none⟩) n n,.map (some gm)])) (_:act.tmps[26]? = some (.pointer (some ⟨hb,0,none⟩)))
    (h:HAt W ⟨hb,gw,gm,n,p2,c2,p3,c3⟩ S) (e:Ext w W) (ho:(w.heap.size<=hb/\w.heap.size<=gw/\w.heap.size<=gm)/\(∀ b o,p2=some ⟨b,o,none⟩->w.heap.size<=b) /\ ∀ b o,p3=some ⟨b,o,none⟩->w.heap.size<=b) (k:∀ W',HAt W' ⟨hb,gw,gm,n,p2,c2,p3,c3⟩ S->Ext w W'->((w.heap.size<=hb/\w.heap.size<=gw/\w.heap.size<=gm)/\(∀ b o,p2=some ⟨b,o,none⟩->w.heap.size<=b) /\ ∀ b o,p3=some ⟨b,o,none⟩->w.heap.size<=b)->cd.wp P Q act W'):cd.wp P Q act W:=k W h e ho
def NewPost (w:World) (S:Hp.Hs) (e:Ending) (w':World):Prop:=∃ d:Hd,e = .returned (.tuple #[.pointer (some ⟨d.hb,0,none⟩),.int .i64 0])/\HAt w' d S/\(∀ b ∈ d.own,w.heap.size<=b)/\Ext w w'/\(∀ b o,d.sp=some ⟨b,o,none⟩->w.heap.size<=b) /\ ∀ b o,d.op=some ⟨b,o,none⟩->w.heap.size<=b
set_option maxRecDepth 100000 in
set_option maxHeartbeats 4000000 in
theorem New_any {d:Nat} {sizes order:List Int} (hs:SliceAt w p c sizes) (ho:SliceAt w q d order) (hp:0 < sizes.length \/ p=none) (hq:0 < order.length \/ q=none) (hol:order.length<=1000000) (hsl:sizes.length<=6) (hn:32<=n) (hn2:n<=40000) (he:Hp.newErr sizes order n=0) (hS:Hp.new sizes order n=some S) (hpos:∀ s ∈ sizes,1<=s/\s<=12) :
    Calls Tryz.prog 36 #[.slice p sizes.length c,.slice q order.length d,.int .i64 n] w (NewPost w S):=by
  have HC:=hZ (he ▸ hcheck_any (words:=(n:Int)) hs ho hq hol);have HS:=hZ hs;have HO:=hZ ho;clear hs ho he;unfold Hp.new at hS;simp only [Option.bind_eq_bind,Option.bind_eq_some_iff,Option.pure_def,Option.some.injEq] at hS;obtain ⟨W1,hW1,W2,hW2,rfl⟩:=hS;have EW1:=hZ hW1;have EW2:=hZ hW2;have EL1:=hZ ((HAt.wr_len hW1).1.trans (List.length_replicate (n:=n) (a:=(0:Int))));clear hW1 hW2;have mixed:Tryz.prog.follows .mixedOrders=true:=by kernel_rfl
  have hmm:=@run_makeMap Tryz.prog;have hmk:=run_make_row' (P:=Tryz.prog) 22 3 (.int .i64 0) 8 Tryz.underlying22 (show (Tryz.prog.info? 3).map (fun i=>(i.zero,i.size,i.bytes))=some (some (.int .i64 0),1,8) from by kernel_rfl) rfl .i64 .i64 n (by omega) (by omega);go_enter Tryz.func36,Tryz.ntmps36;go_upto_region 4 with (go_at_call 59;refine (HC.out).mono ?_;rintro e w1 ⟨rfl,hb1⟩;obtain ⟨hc1,hf1,hs1⟩:=hb1.cells)
  clear hc1 hf1 hs1
  go_region_with (first
   | (go_at_call_of 60 (Value.slice p sizes.length c);refine (sClone_any (HS.out.ext (exx)) hp (by omega)).mono ?_;rintro e w2 ⟨p2,c2,rfl,hR2,hb2,hg2⟩)
   | (go_at_call 60;refine (sClone_any (HO.out.ext (exx)) hq hol).mono ?_;rintro e w3 ⟨p3,c3,rfl,hR3,hb3,hg3⟩))
  all_goals
   go_upto_region 5 with (fail)
   have q2:=hb2.le;have q3:=hb3.le;have q1:=hb1.le
   (try simp at q2)
   (try simp at q3)
   refine new_cut (S:=⟨sizes,order,List.replicate n 0,[]⟩) (w:=w) (by rfl) (by rfl) ?hat ?ext ?low ?rest
   case ext=>exact exx
   case low=>
    refine ⟨⟨?_, ?_, ?_⟩,fun b o e=>?_,fun b o e=>?_⟩
    . omega
    . omega
    . omega
    . have h1:=hR2.far e
      (try simp at h1)
      omega
    have h1:=hR3.far e
    (try simp at h1)
    omega
   case hat=>
    exact
     { c0:=by go_simp
       c1:=by go_simp
       c2:=by simp only [List.length_replicate];go_simp
       c3:=by go_simp
       f2:=by go_simp
       sizes:=(hR2.at_).ext (exx)
       order:=(hR3.at_).ext (exx)
       words:=by
        first
         | (refine WordsAt.ext (made_at w1 n _ ?_) ?_
            . (simp;done)
            . exact exx)
         | (refine WordsAt.ext (made_at w2 n _ ?_) ?_
            . (simp;done)
            . exact exx)
         | (refine WordsAt.ext (made_at w3 n _ ?_) ?_
            . (simp;done)
            . exact exx)
         | (refine WordsAt.ext (made_at (w1.alloc (.map #[] 0)) n _ ?_) ?_
            . (simp;done)
            . exact exx)
         | (refine WordsAt.ext (made_at (w2.alloc (.map #[] 0)) n _ ?_) ?_
            . (simp;done)
            . exact exx)
         | (refine WordsAt.ext (made_at (w3.alloc (.map #[] 0)) n _ ?_) ?_
            . (simp;done)
            . exact exx)
       le:=by simp
       cap:=by show n<=9223372036854775807;omega
       map:=by
        first
         | (refine MapAt.ext (map_at w1 _ ?_) ?_
            . (simp;done)
            . exact exx)
         | (refine MapAt.ext (map_at w2 _ ?_) ?_
            . (simp;done)
            . exact exx)
         | (refine MapAt.ext (map_at w3 _ ?_) ?_
            . (simp;done)
            . exact exx)
         | (refine MapAt.ext (map_at (w1.alloc (.cells (madeCells #[.int .i64 0] n) 3)) _ ?_) ?_
            . (simp;done)
            . exact exx)
         | (refine MapAt.ext (map_at (w2.alloc (.cells (madeCells #[.int .i64 0] n) 3)) _ ?_) ?_
            . (simp;done)
            . exact exx)
         | (refine MapAt.ext (map_at (w3.alloc (.cells (madeCells #[.int .i64 0] n) 3)) _ ?_) ?_
            . (simp;done)
            . exact exx)
       below:=by simp
       apart1:=by simp only [ne_eq];omega
       apart2:=by simp only [ne_eq];omega
       apart3:=by simp only [ne_eq];omega
       far1:=fun b o e hm=>by
        have h1:=hR2.far e;have h2:=hR2.lt e
        (try simp at h1)
        simp only [Hd.own,List.mem_cons,List.not_mem_nil,or_false] at hm;omega
       far2:=fun b o e hm=>by
        have h1:=hR3.far e;have h2:=hR3.lt e
        (try simp at h1)
        simp only [Hd.own,List.mem_cons,List.not_mem_nil,or_false] at hm;omega
       pos:=hpos
       small:=by simp;omega
       few:=hsl
       old1:=fun b o e=>by
        have h2:=hR2.lt e;simp;omega
       old2:=fun b o e=>by
        have h2:=hR3.lt e;simp;omega }
   case rest=>
    clear hmm hmk hR2 hR3 hb1 hb2 hb3 hg2 hg3 q1 q2 q3;intro w9 H9 E9 lo;have N0:=hZ (Now.refl H9);have HE9:=hZ E9;have LO:=hZ lo;clear H9 E9 lo;have c2:=N0.out.len (List.length_replicate (n:=n) (a:=(0:Int)));obtain ⟨y1,hy1⟩:=rd_get (l:=List.replicate n (0:Int)) (j:=16) (by rw [List.length_replicate];omega);have g16:=N0.out.words.get hy1;have f16:=N0.out.words.froz 16;have N1:=hZ (N0.out.set EW1.out (by omega) (by omega));clear hy1;go_upto_region 6 with (fail)
    refine Now.cut N1.out ?_;clear N1 c2 g16 f16;intro w10 N1';have N1:=hZ N1';clear N1';have c2:=N1.out.len EL1.out;obtain ⟨y2,hy2⟩:=rd_get (l:=W1) (j:=18) (by rw [EL1.out];omega);have g18:=N1.out.words.get hy2;have f18:=N1.out.words.froz 18;have N2:=hZ (N1.out.set EW2.out (by omega) (by omega));clear hy2
    go_wp2_with fail
    go_ret2
    refine ⟨_,rfl,N2.out.toHAt,fun b hb=>?_,But.toExt HE9.out N2.out.but (fun b hb=>?_),LO.out.2.1,LO.out.2.2⟩
    all_goals
     have h1:=LO.out;simp only [Hd.own,List.mem_cons,List.not_mem_nil,or_false] at hb;omega
end Go.Proofs.YtdokmmhjmclmnaaGreat
