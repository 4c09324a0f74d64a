/-
  Part 6 of a proof: Shelf HFn18 HFn19 HFn20 HFn21 HFn27.
-/
import Derived.Deep.AppendLies
import Derived.Ground.GgzProg
import Derived.Ground.SlgmProg
import Derived.Lib.SliceRun
import Derived.Shelf.SlIterI.Nil
import Derived.Shelf.SortM.Plain
import Derived.Shelf.SortM.SortNone
import Derived.Test.YtdokmmhjmclmnaaGreatProg
import Derived.Test.YtdokmmhjmclmnaaGreatMV05
set_option linter.unusedSimpArgs false
set_option linter.unusedVariables false
set_option linter.unusedSectionVars false
set_option linter.unnecessarySimpa false
namespace Go.Proofs
open Go.Shelf
def Tryz.keysB_ren:Go.Shelf.Ren:=⟨fun | 7=>130 | 10=>171 | n=>n,fun | 23=>102 | 26=>3 | 3=>4 | 28=>145 | 0=>0 | 27=>144 | 33=>57 | 4=>4 | n=>n,fun | n=>n⟩
theorem Tryz.keysB:Go.Proofs.SlLaysZI.n7 Tryz.prog Tryz.keysB_ren:={
 mixed:=by kernel_rfl
 f7:=⟨Tryz.f130.name,by decide,Tryz.func130.trans (congrArg some (by kernel_rfl))⟩
 f10:=⟨Tryz.f171.name,by decide,Tryz.func171.trans (congrArg some (by kernel_rfl))⟩
 t0:=Tryz.underlying0
 a0:=Tryz.isAgg0
 z0:=Tryz.sizeOf0
 v0:=Tryz.zeroValue0
 t4:=Tryz.underlying4
 a4:=Tryz.isAgg4
 z4:=Tryz.sizeOf4
 v4:=Tryz.zeroValue4
 t23:=Tryz.underlying102
 a23:=Tryz.isAgg102
 z23:=Tryz.sizeOf102
 v23:=Tryz.zeroValue102
 t26:=Tryz.underlying3
 a26:=Tryz.isAgg3
 z26:=Tryz.sizeOf3
 v26:=Tryz.zeroValue3
 t27:=Tryz.underlying144
 a27:=Tryz.isAgg144
 z27:=Tryz.sizeOf144
 v27:=Tryz.zeroValue144
 t28:=Tryz.underlying145
 a28:=Tryz.isAgg145
 z28:=Tryz.sizeOf145
 v28:=Tryz.zeroValue145
 t33:=Tryz.underlying57
 a33:=Tryz.isAgg57
 z33:=Tryz.sizeOf57
 v33:=Tryz.zeroValue57 }
def Tryz.keysI_ren:Go.Shelf.Ren:=⟨fun | 7=>118 | 10=>164 | n=>n,fun | 23=>119 | 26=>3 | 3=>3 | 28=>145 | 0=>0 | 27=>144 | 33=>57 | 4=>4 | n=>n,fun | n=>n⟩
theorem Tryz.keysI:Go.Proofs.SlLaysZI.n7 Tryz.prog Tryz.keysI_ren:={
 mixed:=by kernel_rfl
 f7:=⟨Tryz.f118.name,by decide,Tryz.func118.trans (congrArg some (by kernel_rfl))⟩
 f10:=⟨Tryz.f164.name,by decide,Tryz.func164.trans (congrArg some (by kernel_rfl))⟩
 t0:=Tryz.underlying0
 a0:=Tryz.isAgg0
 z0:=Tryz.sizeOf0
 v0:=Tryz.zeroValue0
 t4:=Tryz.underlying4
 a4:=Tryz.isAgg4
 z4:=Tryz.sizeOf4
 v4:=Tryz.zeroValue4
 t23:=Tryz.underlying119
 a23:=Tryz.isAgg119
 z23:=Tryz.sizeOf119
 v23:=Tryz.zeroValue119
 t26:=Tryz.underlying3
 a26:=Tryz.isAgg3
 z26:=Tryz.sizeOf3
 v26:=Tryz.zeroValue3
 t27:=Tryz.underlying144
 a27:=Tryz.isAgg144
 z27:=Tryz.sizeOf144
 v27:=Tryz.zeroValue144
 t28:=Tryz.underlying145
 a28:=Tryz.isAgg145
 z28:=Tryz.sizeOf145
 v28:=Tryz.zeroValue145
 t33:=Tryz.underlying57
 a33:=Tryz.isAgg57
 z33:=Tryz.sizeOf57
 v33:=Tryz.zeroValue57 }
def Tryz.sortedA_ren:Go.Shelf.Ren:=⟨fun | 6=>117 | 8=>129 | 9=>163 | 11=>170 | 13=>184 | 12=>183 | 23=>209 | 24=>210 | 14=>200 | 15=>201 | 16=>202 | 17=>203 | 18=>204 | 19=>205 | 20=>206 | 21=>207 | 22=>208 | 25=>217 | 26=>218 | 27=>219 | 28=>220 | 29=>221 | 30=>222 | 31=>224 | n=>n,fun | 26=>3 | 28=>145 | 24=>22 | 0=>0 | 3=>3 | 37=>92 | 48=>91 | 50=>202 | 4=>4 | 40=>195 | 39=>194 | 45=>120 | 5=>5 | 9=>9 | 51=>205 | 55=>209 | 57=>212 | 58=>213 | 33=>57 | n=>n,fun | n=>n⟩
theorem Tryz.sortedA:Go.Proofs.SlLaysZI.n6 Tryz.prog Tryz.sortedA_ren:={
 mixed:=by kernel_rfl
 f6:=⟨Tryz.f117.name,by decide,Tryz.func117.trans (congrArg some (by kernel_rfl))⟩
 f8:=⟨Tryz.f129.name,by decide,Tryz.func129.trans (congrArg some (by kernel_rfl))⟩
 f11:=⟨Tryz.f170.name,by decide,Tryz.func170.trans (congrArg some (by kernel_rfl))⟩
 t0:=Tryz.underlying0
 a0:=Tryz.isAgg0
 z0:=Tryz.sizeOf0
 v0:=Tryz.zeroValue0
 t24:=Tryz.underlying22
 a24:=Tryz.isAgg22
 z24:=Tryz.sizeOf22
 v24:=Tryz.zeroValue22
 t26:=Tryz.underlying3
 a26:=Tryz.isAgg3
 z26:=Tryz.sizeOf3
 v26:=Tryz.zeroValue3
 t28:=Tryz.underlying145
 a28:=Tryz.isAgg145
 z28:=Tryz.sizeOf145
 v28:=Tryz.zeroValue145
 i26:=by kernel_rfl }
def Tryz.sortA_ren:Go.Shelf.Ren:=⟨fun | 5=>163 | 8=>184 | 7=>183 | 19=>209 | 20=>210 | 10=>200 | 11=>201 | 12=>202 | 13=>203 | 14=>204 | 15=>205 | 16=>206 | 17=>207 | 18=>208 | 30=>217 | 31=>218 | 32=>219 | 33=>220 | 34=>221 | 35=>222 | 40=>224 | n=>n,fun | 23=>22 | 25=>3 | 3=>3 | 32=>92 | 22=>22 | 0=>0 | 44=>91 | 46=>202 | 4=>4 | 36=>195 | 35=>194 | 41=>120 | 5=>5 | 9=>9 | 53=>205 | 57=>209 | 63=>212 | 64=>213 | n=>n,fun | n=>n⟩
theorem Tryz.sortA:Go.Proofs.SlLaysM.n5 Tryz.prog Tryz.sortA_ren:={
 mixed:=by kernel_rfl
 f5:=⟨Tryz.f163.name,by decide,Tryz.func163.trans (congrArg some (by kernel_rfl))⟩
 f7:=⟨Tryz.f183.name,by decide,Tryz.func183.trans (congrArg some (by kernel_rfl))⟩
 f8:=Tryz.func184.trans (congrArg some (by kernel_rfl))
 f10:=⟨Tryz.f200.name,by decide,Tryz.func200.trans (congrArg some (by kernel_rfl))⟩
 f11:=⟨Tryz.f201.name,by decide,Tryz.func201.trans (congrArg some (by kernel_rfl))⟩
 f12:=⟨Tryz.f202.name,by decide,Tryz.func202.trans (congrArg some (by kernel_rfl))⟩
 f13:=⟨Tryz.f203.name,by decide,Tryz.func203.trans (congrArg some (by kernel_rfl))⟩
 f14:=⟨Tryz.f204.name,by decide,Tryz.func204.trans (congrArg some (by kernel_rfl))⟩
 f15:=⟨Tryz.f205.name,by decide,Tryz.func205.trans (congrArg some (by kernel_rfl))⟩
 f16:=⟨Tryz.f206.name,by decide,Tryz.func206.trans (congrArg some (by kernel_rfl))⟩
 f17:=⟨Tryz.f207.name,by decide,Tryz.func207.trans (congrArg some (by kernel_rfl))⟩
 f18:=⟨Tryz.f208.name,by decide,Tryz.func208.trans (congrArg some (by kernel_rfl))⟩
 f19:=Tryz.func209.trans (congrArg some (by kernel_rfl))
 f20:=Tryz.func210.trans (congrArg some (by kernel_rfl))
 f30:=⟨Tryz.f217.name,by decide,Tryz.func217.trans (congrArg some (by kernel_rfl))⟩
 f31:=Tryz.func218.trans (congrArg some (by kernel_rfl))
 f32:=Tryz.func219.trans (congrArg some (by kernel_rfl))
 f33:=⟨Tryz.f220.name,by decide,Tryz.func220.trans (congrArg some (by kernel_rfl))⟩
 f34:=⟨Tryz.f221.name,by decide,Tryz.func221.trans (congrArg some (by kernel_rfl))⟩
 f35:=⟨Tryz.f222.name,by decide,Tryz.func222.trans (congrArg some (by kernel_rfl))⟩
 f40:=⟨Tryz.f224.name,by decide,Tryz.func224.trans (congrArg some (by kernel_rfl))⟩
 t0:=Tryz.underlying0
 a0:=Tryz.isAgg0
 z0:=Tryz.sizeOf0
 v0:=Tryz.zeroValue0
 t3:=Tryz.underlying3
 a3:=Tryz.isAgg3
 z3:=Tryz.sizeOf3
 v3:=Tryz.zeroValue3
 t4:=Tryz.underlying4
 a4:=Tryz.isAgg4
 z4:=Tryz.sizeOf4
 v4:=Tryz.zeroValue4
 t5:=Tryz.underlying5
 a5:=Tryz.isAgg5
 z5:=Tryz.sizeOf5
 v5:=Tryz.zeroValue5
 t9:=Tryz.underlying9
 a9:=Tryz.isAgg9
 z9:=Tryz.sizeOf9
 v9:=Tryz.zeroValue9
 t22:=Tryz.underlying22
 a22:=Tryz.isAgg22
 z22:=Tryz.sizeOf22
 v22:=Tryz.zeroValue22
 t23:=Tryz.underlying22
 a23:=Tryz.isAgg22
 z23:=Tryz.sizeOf22
 v23:=Tryz.zeroValue22
 t25:=Tryz.underlying3
 a25:=Tryz.isAgg3
 z25:=Tryz.sizeOf3
 v25:=Tryz.zeroValue3
 t32:=Tryz.underlying92
 a32:=Tryz.isAgg92
 z32:=Tryz.sizeOf92
 v32:=Tryz.zeroValue92
 t35:=Tryz.underlying194
 a35:=Tryz.isAgg194
 z35:=Tryz.sizeOf194
 v35:=Tryz.zeroValue194
 t36:=Tryz.underlying195
 a36:=Tryz.isAgg195
 z36:=Tryz.sizeOf195
 v36:=Tryz.zeroValue195
 t41:=Tryz.underlying120
 a41:=Tryz.isAgg120
 z41:=Tryz.sizeOf120
 v41:=Tryz.zeroValue120
 t44:=Tryz.underlying91
 a44:=Tryz.isAgg91
 z44:=Tryz.sizeOf91
 v44:=Tryz.zeroValue91
 t46:=Tryz.underlying202
 a46:=Tryz.isAgg202
 z46:=Tryz.sizeOf202
 v46:=Tryz.zeroValue202
 t53:=Tryz.underlying205
 a53:=Tryz.isAgg205
 z53:=Tryz.sizeOf205
 v53:=Tryz.zeroValue205
 t57:=Tryz.underlying209
 a57:=Tryz.isAgg209
 z57:=Tryz.sizeOf209
 v57:=Tryz.zeroValue209
 t63:=Tryz.underlying212
 a63:=Tryz.isAgg212
 z63:=Tryz.sizeOf212
 v63:=Tryz.zeroValue212
 t64:=Tryz.underlying213
 a64:=Tryz.isAgg213
 z64:=Tryz.sizeOf213
 v64:=Tryz.zeroValue213 }
end Go.Proofs
namespace Go.Proofs.YtdokmmhjmclmnaaGreat
variable {W' w w' w0 wb:World} {B a b base c cap ce cn f g gb i j k lb m n oc s sc:Nat} {choice t x:Int} {G W fs l o xs z:List Int} {S S':Hp.Hs} {A N T:List Nat} {M:List (Nat × Int)} {op p pe pn q sp:Option Addr} {d:Hd}
open Go.RowKit Go.Maps Go.Sort Go.Shelf
def natInts (T:List Nat):List Int:=T.map fun x:Nat=>(x:Int)
theorem natInts_length (T:List Nat):(natInts T).length=T.length:=by simp [natInts]
theorem intKeys_mapOf (T:List Nat):intKeys (mapOf T)=natInts T:=by
 simp only [intKeys,mapOf,natInts,List.map_map]
 rfl
theorem sorted_natInts {ss:List Int} (hs:T.Pairwise (· < ·)) (h:ss.Perm (natInts T)):ss.mergeSort (fun x y=>decide (x<=y))=natInts T:=by
 refine List.Perm.eq_of_pairwise (le:=fun a b:Int=>a<=b) (fun a b _ _ h1 h2=>by omega) ?_ ?_ ((List.mergeSort_perm _ _).trans h)
 . have:=List.pairwise_mergeSort (le:=fun x y:Int=>decide (x<=y)) (fun a b c h1 h2=>by simp at *;omega) (fun a b=>by simp;omega) ss;exact this.imp fun h=>by simpa using h
 unfold natInts
 rw [List.pairwise_map]
 exact hs.imp fun h=>by omega
theorem sortsA (m:Nat):AnyZI.SortsIn Tryz.prog Tryz.sortedA_ren Fence.wide m:=
 ⟨fun blk off cap ss W hH hblk hsz=>callsIn_wide.2 (AnyM.slices_Sort_int Tryz.sortA blk off cap ss W hH hblk hsz),
  fun p cap W=>callsIn_wide.2 (AnyM.slices_Sort_int_none Tryz.sortA p cap W)⟩
def SortedPost (w W:World) (T:List Nat) (e:Ending) (w':World):Prop:=∃ p c,e = .returned (.slice p T.length c)/\SliceAt w' p c (natInts T)/\(∀ b o,p=some ⟨b,o,none⟩->w.heap.size<=b)/\Ext W w'
theorem keysB_call (g:Nat) (W:World):Calls Tryz.prog 130 #[.map (some g)] W fun e w'=>e = .returned (.func (.func 171) #[] #[.pointer (some ⟨W.heap.size,0,none⟩)])/\w'=W.alloc (.cells #[.map (some g)] 102):=
 callsIn_wide.1 (AnyZI.keys_in Tryz.keysB Fence.wide 5 trivial rfl (some g) W)
theorem sortedB_call (h:MapAt Tryz.prog w g T) (hT:∀ x ∈ T,x < 1000000) :
    Calls Tryz.prog 117 #[.func (.func 171) #[] #[.pointer (some ⟨w.heap.size,0,none⟩)]] (w.alloc (.cells #[.map (some g)] 102)) (SortedPost w (w.alloc (.cells #[.map (some g)] 102)) T):=by
  have hbl:=h.lt;have hlen:=sorted_len h.sorted hT;have hown:=h.owns
  have hseq:SeqGives Fence.wide 2 Tryz.prog 171 #[.pointer (some ⟨w.heap.size,0,none⟩)] encZ (fun ss=>ss.Perm (intKeys (mapOf T))) (Maps.size (mapOf T)) (w.alloc (.cells #[.map (some g)] 102)):=
   AnyZI.keys_gives (ρ:=Tryz.keysB_ren) { Tryz.keysB with } Fence.wide _ trivial rfl (by omega) w.heap.size g T.length (mapOf T) _ (by simp) (by simp) (hown.alloc _)
  have cS:=AnyZI.sorted_in Tryz.sortedA Fence.wide 5 trivial trivial trivial trivial rfl (by omega) (sortsA _) (enters_of Tryz.func163 (by kernel_rfl) rfl) 171 #[.pointer (some ⟨w.heap.size,0,none⟩)] trivial (enters_of Tryz.func171 (by kernel_rfl) rfl) _ _ (by rw [size_mapOf];unfold maxLen;omega) (by rw [size_mapOf];omega) _ hseq;refine (callsIn_wide.1 cS).mono ?_;rintro e w' ⟨v,ss,rfl,hS,hrow,hnil,hb⟩;rw [intKeys_mapOf] at hS;rw [sorted_natInts h.sorted hS] at hrow;have hl:ss.length=T.length:=by rw [hS.length_eq,natInts_length]
  rw [hl] at hrow;have hbd:∀ x ∈ natInts T,-9223372036854775808<=x/\x<=9223372036854775807:=by
   intro x hx;obtain ⟨y,hy,rfl⟩:=List.mem_map.1 hx;have:=hT y hy;omega
  rcases hrow.2 with ⟨rfl,hz⟩ | ⟨gb,cap,cur,rfl,hbase,hgb,r1,r2,r3,r4⟩
  . have:T=[]:=List.eq_nil_of_length_eq_zero hz;subst this;exact ⟨none,0,rfl,⟨by simp [natInts],by omega,hbd,fun h=>by simp [natInts] at h⟩,by simp,hb⟩
  refine ⟨some ⟨gb,0,none⟩,cap,rfl,⟨?_, ?_,hbd,fun h0=>⟨gb,0,rfl,(Array.getElem?_eq_some_iff.1 hgb).1,fun j x hj=>?_⟩⟩,fun b o e=>by cases e;simp at hbase;omega,hb⟩
  . rw [natInts_length];omega
  . unfold maxLen at *;omega
  have hj2:((natInts T).map encZ)[j]? = some (.int .i64 x):=by
   unfold Hp.rd at hj;simp [hj,encZ]
  have:=hrow.cells (g:=gb) rfl j _ hj2;rw [Addr.add_lit] at this
  simpa using this
open Go.RowKit Go.Maps
def Row (w:World) (base:Nat) (p:Option Addr) (c:Nat) (l:List Int):Prop:=w.ownsRow base 3 1 (.slice p l.length c) l.length (ints l) /\ ∀ x ∈ l,-9223372036854775808<=x/\x<=9223372036854775807
namespace Row
variable {w w':World} {base c:Nat} {p:Option Addr} {l:List Int}
theorem nil (w:World) (base:Nat):Row w base none 0 []:=⟨World.ownsRow_nil w base _ _,by simp⟩
theorem at_ (h:Row w base p c l):SliceAt w p c l:=by
 rcases h.1.2 with ⟨e,hz⟩ | ⟨g,cap,cur,e,hb,hg,r1,r2,_,_⟩
 . injection e with e1 e2 e3
   have:l=[]:=List.eq_nil_of_length_eq_zero hz;subst this;exact ⟨by simp,by omega,by simp,fun h=>by simp at h⟩
 injection e with e1 e2 e3
 subst e1 e3
 refine ⟨r1,by unfold maxLen at r2;omega,h.2,fun _=>⟨g,0,rfl,(Array.getElem?_eq_some_iff.1 hg).1,fun j x hx=>?_⟩⟩
 have hj:(ints l)[j]? = some (.int .i64 x):=by
  unfold Hp.rd at hx;simp [ints,hx]
 have:=h.1.cells (g:=g) rfl j _ hj
 rw [Addr.add_lit] at this
 simpa using this
theorem but (h:Row w base p c l) {bs:List Nat} (k:But bs w w') (hb:∀ b ∈ bs,b < base):Row w' base p c l:=by
 refine ⟨⟨h.1.1, ?_⟩,h.2⟩
 rcases h.1.2 with e | ⟨g,cap,cur,e,h1,hg,r⟩
 . exact .inl e
 refine .inr ⟨g,cap,cur,e,h1, ?_,r⟩
 have hl:=(Array.getElem?_eq_some_iff.1 hg).1
 rw [k.block g hl (fun hm=>by have:=hb g hm;omega)]
 exact hg
theorem ext (h:Row w base p c l) (k:Ext w w'):Row w' base p c l:=h.but (But.ofExt (l:=[]) k) (by simp)
theorem far (h:Row w base p c l) {o:Nat} (e:p=some ⟨b,o,none⟩):base<=b:=by
 rcases h.1.2 with ⟨e',_⟩ | ⟨g,cap,cur,e',h1,_⟩
 . injection e' with e1
   rw [e] at e1
   cases e1
 injection e' with e1
 rw [e] at e1
 cases e1
 exact h1
end Row
theorem but_grow {bs:List Nat} {row:Option Nat} (h:But bs w0 w) (k:w.grownBy w' row) (hr:∀ g,row=some g->w0.heap.size<=g):But bs w0 w':=
 ⟨k.os.trans h.os,k.tape.trans h.tape,k.output.trans h.output,Nat.le_trans h.size k.size,fun i hi hn=>(k.block i (Nat.lt_of_lt_of_le hi h.size) (fun e=>by have:=hr i e.symm;omega)).trans (h.block i hi hn)⟩
theorem Now.grown {w1:World} {S0:Hp.Hs} {row:Option Nat} (h0:HAt w1 d S0) (hw:w0.heap.size<=w1.heap.size) (h:Now w0 w d S) (k:w.grownBy w' row) (hr:∀ g,row=some g->w1.heap.size<=g):Now w0 w' d S:=by
 have o:=h0.own_lt
 cases row with
 | none=>exact h.ext ⟨k.os,k.tape,k.output,k.size,fun i hi=>k.block i hi (by simp)⟩
 | some g=>
  have hg:=hr g rfl;have kb:But [g] w w':=but_grown k;have hh:=o _ d.hb_own;have hw':=o _ d.gw_own;have hm:=o _ d.gm_own;exact ⟨h.toHAt.but kb (by simp;omega) (by simp;omega) (by simp;omega) (fun b o' e=>by have:=h0.old1 b o' e;simp;omega) (fun b o' e=>by have:=h0.old2 b o' e;simp;omega),but_grow h.but k (fun g' e=>by have:=hr g' e;omega)⟩
theorem wpList_append_int {w:World} {ops:Array Oper} {rest:List Oper} {o:Oper} {a:Act} {Q:Exit->Act->World->Prop} (hgd:o.guard=none) (s x:Operand)
    (ho:o.op = .call { callee:=.builtin .append,args:=#[s,x],argTypes:=#[22,22] }) {base c b:Nat} {p:Option Addr} {l:List Int} {y:Int} (hs:a.eval s = .slice p l.length c) (hx:a.eval x = .slice (some ⟨b,0,none⟩) 1 1)
    (hrow:Row w base p c l) (hy:w.cell? ⟨b,0,none⟩=some (.int .i64 y)) (hy1 : -9223372036854775808<=y) (hy2:y<=9223372036854775807) (hlen:l.length < 10000000) (hbase:base<=w.heap.size)
    (h:∀ g cap w',Row w' base (some ⟨g,0,none⟩) cap (l ++ [y])->(∃ row,w.grownBy w' row /\ ∀ r,row=some r->base<=r)->wpList Tryz.prog ops Q rest (a.put o.dst (.slice (some ⟨g,0,none⟩) (l.length+1) cap)) w'):wpList Tryz.prog ops Q (o :: rest) a w:=by
  obtain ⟨i0,hi,hz0,hz1,hz2⟩:=info_parts (show (Tryz.prog.info? 3).map (fun i=>(i.zero,i.size,i.bytes))=some (some (.int .i64 0),1,8) from by kernel_rfl);refine wpList_append_lies w hgd s x 22 ho base 3 i0 (.int .i64 0) 1 8 Tryz.underlying22 hi hz0 hz1 hz2 rfl (by decide) _ _ _ hs hrow.1 ⟨b,0,none⟩ 1 1 [.int .i64 y] hx (by simp) (fun j u hj=>?_) (by simp [Value.oneCell']) (by omega) (by unfold maxLen;omega) (by omega) hbase _ rfl ?_
  . cases j with
    | zero=>
     simp at hj;subst hj;rw [Addr.add_lit];exact hy
    | succ j=>simp at hj
  intro g cap w' hown hgrow hor _;refine h g cap w' ⟨by simpa [ints] using hown,fun z hz=>?_⟩ ⟨_,hgrow,fun r hr=>?_⟩
  . rcases List.mem_append.1 hz with hz | hz
    . exact hrow.2 z hz
    have:z=y:=by simpa using hz
    subst this;exact ⟨hy1,hy2⟩
  cases p with
  | none=>simp [Value.ownBlock] at hr
  | some q=>
   have hr':q.block=r:=by simpa [Value.ownBlock] using hr
   subst hr'
   rcases hrow.1.2 with ⟨e,_⟩ | ⟨g',cap',cur,e,h1,_⟩
   . injection e with e1
     cases e1
   injection e with e1
   cases e1
   exact h1
theorem collect_some (h:S.collect=some (m,S')):∃ L S1 S2,S.live=some L/\S.unlink L=some S1/\Hp.Hs.unuse S1 (S1.taken.filter fun a=>!L.contains a)=some S2/\Hp.Hs.frees S2 (S1.taken.filter fun a=>!L.contains a)=some S'/\m=(S1.taken.filter fun a=>!L.contains a).length:=by
 unfold Hp.Hs.collect at h
 simp only [Option.bind_eq_bind,Option.bind_eq_some_iff,Option.some.injEq,Prod.mk.injEq] at h
 obtain ⟨L,hL,S1,h1,S2,h2,S3,h3,h4,rfl⟩:=h
 exact ⟨L,S1,S2,hL,h1,h2,h3,h4.symm⟩
theorem filter_take_succ {q:Nat->Bool} {x:Nat} (h:T[j]? = some x):(T.take (j+1)).filter q=(T.take j).filter q ++ (if q x then [x] else []):=by
 obtain ⟨hl,rfl⟩:=List.getElem?_eq_some_iff.1 h
 rw [List.take_succ_eq_append_getElem hl,List.filter_append]
 by_cases hq:q T[j] <;> simp [hq]
open Go.RowKit Go.Maps
theorem SliceAt.grown {row:Option Nat} (h:SliceAt w p c l) (k:w.grownBy w' row) (hr:∀ g,row=some g->B<=g) (hp:∀ b o,p=some ⟨b,o,none⟩->0 < l.length->b < B):SliceAt w' p c l:=by
 refine ⟨h.le,h.cap,h.wf,fun h0=>?_⟩
 obtain ⟨b,o,rfl,hb,hc⟩:=h.cells h0
 have hlt:=hp b o rfl h0
 refine ⟨b,o,rfl,Nat.lt_of_lt_of_le hb k.size,fun j x hx=>?_⟩
 have e:w'.heap[b]? = w.heap[b]? := k.block b hb (fun e=>by have:=hr b e.symm;omega)
 rw [<- hc j x hx]
 simp only [World.cell?,e]
theorem MapAt.grownAt {P:Program} {row:Option Nat} (h:MapAt P w g T) (k:w.grownBy w' row) (hr:∀ r,row=some r->B<=r) (hg:g < B):MapAt P w' g T:=
 h.ofBlock (k.block g h.lt (fun e=>by have:=hr g e.symm;omega))
theorem natInts_get {x:Nat} (h:T[j]? = some x):Hp.rd (natInts T) j=some (x:Int):=by simp [Hp.rd,natInts,h]
theorem use_len {by':Int}:∀ {n j:Nat} {W W':List Int},Hp.Hs.use by' n j W=some W'->W'.length=W.length
 | 0,_,W,W',h=>by
  have:W=W':=by simpa [Hp.Hs.use] using h
  rw [this]
 | n+1,j,W,W',h=>by
  obtain ⟨k,v,W1,_,_,h1,h2⟩:=use_succ h;rw [use_len h2,(HAt.wr_len h1).1]
theorem unuse_cons {r:List Nat} (h:Hp.Hs.unuse S (a :: r)=some S'):∃ ks W,S.kids a=some ks/\Hp.Hs.use (-1) ks.length (a+4) S.words=some W/\Hp.Hs.unuse { S with words:=W } r=some S':=by
 simp only [Hp.Hs.unuse,Option.bind_eq_bind,Option.bind_eq_some_iff] at h
 obtain ⟨ks,hk,W,hW,h⟩:=h
 exact ⟨ks,W,hk,hW,h⟩
theorem frees_cons {r:List Nat} (h:Hp.Hs.frees S (a :: r)=some S'):∃ S1,S.free a=some S1/\Hp.Hs.frees S1 r=some S':=by
 simp only [Hp.Hs.frees,Option.bind_eq_bind,Option.bind_eq_some_iff] at h
 exact h
set_option maxRecDepth 100000 in
set_option maxHeartbeats 16000000 in
theorem collect_any (h:HAt w d S) (hr:S.collect=some (m,S')) :
    Calls Tryz.prog 111 #[.pointer (some ⟨d.hb,0,none⟩)] w (Turned d w (.int .i64 m) S'):=by
  obtain ⟨L,S1,S2,hL,hU,hN,hF,hm⟩:=collect_some hr;have HM:=hZ hm;clear hm;have H:=hZ (Now.refl h);have HL:=hZ hL;have HU:=hZ hU;have HN:=hZ hN;have HF:=hZ hF;have OWN:=hZ h.own_lt;clear h hr hL hU hN hF;go_enter Tryz.func111,Tryz.ntmps111
  go_upto_region 4 with (first
   | (go_at_call 73;refine (live_any H.out.toHAt HL.out).mono ?_;rintro e w1 ⟨gl,rfl,hgl,ML,E1⟩)
   | (go_at_call 160;refine (unlink_any (H.out.toHAt.ext E1) ML (fun hm=>by have:=OWN.out _ hm;omega) HU.out).mono ?_;rintro e w2 ⟨rfl,hA2,hB2⟩))
  have N2:=hZ (Now.mk hA2 ((But.ofExt E1).trans hB2));have ML2:=hZ (ML.but hB2 (fun hm=>by have:=OWN.out _ hm;omega));have c3:=N2.out.c3;clear hA2 hB2 ML E1;have sm:=N2.out.small;have TL:=hZ N2.out.taken_len;have TB:=hZ (fun x (hx:x ∈ S1.taken)=>(by have:=N2.out.below x hx;omega:x < 1000000));have tl:=TL.out;generalize hT:S1.taken=T at tl;have ET:=hZ hT;clear hT;have MAPT:=hZ (ET.out ▸ N2.out.map)
  go_wp2_with (first
   | (go_at_call 130;refine (keysB_call _ _).mono ?_;rintro e w3 ⟨rfl,rfl⟩)
   | (go_at_call 117;refine (sortedB_call MAPT.out (fun x hx=>TB.out x (by rw [ET.out];exact hx))).mono ?_;rintro e w4 ⟨ps,cs,rfl,SS,far4,E4⟩))
  have E24:Ext w2 w4:=Ext.trans (Ext.alloc (Ext.refl _) _) E4;have N4:=hZ (N2.out.ext E24);have SS4:=hZ SS;have ML4:=hZ (ML2.out.ext E24)
  have PSB:=hZ (fun b o (e:ps=some ⟨b,o,none⟩) (h0:0 < (natInts T).length)=>(by
   obtain ⟨b',o',e',hb,_⟩:=SS.cells h0;rw [e] at e'
   cases e'
   exact hb:b < w4.heap.size))
  have GLB:=ML4.out.lt;have WB:w.heap.size<=w4.heap.size:=N4.out.but.size;have NB:=hZ N4.out;clear c3 far4 SS E4 E24 ML2 MAPT N2 H HL HU;obtain ⟨B,hB⟩:∃ B,w4.heap.size=B:=⟨_,rfl⟩
  have EB:=hZ hB;rw [hB] at GLB WB;have sB:B<=w4.heap.size:=by omega
  clear hB
  go_loopg [4,25] T.length (fun g s4 i wr=>∃ (j:Nat) (p:Option Addr) (c:Nat) (l:List Int),j<=T.length/\T.length-j<=g/\i = .int .i64 j/\s4 = .slice p l.length c/\Hid (l=natInts ((T.take j).filter fun a=>!L.contains a))/\Hid (Now w wr d S1)/\Hid (Row wr B p c l)/\Hid (SliceAt wr ps cs (natInts T))/\Hid (MapAt Tryz.prog wr gl L)/\B<=wr.heap.size)
  case atStart=>exact ⟨0,none,0,[],Nat.zero_le _,by omega,rfl,rfl,hZ rfl,N4,hZ (Row.nil _ _),SS4,ML4,sB⟩
  case round=>
   obtain ⟨j,p,c,l,hj,hg,rfl,rfl,HLL,N,R,SP,M,hBw⟩:=hrel;clear N4 SS4 ML4 sB
   by_cases hlt:j < T.length
   . obtain ⟨x,hx⟩:∃ x,T[j]? = some x:=⟨T[j],List.getElem?_eq_getElem hlt⟩
     have hxT:x < 1000000:=TB.out x (by rw [ET.out];exact List.mem_of_getElem? hx);obtain ⟨b,o,hps,hb,hcell⟩:=SP.out.cells (by rw [natInts_length];omega);have gx:=hcell j x (natInts_get hx);have hlk:=M.out.look (t:=102) Tryz.underlying3 Tryz.underlying4 Tryz.underlying102 (Tryz.zeroValue4 _) (x:=x) (by omega) (by omega);rw [hasLit_int] at hlk;have HX:=hZ hx;have hln:l.length<=j:=by
      rw [HLL.out,natInts_length];have:=List.length_filter_le (fun a=>!L.contains a) (T.take j);have h2:=List.length_take_le j T;omega
     have tk:decide ((j:Int) < (T.length:Int))=true:=by simpa using (by omega:(j:Int) < (T.length:Int))
     clear hcell hx;subst hps;have scs:=SP.out.le;have scc:=SP.out.cap;rw [natInts_length] at scs
     cases hc:L.contains x with
     | true=>
      rw [hc] at hlk;have HC:=hZ hc;clear hc
      go_wp2_with fail
      go_roundg (T.length-(j+1))
      case measure=>omega
      case rel=>
       refine ⟨j+1,p,c,l,by omega,Nat.le_refl _,by go_num,rfl,hZ ?_,N,R,SP,M,hBw⟩;rw [filter_take_succ HX.out,HC.out,HLL.out];simp
     | false=>
      rw [hc] at hlk;have HC:=hZ hc;clear hc;have RA:=hZ (R.out.ext (Ext.alloc (Ext.refl _) (.cells #[.int .i64 x] 3)))
      go_wp2_with (at_builtin;refine wpList_append_int rfl _ _ rfl (y:=(x:Int)) rfl rfl RA.out (by go_simp) (by omega) (by omega) (by omega) (by simp;omega) ?_;intro g8 c8 x8 hR8 hG8)
      obtain ⟨row,hgr,hrow⟩:=id hG8;have NE:=N.out.ext (Ext.alloc (Ext.refl _) (.cells #[.int .i64 x] 3));have SE:=SP.out.ext (Ext.alloc (Ext.refl _) (.cells #[.int .i64 x] 3));have ME:=M.out.ext (Ext.alloc (Ext.refl _) (.cells #[.int .i64 x] 3));have hrow':∀ g,row=some g->w4.heap.size<=g:=fun g e=>by rw [EB.out];exact hrow g e
      go_roundg (T.length-(j+1))
      case measure=>omega
      case rel=>
       refine ⟨j+1,_,c8,l ++ [(x:Int)],by omega,Nat.le_refl _,by go_num,by simp,hZ ?_,hZ (Now.grown NB.out.toHAt (by rw [EB.out];exact WB) NE hgr hrow'),hZ hR8,hZ (SE.grown hgr hrow (fun b o e h0=>by rw [<- EB.out];exact PSB.out b o e h0)),hZ (ME.grownAt hgr hrow GLB), ?_⟩
       . rw [filter_take_succ HX.out,HC.out,HLL.out];simp [natInts]
       have:=hgr.size;simp at this;omega
   have:j=T.length:=by omega
   subst this;have HLT:=HLL.out;rw [List.take_length] at HLT;obtain ⟨dead,hdead⟩:∃ dead,(T.filter fun a=>!L.contains a)=dead:=⟨_,rfl⟩
   rw [hdead] at HLT;have HN':=hZ HN.out;have HF':=hZ HF.out;rw [ET.out,hdead] at HN' HF';obtain rfl:m=dead.length:=by rw [HM.out,ET.out,hdead]
   clear HM;have dlen:dead.length<=1000000:=by
    rw [<- hdead];have:=List.length_filter_le (fun a=>!L.contains a) T;omega
   have DB:∀ x ∈ dead,x < 1000000:=fun x hx=>TB.out x (by
    rw [ET.out];rw [<- hdead] at hx;exact (List.mem_filter.1 hx).1)
   have DBH:=hZ DB;have FARP:=hZ (fun b o (e:p=some ⟨b,o,none⟩)=>R.out.far e);have RS:=hZ R.out.at_;subst HLT;have ND:(natInts dead).length=dead.length:=natInts_length dead;have EWN:S1.words.length<=1000000:=N.out.small;obtain ⟨n,hn⟩:∃ n,S1.words.length=n:=⟨_,rfl⟩
   have EN:=hZ hn;rw [hn] at EWN;have OWNB:=hZ OWN.out;clear HLL hdead DB HN HF SP M GLB hn;rw [ND];have EDL:=hZ ND;clear ND
   go_wp2_with fail
   go_loopg [40] dead.length (fun g i wr=>∃ (j:Nat) (W:List Int),j<=dead.length/\dead.length-j<=g/\i = .int .i64 j/\Hid (Now w wr d { S1 with words:=W })/\Hid (Hp.Hs.unuse { S1 with words:=W } (dead.drop j)=some S2)/\Hid (SliceAt wr p c (natInts dead))/\Hid (W.length=n))
   case atStart=>exact ⟨0,S1.words,by omega,by omega,rfl,N,HN',RS,EN⟩
   case round=>
    obtain ⟨j,W,hj,hg,rfl,NW,HUS,RW,EW⟩:=hrel;clear N RS R HN'
    by_cases hlt2:j < dead.length
    . obtain ⟨x,hx⟩:∃ x,dead[j]? = some x:=⟨dead[j],List.getElem?_eq_getElem hlt2⟩
      have hus:=HUS.out;rw [List.drop_eq_getElem_cons hlt2] at hus;have hxj:dead[j]=x:=by
       rw [List.getElem?_eq_getElem hlt2] at hx;exact Option.some.inj hx
      rw [hxj] at hus;obtain ⟨ks,W1,hks,huse,hus⟩:=unuse_cons hus;obtain ⟨t',ht',hkq⟩:=kids_some hks;obtain ⟨b2,o2,hps2,hb2,hcell2⟩:=RW.out.cells (by rw [EDL.out];omega);have gx2:=hcell2 j x (natInts_get hx);have HKS:=hZ hks;have HT':=hZ ht';have HKQ:=hZ hkq;have HUSE:=hZ huse;have HUS2:=hZ hus;have EW1:=hZ ((use_len huse).trans EW.out);have ksm:ks.length<=1000000:=by
       rcases hkq with ⟨_,rfl⟩ | ⟨_,hf'⟩
       . simp
       obtain ⟨_,q,_,_,h4,h5,_⟩:=fields_some hf';have:=NW.out.small;simp only at h5 this;omega
      have tk2:decide ((j:Int) < (dead.length:Int))=true:=by simpa using (by omega:(j:Int) < (dead.length:Int))
      have scs2:=RW.out.le;have scc2:=RW.out.cap;rw [EDL.out] at scs2;clear hx hus hxj hks huse ht' hkq hcell2 HUS;subst hps2
      go_wp2_with (go_at_call 80;refine (kids_any NW.out.toHAt HT'.out HKS.out).mono ?_;rintro e w1 ⟨rfl,hb1⟩;obtain ⟨hc1,hf1,hs1⟩:=hb1.cells)
      have NK:=hZ (NW.out.ext hb1);have RK:=hZ (RW.out.ext hb1);generalize hpk:kp d x t'=pk;have HPK:=hZ hpk;clear hpk hb1 hc1 hf1 hs1 NW RW tk2 gx2
      go_loopg [48] ks.length (fun g i wx=>∃ (q:Nat) (V:List Int),q<=ks.length/\ks.length-q<=g/\i = .int .i64 q/\Hid (Now w wx d { S1 with words:=V })/\Hid (Hp.Hs.use (-1) (ks.length-q) (x+4+q) V=some W1)/\Hid (V.length=n)/\Hid (SliceAt wx (some ⟨b2,o2,none⟩) c (natInts dead)))
      case atStart=>exact ⟨0,W,Nat.zero_le _,by omega,rfl,NK,HUSE,EW,RK⟩
      case round=>
       obtain ⟨q,V,hq,hg,rfl,NV,HU3,HV,RV⟩:=hrel;clear NK RK
       by_cases hlt3:q < ks.length
       . obtain rfl:pk=some ⟨d.gw,x+4,none⟩:=by
           rw [<- HPK.out]
           rcases HKQ.out with ⟨_,rfl⟩ | ⟨he,_⟩
           . simp at hlt3
           simp [kp,he]
         have hu:=HU3.out;rw [show ks.length-q=(ks.length-(q+1))+1 by omega] at hu;obtain ⟨kid,v,V1,h1,h2,h3,h4⟩:=use_succ hu;obtain ⟨h2,v1,v2⟩:=rc_some h2;have g1:=NV.out.words.get (ra_some h1);have g2:=NV.out.words.get h2;have f1:=NV.out.words.froz (kid+1);have c2:=NV.out.len HV.out;have hcap:=NV.out.cap;have hle:=NV.out.le;simp only [HV.out] at hle;have l2:=rd_lt h2;rw [HV.out] at l2;have NV1:=hZ (NV.out.set h3 (by omega) (by omega));have HV1:=hZ ((HAt.wr_len h3).1.trans HV.out);have HU1:=hZ h4;have own2:=OWNB.out _ d.gw_own;have fp:=FARP.out b2 o2 rfl;have RV1:=hZ (RV.out.but ((But.refl [d.gw] _).setCell (p:=⟨d.gw,kid+1,none⟩) (.inl (by simp)) (.int .i64 (v + -1))) (fun b o e=>by cases e;simp;omega));have ap:=NV.out.apart1;have ap':=NV.out.apart1.symm;clear hu h1 h2 h3 h4 NV HU3 HV RV own2 fp
         go_wp2_with fail
         go_roundg (ks.length-(q+1))
         case measure=>omega
         case rel=>exact ⟨q+1,V1,by omega,Nat.le_refl _,by go_num,NV1,HU1,HV1,RV1⟩
       have:q=ks.length:=by omega
       subst this;have hu:=HU3.out;rw [Nat.sub_self] at hu;obtain rfl:V=W1:=by simpa [Hp.Hs.use] using hu
       clear hu HU3
       go_wp2_with fail
       go_roundg (dead.length-(j+1))
       case measure=>omega
       case rel=>exact ⟨j+1,V,by omega,Nat.le_refl _,by go_num,NV,HUS2,RV,HV⟩
    have:j=dead.length:=by omega
    subst this;have hus:=HUS.out;rw [List.drop_length] at hus;obtain rfl:({ S1 with words:=W }:Hp.Hs)=S2:=by simpa [Hp.Hs.unuse] using hus
    clear hus HUS
    go_wp2_with fail
    go_loopg [66] dead.length (fun g i wx=>∃ (j:Nat) (Sx:Hp.Hs),j<=dead.length/\dead.length-j<=g/\i = .int .i64 j/\Hid (Now w wx d Sx)/\Hid (Hp.Hs.frees Sx (dead.drop j)=some S')/\Hid (SliceAt wx p c (natInts dead)))
    case atStart=>exact ⟨0,_,Nat.zero_le _,by omega,rfl,NW,HF',RW⟩
    case round=>
     obtain ⟨j,Sx,hj,hg,rfl,NX,HFX,RX⟩:=hrel;clear NW RW HF'
     by_cases hlt4:j < dead.length
     . obtain ⟨x,hx⟩:∃ x,dead[j]? = some x:=⟨dead[j],List.getElem?_eq_getElem hlt4⟩
       have hfx:=HFX.out;rw [List.drop_eq_getElem_cons hlt4] at hfx;have hxj:dead[j]=x:=by
        rw [List.getElem?_eq_getElem hlt4] at hx;exact Option.some.inj hx
       rw [hxj] at hfx;obtain ⟨S3,hfr,hfx⟩:=frees_cons hfx;obtain ⟨b2,o2,hps2,hb2,hcell2⟩:=RX.out.cells (by rw [EDL.out];omega);have gx2:=hcell2 j x (natInts_get hx);have HFR:=hZ hfr;have HFX2:=hZ hfx;have scs2:=RX.out.le;have scc2:=RX.out.cap;rw [EDL.out] at scs2;clear hx hfx hxj hfr hcell2 HFX;subst hps2
       go_wp2_with (go_at_call 161;refine (free_any NX.out.toHAt HFR.out).mono ?_;rintro e w5 ⟨rfl,hA5,hB5⟩)
       go_roundg (dead.length-(j+1))
       case measure=>omega
       case rel=>exact ⟨j+1,S3,by omega,Nat.le_refl _,by go_num,hZ (Now.mk hA5 (NX.out.but.trans hB5)),HFX2,hZ (RX.out.but hB5 (fun b o e hm=>by
        have h1:=OWNB.out b hm;have h2:=FARP.out b o e;omega))⟩
     have:j=dead.length:=by omega
     subst this;have hfx:=HFX.out;rw [List.drop_length] at hfx;obtain rfl:Sx=S':=by simpa [Hp.Hs.frees] using hfx
     clear hfx HFX
     go_wp2_with fail
     go_returns;exact NX.out.done
theorem Collect_any (h:HAt w d S) (hr:S.collect=some (m,S')) :
    Calls Tryz.prog 47 #[.pointer (some ⟨d.hb,0,none⟩)] w (Turned d w (.tuple #[.int .i64 m,.int .i64 0]) S'):=by
  have H:=hZ (Now.refl h);have HR:=hZ hr;clear h hr;go_enter Tryz.func47,Tryz.ntmps47
  go_wp2_with (first
   | (go_at_call 72;refine (isMade_yes H.out.toHAt).mono ?_;rintro e w1 ⟨rfl,hb1⟩;obtain ⟨hc1,hf1,hs1⟩:=hb1.cells)
   | (go_at_call 111;refine (collect_any (H.out.ext hb1).toHAt HR.out).mono ?_;rintro e w2 ⟨rfl,hA2,hB2⟩))
  go_ret2
  exact ⟨rfl,hA2,(But.ofExt hb1).trans hB2⟩
def ClonePost (w:World) (l:List Int) (e:Ending) (w':World):Prop:=∃ p c,e = .returned (.slice p l.length c)/\Row w' w.heap.size p c l/\Ext w w'/\(0 < l.length -> ∃ g,p=some ⟨g,0,none⟩)
theorem sClone_any (h:SliceAt w p c l) (hp:0 < l.length \/ p=none) (hl:l.length<=1000000) :
    Calls Tryz.prog 60 #[.slice p l.length c] w (ClonePost w l):=by
  by_cases h0:0 < l.length
  . obtain ⟨b,o,rfl,hb,hc⟩:=h.cells h0;obtain ⟨i0,hi,hz0,hz1,hz2⟩:=info_parts (show (Tryz.prog.info? 3).map (fun i=>(i.zero,i.size,i.bytes))=some (some (.int .i64 0),1,8) from by kernel_rfl);have q22:∀ (w:World) (a:Option Addr) (n c n' c':Nat),(binOp .eql 22 (.slice a n c) (.slice none n' c')).run Tryz.prog w = .ok (.bool a.isNone) w:=fun w a n c n' c'=>Lib.run_eql_slice_nil w _ _ a n c n' c' Tryz.underlying22
    have HC:=hZ hc;have WF:=hZ h.wf;have L0:=hZ h0;clear h hc h0;go_enter Tryz.func60,Tryz.ntmps60
    go_wp2_with (at_builtin;refine wpList_append_own _ rfl _ _ 22 rfl w.heap.size 3 i0 (.int .i64 0) 1 8 Tryz.underlying22 hi hz0 hz1 hz2 rfl (by decide) _ _ _ rfl (World.ownsRow_made w #[] 0 (Nat.le_refl _) (Nat.zero_le _) rfl) ⟨b,o,none⟩ l.length c (ints l) rfl ?qc1 ?qc2 ?qc3 ?qc4 ?qc5 ?qc6 ?_)
    case qc1=>simp [ints]
    case qc2=>
     intro j u hj;obtain ⟨hj1,hj2⟩:=List.getElem?_eq_some_iff.1 hj;have hj3:j < l.length:=by simpa [ints] using hj1
     rw [Addr.add_lit];refine Lib.cell?_alloc_some _ ?_;rw [HC.out j l[j] (List.getElem?_eq_getElem hj3),<- hj2];simp [ints]
    case qc3=>intro u hu;obtain ⟨x,_,rfl⟩:=List.mem_map.1 hu;rfl
    case qc4=>unfold maxLen;omega
    case qc5=>omega
    case qc6=>simp
    intro v' w1 hown hgrow hnil;go_wp2;go_returns;have hn:=L0.out
    rcases hown.2 with ⟨rfl,hz⟩ | ⟨g,cap,cur,rfl,h1,h2⟩
    . omega
    refine ⟨some ⟨g,0,none⟩,cap,by simp,⟨by simpa using hown,WF.out⟩, ?_,fun _=>⟨g,rfl⟩⟩;exact ((Below.refl _ w).alloc (Nat.le_refl _) _).grown hgrow (by simp) (by intro k hk;simp [Value.ownBlock] at hk;omega)
  have hl0:l=[]:=List.eq_nil_of_length_eq_zero (by omega);subst hl0;have hn:p=none:=by
   rcases hp with hp | hp
   . simp at hp
   exact hp
  subst hn;have q22:∀ (w:World) (a:Option Addr) (n c n' c':Nat),(binOp .eql 22 (.slice a n c) (.slice none n' c')).run Tryz.prog w = .ok (.bool a.isNone) w:=fun w a n c n' c'=>Lib.run_eql_slice_nil w _ _ a n c n' c' Tryz.underlying22
  clear h hp h0;go_enter Tryz.func60,Tryz.ntmps60;go_wp2;go_returns;exact ⟨none,0,rfl,Row.nil _ _,exx,fun h=>by simp at h⟩
theorem Words_nil (w:World):Calls Tryz.prog 20 #[.pointer none] w fun e w'=>e = .returned (.tuple #[.slice none 0 0,.int .i64 1])/\Ext w w':=by
 go_enter Tryz.func20,Tryz.ntmps20
 go_wp2_with (go_at_call 72;refine (isMade_nil _).mono ?_;rintro e w1 ⟨rfl,hb1⟩;obtain ⟨hc1,hf1,hs1⟩:=hb1.cells)
 go_ret2
 exact ⟨rfl,exx⟩
def WordsPost (w:World) (l:List Int) (e:Ending) (w':World):Prop:=∃ g c,e = .returned (.tuple #[.slice (some ⟨g,0,none⟩) l.length c,.int .i64 0])/\Row w' w.heap.size (some ⟨g,0,none⟩) c l/\Ext w w'
theorem words_at (h:HAt w d S):SliceAt w (some ⟨d.gw,0,none⟩) d.cap S.words:=
 ⟨h.le,h.cap,h.words.wf,fun _=>⟨d.gw,0,rfl,h.words.lt,fun j x hx=>by rw [Nat.zero_add];exact h.words.get hx⟩⟩
theorem Words_any (h:HAt w d S) (h0:0 < S.words.length):Calls Tryz.prog 20 #[.pointer (some ⟨d.hb,0,none⟩)] w (WordsPost w S.words):=by
 have H:=hZ h
 have sm:=h.small
 have L0:=hZ h0
 clear h h0
 go_enter Tryz.func20,Tryz.ntmps20
 go_wp2_with (first
  | (go_at_call 72;refine (isMade_yes H.out).mono ?_;rintro e w1 ⟨rfl,hb1⟩;obtain ⟨hc1,hf1,hs1⟩:=hb1.cells;have c2:=(H.out.ext hb1).c2)
  | (go_at_call 60;refine (sClone_any (words_at (H.out.ext hb1)) (.inl L0.out) sm).mono ?_;rintro e w2 ⟨p2,c2',rfl,hR,hE,hg⟩))
 obtain ⟨g,rfl⟩:=hg L0.out
 go_ret2
 refine ⟨g,c2',rfl,⟨?_,hR.2⟩,hb1.trans hE⟩
 have hle:=hb1.le
 rcases hR.1 with ⟨e1,e2⟩
 refine ⟨e1, ?_⟩
 rcases e2 with e | ⟨g',cap,cur,e,h1,h2⟩
 . exact .inl e
 exact .inr ⟨g',cap,cur,e,by omega,h2⟩
theorem ctake_any (h:HAt w d S) (hr:S.live=some T) :
    Calls Tryz.prog 74 #[.agg #[.func (.func 73) #[] #[]],.pointer (some ⟨d.hb,0,none⟩)] w fun e w'=>e = .returned (.int .i64 T.length)/\Ext w w':=by
  have H:=hZ h;have HR:=hZ hr;clear h hr;go_enter Tryz.func74,Tryz.ntmps74
  go_wp2_with fail
  refine (live_any (H.out.ext (exx)) HR.out).mono ?_;rintro e w1 ⟨g,rfl,hg,HM,hb1⟩;have hl:=fun ty=>HM.len (t:=102) Tryz.underlying102 ty
  have HMH:=hZ HM;have z0:w.heap.size < w1.heap.size:=by have h:=hb1.le;simp at h;omega
  clear HM
  go_wp2_with fail
  refine bodyPost_ret (v:=.int .i64 T.length) (by simp [results,Tryz.results74,go_sem, *]) rfl ⟨rfl,exx⟩
end Go.Proofs.YtdokmmhjmclmnaaGreat
