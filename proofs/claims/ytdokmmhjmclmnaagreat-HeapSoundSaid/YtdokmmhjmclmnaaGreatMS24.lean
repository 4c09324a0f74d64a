/-
  Part 24 of a proof: RP3 RP4 RP5 RP6 RP7.
-/
import Derived.Test.YtdokmmhjmclmnaaGreatMS18
set_option linter.unusedSimpArgs false
set_option linter.unusedVariables false
set_option linter.unusedSectionVars false
set_option linter.unnecessarySimpa false
namespace Go.Proofs.YtdokmmhjmclmnaaGreat
variable {W' w w' w0:World} {B a b base c ca cap f g i j k k1 k2 lb n oc qc sb sc:Nat} {choice e t x:Int} {A V W fs l o z:List Int} {D T Y:List Nat} {op p p1 p2 pa q sp:Option Addr} {d:Hd} {S S':Hp.Hs} {r:Rd} {L:List Hp.Tl} {M:List (Nat × Int)} {s s' s1:Hp.Sc} {acts:List Hp.Act'} {c0 c1:Value}
open Go.RowKit Go.Maps
theorem pick_app (b:Bool) (P Q:List Hp.Tl):pick b (P ++ Q)=pick b P ++ pick b Q:=by simp [pick]
theorem pick_rd (hj:j < (pick true L).length):∃ u ∈ L,u.fr=true/\Hp.rd (pick true L) j=some (u.a:Int):=by
 unfold pick at hj ⊢
 rw [List.length_map] at hj
 have hm:=List.getElem_mem hj
 rw [List.mem_filter] at hm
 refine ⟨_,hm.1,by simpa using hm.2, ?_⟩
 unfold Hp.rd
 rw [List.getElem?_map,List.getElem?_eq_getElem hj]
 rfl
set_option maxRecDepth 100000 in
set_option maxHeartbeats 8000000 in
theorem rTake_none {ch:Nat->List Nat} (h:RW w r S) (hw:Hp.Wf S B L ch) {wd:Nat} (h16:wd<=16) (hno:∀ u ∈ L,u.fr=true -> ¬ Hp.Fits wd u) :
    Calls Tryz.prog 182 #[.pointer (some ⟨r.rb,0,none⟩),.int .i64 wd] w fun e w'=>e = .returned (.int .i64 0)/\Ext w w':=by
  have FREE:=hZ (rFree h.at_ hw.fr.toFr hw.hi hw.parts);have HP:=hZ hw.parts;have H:=hZ h;have HNO:=hZ hno;have hi:=hw.hi;have hle:=h.le;have hcap:=h.cap;have plen:=pick_len true L;have hLn:=Hp.lay_len_ hw.parts.lay;obtain ⟨n,hn⟩:∃ n,S.words.length=n:=⟨_,rfl⟩
  have EN:=hZ hn;obtain ⟨m,hm⟩:∃ m,(pick true L).length=m:=⟨_,rfl⟩
  have EM:=hZ hm;have z1:=h.lt;have z2:=h.words.lt;have c2:=h.c2;rw [hn] at hi hle hLn c2;rw [hm] at plen;clear h hw hno hn hm;go_enter Tryz.func182,Tryz.ntmps182
  go_wp2_with (go_at_call 84;refine FREE.out.mono ?_;rintro e w1 ⟨p,c,rfl,hR,hE⟩;rw [EM.out];have RR:=hZ hR.at_;have E1:=hZ hE)
  clear hR hE FREE;have lle:=RR.out.le;have lcap:=RR.out.cap;rw [EM.out] at lle
  go_loopg [6] m (fun g i wr=>∃ j:Nat,j<=m/\m-j<=g/\i = .int .i64 j/\Hid (Ext w1 wr))
  case atStart=>exact ⟨0,Nat.zero_le _,by omega,rfl,hZ (Ext.refl _)⟩
  case round=>
   obtain ⟨j,hj,hg,rfl,E⟩:=hrel
   by_cases hlt:j < m
   . obtain ⟨u,hu,huf,hrd⟩:=pick_rd (L:=L) (j:=j) (by rw [EM.out];exact hlt);obtain ⟨lb,lo,hlp,hlbb,hlc⟩:=(RR.out.ext E.out).cells (by rw [EM.out];omega);have gl:=hlc j _ hrd;have Ew:=E1.out.trans E.out;have mu:=HP.out.lay.mem hu;rw [EN.out] at mu;have ok:=(HP.out.ok u hu).free huf;have gw:=H.out.get (j:=u.a+1) (by rw [EN.out];omega);rw [ok.2.1] at gw;have gw:=(Ew.cell z2 (u.a+1)).trans gw;have c2w:=(Ew.cell z1 2).trans c2;have zb:r.rb < wr.heap.size:=Nat.lt_of_lt_of_le z1 Ew.le;have zg:r.gb < wr.heap.size:=Nat.lt_of_lt_of_le z2 Ew.le;have nf:=HNO.out u hu huf;unfold Hp.Fits at nf;have t0:((u.k:Int) != (wd:Int))=true:=by simp;omega
     have t1:decide ((u.k:Int) < (wd:Int)+3)=true:=dT;have tk:decide ((j:Int) < (m:Int))=true:=dT;have k1:u.a+1 < n:=by omega
     have k2:u.k<=n:=by omega
     clear hlc hrd hu huf ok mu nf;generalize u.a=a at *;generalize u.k=k at *;obtain ⟨i1,i2,i3,i4⟩:IntKind.i64.wrap (((a:Nat):Int)+1)=((a:Nat):Int)+1/\(0:Int)<=((a:Nat):Int)+1/\((a:Nat):Int)+1 < ((n:Nat):Int)/\(((a:Nat):Int)+1).toNat=a+1:=⟨IntWalk.i64_in _ (by omega),by omega,by omega,by omega⟩
     subst hlp
     go_wp2_with fail
     have pr59a:=fun u_ (h_:Ext wr u_)=>(h_.cell zb 2).trans c2w
     have pr59b:=fun u_ (h_:Ext wr u_)=>(h_.cell hlbb (lo+j)).trans gl
     have pr59c:=fun u_ (h_:Ext wr u_)=>(h_.cell zg (a+1)).trans gw
     refine wp_region_seq (S:=fun W=>Ext wr W) (R:=Ext) (by kernel_rfl) Ext.refl ?_ ?_
     . exact exx
     refine' tkL 0 ?_;refine' tkL 1 ?_;refine' tkL 2 ?_;refine' tkL 3 ?_;refine' tkL 4 ?_;refine' tkL 5 ?_;refine' tkL 6 ?_;refine' tkL 7 ?_;refine' tkL 8 ?_;refine' tkL 9 ?_;refine' tkL 10 ?_;refine' tkL 11 ?_;refine' tkL 12 ?_;refine' tkL 13 ?_;refine' tkL 14 ?_;refine' tkL 15 ?_;refine' tkL 16 ?_;refine wpAnyR_done (by kernel_rfl) ?_ _;intro x1 _ Ex1;clear pr59a pr59b pr59c;have E2:=hZ (E.out.trans Ex1)
     go_wp2_with fail
     go_roundg (m-(j+1))
     case measure=>omega
     case rel=>exact ⟨j+1,by omega,Nat.le_refl _,by go_num,E2⟩
   have:j=m:=by omega
   subst this;have tk:decide ((j:Int) < (j:Int))=false:=dF
   go_wp2_with fail
   go_returns;exact ⟨rfl,E1.out.trans E.out⟩
def TakePost (w:World) (r:Rd) (S:Hp.Hs) (a k wd:Nat) (e:Ending) (w':World):Prop:=∃ W,e = .returned (.int .i64 a)/\Hp.Took S a k wd W/\RNow w w' r { S with words:=W }
set_option maxRecDepth 100000 in
set_option maxHeartbeats 8000000 in
theorem rTake_hit {P Q:List Hp.Tl} {ch:Nat->List Nat} (h:RW w r S) (hw:Hp.Wf S B (P ++ ⟨a,k,true⟩ :: Q) ch) {wd:Nat} (h5:5<=wd) (h16:wd<=16) (hno:∀ v ∈ P,v.fr=true -> ¬ Hp.Fits wd v) (hfit:Hp.Fits wd ⟨a,k,true⟩) :
    Calls Tryz.prog 182 #[.pointer (some ⟨r.rb,0,none⟩),.int .i64 wd] w (TakePost w r S a k wd):=by
  have FREE:=hZ (rFree h.at_ hw.fr.toFr hw.hi hw.parts);have HP:=hZ hw.parts;have H:=hZ (RNow.refl h);have HNO:=hZ hno;have HFIT:=hZ hfit;have hi:=hw.hi;have hle:=h.le;have hcap:=h.cap;have plen:=pick_len true (P ++ ⟨a,k,true⟩ :: Q);have hLn:=Hp.lay_len_ hw.parts.lay;have epick:pick true (P ++ ⟨a,k,true⟩ :: Q)=pick true P ++ (a:Int) :: pick true Q:=by
   rw [pick_app]
   congr 1
  obtain ⟨n,hn⟩:∃ n,S.words.length=n:=⟨_,rfl⟩
  have EN:=hZ hn;obtain ⟨m,hm⟩:∃ m,(pick true (P ++ ⟨a,k,true⟩ :: Q)).length=m:=⟨_,rfl⟩
  have EM:=hZ hm;obtain ⟨jt,hjt⟩:∃ jt,(pick true P).length=jt:=⟨_,rfl⟩
  have EJ:=hZ hjt;have hjm:jt < m:=by rw [<- hm,epick,<- hjt];simp
  have EP:=hZ epick;have z1:=h.lt;have z2:=h.words.lt;have c2:=h.c2;rw [hn] at hi hle hLn c2;rw [hm] at plen;clear h hw hno hn hm hjt epick hfit;go_enter Tryz.func182,Tryz.ntmps182
  go_wp2_with (go_at_call 84;refine FREE.out.mono ?_;rintro e w1 ⟨p,c,rfl,hR,hE⟩;rw [EM.out];have RR:=hZ hR.at_;have E1:=hZ hE)
  clear hR hE FREE;have lle:=RR.out.le;have lcap:=RR.out.cap;rw [EM.out] at lle
  go_loopg [6] m (fun g i wr=>∃ j:Nat,j<=jt/\m-j<=g/\i = .int .i64 j/\Hid (Ext w1 wr))
  case atStart=>exact ⟨0,Nat.zero_le _,by omega,rfl,hZ (Ext.refl _)⟩
  case round=>
   obtain ⟨j,hj,hg,rfl,E⟩:=hrel;have Ew:=E1.out.trans E.out;have c2w:=(Ew.cell z1 2).trans c2;have zb:r.rb < wr.heap.size:=Nat.lt_of_lt_of_le z1 Ew.le;have zg:r.gb < wr.heap.size:=Nat.lt_of_lt_of_le z2 Ew.le;have tk:decide ((j:Int) < (m:Int))=true:=dT;obtain ⟨lb,lo,hlp,hlbb,hlc⟩:=(RR.out.ext E.out).cells (by rw [EM.out];omega)
   by_cases hlt:j < jt
   . obtain ⟨v,hv,hvf,hrd⟩:=pick_rd (L:=P) (j:=j) (by rw [EJ.out];exact hlt);have hrd2:Hp.rd (pick true (P ++ ⟨a,k,true⟩ :: Q)) j=some (v.a:Int):=by
      rw [EP.out];unfold Hp.rd at hrd ⊢;rw [List.getElem?_append_left (by rw [EJ.out];exact hlt)];exact hrd
     have gl:=hlc j _ hrd2;have hvL:v ∈ P ++ (⟨a,k,true⟩:Hp.Tl) :: Q:=by simp [hv]
     have mu:=HP.out.lay.mem hvL;rw [EN.out] at mu;have ok:=(HP.out.ok v hvL).free hvf;have gw:=H.out.get (j:=v.a+1) (by rw [EN.out];omega);rw [ok.2.1] at gw;have gw:=(Ew.cell z2 (v.a+1)).trans gw;have nf:=HNO.out v hv hvf;unfold Hp.Fits at nf;have t0:((v.k:Int) != (wd:Int))=true:=by simp;omega
     have t1:decide ((v.k:Int) < (wd:Int)+3)=true:=dT;have k1:v.a+1 < n:=by omega
     have k2:v.k<=n:=by omega
     clear hlc hrd hrd2 hv hvL hvf ok mu nf;generalize v.a=va at *;generalize v.k=vk at *;obtain ⟨i1,i2,i3,i4⟩:IntKind.i64.wrap (((va:Nat):Int)+1)=((va:Nat):Int)+1/\(0:Int)<=((va:Nat):Int)+1/\((va:Nat):Int)+1 < ((n:Nat):Int)/\(((va:Nat):Int)+1).toNat=va+1:=⟨IntWalk.i64_in _ (by omega),by omega,by omega,by omega⟩
     subst hlp
     go_wp2_with fail
     have pr60a:=fun u_ (h_:Ext wr u_)=>(h_.cell zb 2).trans c2w
     have pr60b:=fun u_ (h_:Ext wr u_)=>(h_.cell hlbb (lo+j)).trans gl
     have pr60c:=fun u_ (h_:Ext wr u_)=>(h_.cell zg (va+1)).trans gw
     refine wp_region_seq (S:=fun W=>Ext wr W) (R:=Ext) (by kernel_rfl) Ext.refl ?_ ?_
     . exact exx
     refine' tkL 0 ?_;refine' tkL 1 ?_;refine' tkL 2 ?_;refine' tkL 3 ?_;refine' tkL 4 ?_;refine' tkL 5 ?_;refine' tkL 6 ?_;refine' tkL 7 ?_;refine' tkL 8 ?_;refine' tkL 9 ?_;refine' tkL 10 ?_;refine' tkL 11 ?_;refine' tkL 12 ?_;refine' tkL 13 ?_;refine' tkL 14 ?_;refine' tkL 15 ?_;refine' tkL 16 ?_;refine wpAnyR_done (by kernel_rfl) ?_ _;intro x1 _ Ex1;clear pr60a pr60b pr60c;have E2:=hZ (E.out.trans Ex1)
     go_wp2_with fail
     go_roundg (m-(j+1))
     case measure=>omega
     case rel=>exact ⟨j+1,by omega,Nat.le_refl _,by go_num,E2⟩
   have:j=jt:=by omega
   subst this;have hrd2:Hp.rd (pick true (P ++ ⟨a,k,true⟩ :: Q)) j=some (a:Int):=by
    rw [EP.out];unfold Hp.rd;rw [List.getElem?_append_right (by rw [EJ.out];exact Nat.le_refl _),EJ.out,Nat.sub_self];rfl
   have gl:=hlc j _ hrd2;have huL:(⟨a,k,true⟩:Hp.Tl) ∈ P ++ (⟨a,k,true⟩:Hp.Tl) :: Q:=by simp
   have mu:=HP.out.lay.mem huL;rw [EN.out] at mu;have mu1:17<=a:=mu.1;have mu2:a+k<=n:=mu.2.1;have mu3:3<=k:=mu.2.2;have ok:=(HP.out.ok _ huL).free rfl;have gw:=H.out.get (j:=a+1) (by rw [EN.out];omega);rw [show Hp.ow S.words (a+1)=(k:Int) from ok.2.1] at gw;have gw:=(Ew.cell z2 (a+1)).trans gw;have fit:=HFIT.out;have fit:k=wd \/ wd+3<=k:=fit;have k1:a+1 < n:=by omega
   have k2:a+k<=n:=by omega
   have k3:17<=a:=by omega
   clear hlc hrd2 huL ok mu;obtain ⟨i1,i2,i3,i4⟩:IntKind.i64.wrap (((a:Nat):Int)+1)=((a:Nat):Int)+1/\(0:Int)<=((a:Nat):Int)+1/\((a:Nat):Int)+1 < ((n:Nat):Int)/\(((a:Nat):Int)+1).toNat=a+1:=⟨IntWalk.i64_in _ (by omega),by omega,by omega,by omega⟩
   subst hlp
   by_cases hk:k=wd
   . subst hk;have t0:((k:Int) != (k:Int))=false:=by simp
     have t2:decide ((k:Int) > (k:Int))=false:=dF;have TK:Hid (Hp.Took S a k k (S.words.set a (-1))):=hZ ⟨by simp,fun q=>absurd q (Nat.lt_irrefl _),fun x hx=>Hp.ow_set_ne (by rw [EN.out];omega) (by omega)⟩
     go_wp2_with fail
     have pr61a:=fun u_ (h_:Ext wr u_)=>(h_.cell zb 2).trans c2w
     have pr61b:=fun u_ (h_:Ext wr u_)=>(h_.cell hlbb (lo+j)).trans gl
     have pr61c:=fun u_ (h_:Ext wr u_)=>(h_.cell zg (a+1)).trans gw
     refine wp_region_seq (S:=fun W=>Ext wr W) (R:=Ext) (by kernel_rfl) Ext.refl ?_ ?_
     . exact exx
     refine' tkL 0 ?_;refine' tkL 1 ?_;refine' tkL 2 ?_;refine' tkL 3 ?_;refine' tkL 4 ?_;refine' tkL 5 ?_;refine' tkL 6 ?_;refine' tkL 7 ?_;refine' tkL 8 ?_;refine' tkL 9 ?_;refine' tkL 10 ?_;refine' tkL 11 ?_;refine' tkL 12 ?_;refine' tkL 13 ?_;refine' tkL 14 ?_;refine' tkL 15 ?_;refine' tkL 16 ?_;refine wpAnyR_done (by kernel_rfl) ?_ _;intro x1 _ Ex1;clear pr61a pr61b pr61c;have N:=hZ (H.out.ext (Ew.trans Ex1));clear c2w zb zg gw gl i1 i2 i3 i4;have c2x:=N.out.c2;rw [EN.out] at c2x;have za:=N.out.toRW.lt;have zc:=N.out.words.lt;have g0:=N.out.toRW.get (j:=a) (by rw [EN.out];omega);have fr:=N.out.words.froz a;have N2:=hZ (N.out.set (j:=a) (v:=-1) (by rw [EN.out];omega) (by omega) (by omega))
     go_wp2_with fail
     go_returns;exact ⟨_,rfl,TK.out,N2.out⟩
   have t0:((k:Int) != (wd:Int))=true:=by simp;omega
   have t1:decide ((k:Int) < (wd:Int)+3)=false:=dF;have t2:decide ((k:Int) > (wd:Int))=true:=dT;have kw:wd+3<=k:=by omega
   have e1:a+wd < S.words.length:=by rw [EN.out];omega
   have e2:a+wd+1 < (S.words.set (a+wd) 0).length:=by simp;rw [EN.out];omega
   have e3:a < ((S.words.set (a+wd) 0).set (a+wd+1) ((k:Int)-(wd:Int))).length:=by simp;rw [EN.out];omega
   have TK:Hid (Hp.Took S a k wd (((S.words.set (a+wd) 0).set (a+wd+1) ((k:Int)-(wd:Int))).set a (-1))):=hZ ⟨by simp,fun _=>by
    rw [Hp.ow_set_ne e3 (by omega),Hp.ow_set_ne e2 (by omega),Hp.ow_set_eq e1,Hp.ow_set_ne e3 (by omega),Hp.ow_set_eq e2];exact ⟨rfl,rfl⟩,fun x hx=>by rw [Hp.ow_set_ne e3 (by omega),Hp.ow_set_ne e2 (by omega),Hp.ow_set_ne e1 (by omega)]⟩
   have E3:=hZ e3;have E2':=hZ e2;have E1':=hZ e1;clear e1 e2 e3
   go_wp2_with fail
   have pr62a:=fun u_ (h_:Ext wr u_)=>(h_.cell zb 2).trans c2w
   have pr62b:=fun u_ (h_:Ext wr u_)=>(h_.cell hlbb (lo+j)).trans gl
   have pr62c:=fun u_ (h_:Ext wr u_)=>(h_.cell zg (a+1)).trans gw
   refine wp_region_seq (S:=fun W=>Ext wr W) (R:=Ext) (by kernel_rfl) Ext.refl ?_ ?_
   . exact exx
   refine' tkL 0 ?_;refine' tkL 1 ?_;refine' tkL 2 ?_;refine' tkL 3 ?_;refine' tkL 4 ?_;refine' tkL 5 ?_;refine' tkL 6 ?_;refine' tkL 7 ?_;refine' tkL 8 ?_;refine' tkL 9 ?_;refine' tkL 10 ?_;refine' tkL 11 ?_;refine' tkL 12 ?_;refine' tkL 13 ?_;refine' tkL 14 ?_;refine' tkL 15 ?_;refine' tkL 16 ?_;refine wpAnyR_done (by kernel_rfl) ?_ _;intro x1 _ Ex1;clear pr62a pr62b pr62c;have N:=hZ (H.out.ext (Ew.trans Ex1));clear c2w zb zg gw gl i1 i2 i3 i4;have c2x:=N.out.c2;rw [EN.out] at c2x;have za:=N.out.toRW.lt
   go_wp2_with fail
   obtain ⟨p1,p2,p3,p4⟩:IntKind.i64.wrap (((a:Nat):Int)+((wd:Nat):Int))=((a:Nat):Int)+((wd:Nat):Int)/\(0:Int)<=((a:Nat):Int)+((wd:Nat):Int)/\((a:Nat):Int)+((wd:Nat):Int) < ((n:Nat):Int)/\(((a:Nat):Int)+((wd:Nat):Int)).toNat=a+wd:=⟨IntWalk.i64_in _ (by omega),by omega,by omega,by omega⟩
   obtain ⟨q1,q2,q3,q4⟩:IntKind.i64.wrap (((a:Nat):Int)+((wd:Nat):Int)+1)=((a:Nat):Int)+((wd:Nat):Int)+1/\(0:Int)<=((a:Nat):Int)+((wd:Nat):Int)+1/\((a:Nat):Int)+((wd:Nat):Int)+1 < ((n:Nat):Int)/\(((a:Nat):Int)+((wd:Nat):Int)+1).toNat=a+wd+1:=⟨IntWalk.i64_in _ (by omega),by omega,by omega,by omega⟩
   have ws:IntKind.i64.wrap ((k:Int)-(wd:Int))=(k:Int)-(wd:Int):=IntWalk.i64_in _ (by omega);refine wp_region_any (by kernel_rfl) ?_;refine' tkA 11 rfl ?hy11_69 ?_
   case hy11_69=>(intro w;go_simp;try with_reducible rfl)
   refine layy ?_;refine' tkA 12 rfl ?hy12_70 ?_
   case hy12_70=>(intro w;go_simp;try with_reducible rfl)
   refine layy ?_;refine' tkA 13 rfl ?hy13_71 ?_
   case hy13_71=>(intro w;go_simp;try with_reducible rfl)
   refine layy ?_;refine' tkA 14 rfl ?hy14_72 ?_
   case hy14_72=>(intro w;go_simp;try with_reducible rfl)
   refine layy ?_;refine' tkA 15 rfl ?hy15_73 ?_
   case hy15_73=>(intro w;go_simp;try with_reducible rfl)
   refine layy ?_;refine' tkA 16 rfl ?hy16_74 ?_
   case hy16_74=>(intro w;go_simp;try with_reducible rfl)
   refine layy ?_;refine' tkA 17 rfl ?hy17_75 ?_
   case hy17_75=>(intro w;go_simp;try with_reducible rfl)
   refine layy ?_;have pr63a:=fun u_ (h_:Ext x1 u_)=>(h_.cell za 2).trans c2x
   refine wpAny_to_X (S:=fun W=>Ext x1 W) (R:=Ext) 18 11 Ext.refl ?_ ?_ (by rfl)
   . exact Ext.drew exx
   refine' tkY 0 ?_;refine' tkY 1 ?_;refine' tkY 2 ?_;refine' tkY 3 ?_;refine' tkY 4 ?_;refine' tkY 5 ?_;refine' tkY 6 ?_;refine' tkY 7 ?_;refine' tkY 8 ?_;refine' tkY 9 ?_;refine' tkY 10 ?_;refine wpAnyX_done (by kernel_rfl) ?_;intro xd _ Exd;clear pr63a;simp only [List.drop_succ_cons,List.drop_zero];clear c2x za;have ND:=hZ (N.out.ext Exd);have c2x:=ND.out.c2;rw [EN.out] at c2x;have za:=ND.out.toRW.lt;have zc:=ND.out.words.lt;have g3:=ND.out.toRW.get (j:=a+wd) E1'.out;have g4:=ND.out.toRW.get (j:=a+wd+1) (by rw [EN.out];omega);have fr3:=ND.out.words.froz (a+wd);have fr4:=ND.out.words.froz (a+wd+1);have H1:=hZ (ND.out.set (j:=a+wd) (v:=0) E1'.out (by omega) (by omega));have H2:=hZ (H1.out.set (j:=a+wd+1) (v:=(k:Int)-(wd:Int)) E2'.out (by omega) (by omega));clear p1 p2 p3 p4 q1 q2 q3 q4 ws;go_upto_region 9 with (fail)
   refine RNow.cut H2.out ?_;intro w3 N3';have N3:=hZ N3';clear N3' fr3 fr4 g3 g4 c2x za zc H1 H2 ND Exd;have c2x:=N3.out.len (n:=n) (by simp;exact EN.out);have za:=N3.out.toRW.lt;have zc:=N3.out.words.lt;have g0:=N3.out.word (j:=a) (x:=_) E3.out rfl;have fr:=N3.out.words.froz a;have N4:=hZ (N3.out.set (j:=a) (v:=-1) E3.out (by omega) (by omega))
   go_wp2_with fail
   go_returns;exact ⟨_,rfl,TK.out,N4.out⟩
set_option maxRecDepth 100000 in
set_option maxHeartbeats 4000000 in
theorem rSame_no {ch:Nat->List Nat} (h:RAt w r S) (hw:Hp.Wf S B L ch) (hq:SliceAt w q qc fs) (hmiss:∀ b ∈ S.taken,¬ (Hp.ow S.words b=t/\Hp.fz (Hp.ow S.words) S.sizes b=fs)) :
    Calls Tryz.prog 133 #[.pointer (some ⟨r.rb,0,none⟩),.int .i64 t,.slice q fs.length qc] w fun e w'=>e = .returned (.int .i64 0)/\Ext w w':=by
  have CELLS:=hZ (rCells_ h hw);have FLD:=hZ (fun b (hb:b ∈ S.taken) W (hW:Ext w W)=>rField (h.ext hW) hw hb);have FAT:=hZ (fun b (hb:b ∈ S.taken) W (hW:Ext w W)=>fieldAt (h.ext hW) hw hb);have HQ:=hZ hq;have H:=hZ h;have HW:=hZ hw;have few:=hw.few;have hhi:=hw.hi;have hle:=h.words.le;have hcap:=h.words.cap;have hlt:=h.lt;have qcap:=hq.cap;obtain ⟨gbb,o',hp',hbb,_⟩:=h.words.cells (by have:=hw.lo;omega)
  cases hp'
  have HM:=hZ hmiss;have c2:=h.c2;obtain ⟨n,hn⟩:∃ n,S.words.length=n:=⟨_,rfl⟩
  have EN:=hZ hn;rw [hn] at c2 hle few hhi;have qle:=hq.le;clear h hw hq hn hmiss;obtain ⟨m,hm⟩:∃ m,S.taken.length=m:=⟨_,rfl⟩
  have EM:=hZ hm;rw [hm] at few;clear hm;go_enter Tryz.func133,Tryz.ntmps133
  go_wp2_with (go_at_call 82;refine CELLS.out.mono ?_;rintro e w1 ⟨p,c,rfl,hR,hE⟩;rw [cellsI_len,EM.out];have RR:=hZ hR.at_;have E1:=hZ hE)
  clear hR hE CELLS;have lle:=RR.out.le;have lcap:=RR.out.cap;rw [cellsI_len,EM.out] at lle
  go_loopg [8] m (fun g i wr=>∃ j:Nat,j<=m/\m-j<=g/\i = .int .i64 j/\Hid (Ext w1 wr))
  case atStart=>exact ⟨0,Nat.zero_le _,by omega,rfl,hZ (Ext.refl _)⟩
  case round=>
   obtain ⟨j,hj,hg,rfl,E⟩:=hrel
   by_cases hlt2:j < m
   . obtain ⟨b,hb,hbj,hrd⟩:=cellsI_rd (S:=S) (j:=j) (by rw [EM.out];exact hlt2);obtain ⟨lb,lo,hlp,hlbb,hlc⟩:=(RR.out.ext E.out).cells (by rw [cellsI_len,EM.out];omega);have gl:=hlc j _ hrd;have Ew:=E1.out.trans E.out;have c2w:=(Ew.cell hlt 2).trans c2;have gw:=(H.out.ext Ew).get (j:=b) (by have:=HW.out.part hb;omega);have pb:=HW.out.part hb;rw [EN.out] at pb;have zb:r.rb < wr.heap.size:=Nat.lt_of_lt_of_le hlt Ew.le;have zg:r.gb < wr.heap.size:=Nat.lt_of_lt_of_le hbb Ew.le;have b1:b < n:=by omega
     have EW:=hZ Ew;have HB:=hZ hb;have HBJ:=hZ hbj;have FLB:=hZ (fun W (hW:Ext w W)=>FLD.out b hb W hW);have FAB:=hZ (fun W (hW:Ext w W)=>FAT.out b hb W hW);obtain ⟨fl,hfl⟩:∃ fl,(Hp.fz (Hp.ow S.words) S.sizes b).length=fl:=⟨_,rfl⟩
     have EFL:=hZ hfl;have tk:decide ((j:Int) < (m:Int))=true:=dT;clear hrd hlc hbj hb pb hfl;subst hlp
     by_cases hbt:Hp.ow S.words b=t
     . rw [hbt] at gw;have t0:(t == t)=true:=by simp
       have FLB2:Hid (∀ W,Ext w W->Calls Tryz.prog 88 #[.pointer (some ⟨r.rb,0,none⟩),.int .i64 b] W fun e w'=>e = .returned (.slice (some ⟨r.gb,r.go+(b+4),none⟩) fl (r.wc-(b+4)))/\Ext W w'):=hZ (fun W hW=>by rw [<- EFL.out];exact FLB.out W hW);have SM:Hid (∀ W,Ext w W->Calls Tryz.prog 24 #[.slice (some ⟨r.gb,r.go+(b+4),none⟩) fl (r.wc-(b+4)),.slice q fs.length qc] W fun e w'=>e = .returned (.bool false)/\Ext W w'):=hZ (fun W hW=>by
        have:=dSame_is (b:=false) (decide_eq_false (fun e=>HM.out b HB.out ⟨hbt,e⟩)) (FAB.out W hW) (HQ.out.ext hW);rw [EFL.out] at this;exact this)
       clear hbt
       go_wp2_with fail
       have pr64a:=fun u_ (h_:Ext wr u_)=>(h_.cell zb 2).trans c2w
       have pr64b:=fun u_ (h_:Ext wr u_)=>(h_.cell hlbb (lo+j)).trans gl
       have pr64c:=fun u_ (h_:Ext wr u_)=>(h_.cell zg (r.go+b)).trans gw
       refine wp_region_seq (S:=fun W=>Ext wr W) (R:=Ext) (by kernel_rfl) Ext.refl ?_ ?_
       . exact exx
       refine' tkL 0 ?_;refine' tkL 1 ?_;refine' tkL 2 ?_;refine' tkL 3 ?_;refine' tkL 4 ?_;refine' tkL 5 ?_;refine' tkL 6 ?_;refine' tkL 7 ?_;refine' tkL 8 ?_;refine' tkL 9 ?_;refine' tkL 10 ?_;refine' tkL 11 ?_;refine' tkL 12 ?_;refine' tkL 13 ?_;refine' tkL 14 ?_;refine' tkL 15 ?_;refine' tkL 16 ?_;refine' tkL 17 ?_;refine' tkR 18 (v:=.slice (some ⟨r.gb,r.go+(b+4),none⟩) fl (r.wc-(b+4))) rfl (Or.inr ⟨by rfl,88,_, ?hx18_19, ?hy18_19⟩) ?rest18_19
       case hx18_19=>(intro w hSw;go_simp;try with_reducible rfl)
       case hy18_19=>exact fun w hE=>(FLB2.out _ (EW.out.trans hE)).mono (fun _ _ h=>⟨h.1,h.2,Ext.trans hE h.2⟩)
       refine layy ?_;refine' tkL 19 ?_;refine' tkR 20 (v:=.bool false) rfl (Or.inr ⟨by rfl,24,_, ?hx20_21, ?hy20_21⟩) ?rest20_21
       case hx20_21=>(intro w hSw;go_simp;try with_reducible rfl)
       case hy20_21=>exact fun w hE=>(SM.out _ (EW.out.trans hE)).mono (fun _ _ h=>⟨h.1,h.2,Ext.trans hE h.2⟩)
       refine layy ?_;refine' tkL 21 ?_;refine wpAnyR_done (by kernel_rfl) ?_ _;intro x1 _ Ex1;clear pr64a pr64b pr64c;have E2:=hZ (E.out.trans Ex1)
       go_wp2_with fail
       go_roundg (m-(j+1))
       case measure=>omega
       case rel=>exact ⟨j+1,by omega,Nat.le_refl _,by go_num,E2⟩
     have t0:(Hp.ow S.words b == t)=false:=by simpa using hbt
     clear hbt;generalize Hp.ow S.words b=y at *
     go_wp2_with fail
     have pr65a:=fun u_ (h_:Ext wr u_)=>(h_.cell zb 2).trans c2w
     have pr65b:=fun u_ (h_:Ext wr u_)=>(h_.cell hlbb (lo+j)).trans gl
     have pr65c:=fun u_ (h_:Ext wr u_)=>(h_.cell zg (r.go+b)).trans gw
     refine wp_region_seq (S:=fun W=>Ext wr W) (R:=Ext) (by kernel_rfl) Ext.refl ?_ ?_
     . exact exx
     refine' tkL 0 ?_;refine' tkL 1 ?_;refine' tkL 2 ?_;refine' tkL 3 ?_;refine' tkL 4 ?_;refine' tkL 5 ?_;refine' tkL 6 ?_;refine' tkL 7 ?_;refine' tkL 8 ?_;refine' tkL 9 ?_;refine' tkL 10 ?_;refine' tkL 11 ?_;refine' tkL 12 ?_;refine' tkN 13 ?_;refine' tkN 14 ?_;refine' tkN 15 ?_;refine' tkN 16 ?_;refine' tkN 17 ?_;refine' tkN 18 ?_;refine' tkN 19 ?_;refine' tkN 20 ?_;refine' tkL 21 ?_;refine wpAnyR_done (by kernel_rfl) ?_ _;intro x1 _ Ex1;clear pr65a pr65b pr65c;have E2:=hZ (E.out.trans Ex1)
     go_wp2_with fail
     go_roundg (m-(j+1))
     case measure=>omega
     case rel=>exact ⟨j+1,by omega,Nat.le_refl _,by go_num,E2⟩
   have:j=m:=by omega
   subst this;have tk:decide ((j:Int) < (j:Int))=false:=dF
   go_wp2_with fail
   go_returns;exact ⟨rfl,E1.out.trans E.out⟩
theorem RW.to (h:RW w r S) (h1:S'.sizes=S.sizes) (h2:S'.order=S.order) (h3:S'.words=S.words):RW w r S':=by
 obtain ⟨s,o,v,t⟩:=S
 obtain ⟨s',o',v',t'⟩:=S'
 simp only at h1 h2 h3
 subst h1 h2 h3
 exact ⟨h.c0,h.c1,h.c2,h.f2,h.sizes,h.order,h.words,h.le,h.cap,h.go,h.apart,h.far1,h.far2⟩
theorem RNow.to (h:RNow w0 w r S) (h1:S'.sizes=S.sizes) (h2:S'.order=S.order) (h3:S'.words=S.words):RNow w0 w r S':=⟨h.toRW.to h1 h2 h3,h.but⟩
set_option maxRecDepth 100000 in
set_option maxHeartbeats 4000000 in
theorem rAdd_hit {ch:Nat->List Nat} (h:RW w r S) (hw:Hp.Wf S B L ch) (ha:a ∈ S.taken) (hq:SliceAt w q qc (Hp.fz (Hp.ow S.words) S.sizes a)) :
    Calls Tryz.prog 162 #[.pointer (some ⟨r.rb,0,none⟩),.int .i64 (Hp.ow S.words a),.slice q (Hp.fz (Hp.ow S.words) S.sizes a).length qc] w (RTurned r w (.int .i64 a) S):=by
  have SM:=hZ (rSame h.at_ hw ha hq);have H:=hZ (RNow.refl h);have t0:decide ((a:Int) > 0)=true:=decide_eq_true (by have:=hw.part ha;omega);have t1:decide (0 < a)=true:=decide_eq_true (by have:=hw.part ha;omega);clear h hw ha hq;generalize (Hp.fz (Hp.ow S.words) S.sizes a).length=m at *;generalize Hp.ow S.words a=t at *;go_enter Tryz.func162,Tryz.ntmps162
  go_wp2_with (go_at_call 133;refine (SM.out).mono ?_;rintro e w1 ⟨rfl,hb1⟩;obtain ⟨hc1,hf1,hs1⟩:=hb1.cells)
  go_returns;exact ⟨rfl,H.out.ext hb1⟩
set_option maxRecDepth 100000 in
set_option maxHeartbeats 4000000 in
theorem rAdd_full {ch:Nat->List Nat} (h:RW w r S) (hw:Hp.Wf S B L ch) (hn:Hp.New S t fs) (hq:SliceAt w q qc fs)
    (hmiss:∀ b ∈ S.taken,¬ (Hp.ow S.words b=t/\Hp.fz (Hp.ow S.words) S.sizes b=fs)) (hno:∀ u ∈ L,u.fr=true -> ¬ Hp.Fits (Hp.wz S.sizes t) u) :
    Calls Tryz.prog 162 #[.pointer (some ⟨r.rb,0,none⟩),.int .i64 t,.slice q fs.length qc] w (RTurned r w (.int .i64 0) S):=by
  have SM:=hZ (rSame_no h.at_ hw hq hmiss);have H:=hZ (RNow.refl h);have wd:=hn.wide hw;rw [wd.1] at hno;have TK:=hZ (fun W (hW:Ext w W)=>rTake_none (h.ext hW) hw (wd:=4+fs.length) (by omega) hno);clear h hw hn hq hmiss hno;generalize fs.length=m at *;have e4:(4:Int)+(m:Int)=((4+m:Nat):Int):=by omega
  have w4:IntKind.i64.wrap ((4:Int)+(m:Int))=(4:Int)+(m:Int):=IntWalk.i64_in _ (by omega);have w5:wrap64 ((4:Int)+(m:Int))=(4:Int)+(m:Int):=IntWalk.wrap64_in _ ⟨by omega,by omega⟩;have TK2:Hid (∀ W,Ext w W->Calls Tryz.prog 182 #[.pointer (some ⟨r.rb,0,none⟩),.int .i64 (4+(m:Int))] W fun e w'=>e = .returned (.int .i64 0)/\Ext W w'):=hZ (fun W hW=>by rw [e4];exact TK.out W hW);clear TK e4;go_enter Tryz.func162,Tryz.ntmps162
  go_wp2_with (first
   | (go_at_call 133;refine (SM.out).mono ?_;rintro e w1 ⟨rfl,hb1⟩;obtain ⟨hc1,hf1,hs1⟩:=hb1.cells)
   | (go_at_call 182;refine (TK2.out _ (exx)).mono ?_;rintro e w2 ⟨rfl,hb2⟩))
  go_returns;exact ⟨rfl,H.out.ext (exx)⟩
set_option maxRecDepth 100000 in
set_option maxHeartbeats 16000000 in
theorem rAdd_new {P Q L':List Hp.Tl} {ch ch':Nat->List Nat} (h:RW w r S) (hw:Hp.Wf S B (P ++ ⟨a,k,true⟩ :: Q) ch) (hn:Hp.New S t fs) (hq:SliceAt w q qc fs) (hfar:∀ b o,q=some ⟨b,o,none⟩->b ∉ r.own)
    (hmiss:∀ b ∈ S.taken,¬ (Hp.ow S.words b=t/\Hp.fz (Hp.ow S.words) S.sizes b=fs)) (hno:∀ v ∈ P,v.fr=true -> ¬ Hp.Fits (4+fs.length) v) (hfit:Hp.Fits (4+fs.length) ⟨a,k,true⟩) (hput:Hp.Put S S' t fs a) (hw':Hp.Wf S' B L' ch')
    (hnear:∀ W,Hp.Adding S t fs a k fs.length W->Hp.Near L' W S'.words) :
    Calls Tryz.prog 162 #[.pointer (some ⟨r.rb,0,none⟩),.int .i64 t,.slice q fs.length qc] w (RTurned r w (.int .i64 a) S'):=by
  have SM:=hZ (rSame_no h.at_ hw hq hmiss);have H:=hZ (RNow.refl h);have wd:=hn.wide hw;have e4:(4:Int)+(fs.length:Int)=((4+fs.length:Nat):Int):=by omega
  have TK:=hZ (fun W (hW:Ext w W)=>rTake_hit (h.ext hW) hw (wd:=4+fs.length) (by omega) (by omega) hno hfit);have CK:=hZ (Hp.ck_of hw hn);have HN:=hZ hn;have HW:=hZ hw;have HW':=hZ hw';have HQ:=hZ hq;have HFAR:=hZ hfar;have HPUT:=hZ hput;have HNEAR:=hZ hnear;have HFIT:=hZ hfit;have hu:(⟨a,k,true⟩:Hp.Tl) ∈ P ++ ⟨a,k,true⟩ :: Q:=by simp
  have HU:=hZ hu;have mu:=hw.parts.lay.mem hu;have mu1:17<=a:=mu.1;have mu2:a+k<=S.words.length:=mu.2.1;have mu3:4+fs.length<=k:=hfit.le.1;have hi:=hw.hi;have hle:=h.le;have hcap:=h.cap;have htg:=Hp.okTag_le hw.fr.toFr hn.tag;have qle:=hq.le;have qcap:=hq.cap;have c16:=Hp.cz_lt t fs;obtain ⟨n,hnn⟩:∃ n,S.words.length=n:=⟨_,rfl⟩
  have EN:=hZ hnn;rw [hnn] at mu2 hi hle;obtain ⟨c,hc⟩:∃ c,Hp.cz t fs=c:=⟨_,rfl⟩
  have EC:=hZ hc;rw [hc] at c16 CK;obtain ⟨m,hm⟩:∃ m,fs.length=m:=⟨_,rfl⟩
  have EM:=hZ hm;rw [hm] at wd mu3 qle SM ⊢;have w4:IntKind.i64.wrap ((4:Int)+(m:Int))=(4:Int)+(m:Int):=IntWalk.i64_in _ (by omega);have w5:wrap64 ((4:Int)+(m:Int))=(4:Int)+(m:Int):=IntWalk.wrap64_in _ ⟨by omega,by omega⟩;have TK2:Hid (∀ W,Ext w W->Calls Tryz.prog 182 #[.pointer (some ⟨r.rb,0,none⟩),.int .i64 (4+(m:Int))] W (TakePost W r S a k (4+m))):=hZ (fun W hW=>by
   have:=TK.out W hW;rw [EM.out] at this;rw [show (4:Int)+(m:Int)=((4+m:Nat):Int) by omega];exact this)
  have a0:((a:Int) == 0)=false:=by simp;omega
  clear h hw hn hq hfar hmiss hno hfit hput hw' hnear hu mu hnn hc hm e4 TK;go_enter Tryz.func162,Tryz.ntmps162
  go_upto_region 7 with (first
   | (go_at_call 133;refine (SM.out).mono ?_;rintro e w1 ⟨rfl,hb1⟩;obtain ⟨hc1,hf1,hs1⟩:=hb1.cells)
   | (go_at_call 182;refine (TK2.out _ hb1).mono ?_;rintro e w2 ⟨W1,rfl,hT,hN⟩))
  have N2:=hZ ((H.out.ext hb1).trans hN);have TOOK:=hZ hT;have SQ:=hZ (HQ.out.but N2.out.but HFAR.out);clear hN hT hb1 hc1 hf1 hs1 SM TK2 w4 w5;have CH:=hZ (by have:=rChain SQ.out CK.out;rw [EM.out] at this;exact this);go_upto_region 8 with (go_at_call 137;refine (CH.out).mono ?_;rintro e w3 ⟨rfl,hb3⟩;obtain ⟨hc3,hf3,hs3⟩:=hb3.cells)
  have N3:=hZ (N2.out.ext hb3);have SQ3:=hZ (SQ.out.ext hb3);clear N2 SQ CH hb3 hc3 hf3 hs3;have vl:W1.length=n:=TOOK.out.len.trans EN.out;have VL:=hZ vl;have c2:=N3.out.len vl;have z1:=N3.out.toRW.lt;have z2:=N3.out.words.lt;have gc:=N3.out.word (j:=c) (x:=_) (by rw [vl];omega) rfl;have cn:c < n:=by omega
  have an:a < n:=by omega
  obtain ⟨p1,p2,p3,p4⟩:IntKind.i64.wrap (((a:Nat):Int)+1)=((a:Nat):Int)+1/\(0:Int)<=((a:Nat):Int)+1/\((a:Nat):Int)+1 < ((n:Nat):Int)/\(((a:Nat):Int)+1).toNat=a+1:=⟨IntWalk.i64_in _ (by omega),by omega,by omega,by omega⟩
  obtain ⟨q1,q2,q3,q4⟩:IntKind.i64.wrap (((a:Nat):Int)+2)=((a:Nat):Int)+2/\(0:Int)<=((a:Nat):Int)+2/\((a:Nat):Int)+2 < ((n:Nat):Int)/\(((a:Nat):Int)+2).toNat=a+2:=⟨IntWalk.i64_in _ (by omega),by omega,by omega,by omega⟩
  obtain ⟨s1,s2,s3,s4⟩:IntKind.i64.wrap (((a:Nat):Int)+3)=((a:Nat):Int)+3/\(0:Int)<=((a:Nat):Int)+3/\((a:Nat):Int)+3 < ((n:Nat):Int)/\(((a:Nat):Int)+3).toNat=a+3:=⟨IntWalk.i64_in _ (by omega),by omega,by omega,by omega⟩
  clear vl;refine wp_region_any (by kernel_rfl) ?_;refine' tkA 9 rfl ?hy9_1 ?_
  case hy9_1=>(intro w;go_simp;try with_reducible rfl)
  refine layy ?_;refine' tkA 10 rfl ?hy10_2 ?_
  case hy10_2=>(intro w;go_simp;try with_reducible rfl)
  refine layy ?_;refine' tkA 15 rfl ?hy15_3 ?_
  case hy15_3=>(intro w;go_simp;try with_reducible rfl)
  refine layy ?_;refine' tkA 16 rfl ?hy16_4 ?_
  case hy16_4=>(intro w;go_simp;try with_reducible rfl)
  refine layy ?_;refine' tkA 21 rfl ?hy21_5 ?_
  case hy21_5=>(intro w;go_simp;try with_reducible rfl)
  refine layy ?_;refine' tkA 22 rfl ?hy22_6 ?_
  case hy22_6=>(intro w;go_simp;try with_reducible rfl)
  refine layy ?_;have pr66a:=fun u_ (h_:Ext w3 u_)=>(h_.cell z1 2).trans c2
  have pr66b:=fun u_ (h_:Ext w3 u_)=>(h_.cell z2 c).trans gc
  refine wpAny_to_X (S:=fun W=>Ext w3 W) (R:=Ext) 31 25 Ext.refl ?_ ?_ (by rfl)
  . exact Ext.drew exx
  refine' tkY 0 ?_;refine' tkY 1 ?_;refine' tkY 2 ?_;refine' tkY 3 ?_;refine' tkY 4 ?_;refine' tkY 5 ?_;refine' tkY 6 ?_;refine' tkY 7 ?_;refine' tkY 8 ?_;refine' tkY 11 ?_;refine' tkY 12 ?_;refine' tkY 13 ?_;refine' tkY 14 ?_;refine' tkY 17 ?_;refine' tkY 18 ?_;refine' tkY 19 ?_;refine' tkY 20 ?_;refine' tkY 23 ?_;refine' tkY 24 ?_;refine' tkY 25 ?_;refine' tkY 26 ?_;refine' tkY 27 ?_;refine' tkY 28 ?_;refine' tkY 29 ?_;refine' tkY 30 ?_;refine wpAnyX_done (by kernel_rfl) ?_;intro wd _ Ewd;clear pr66a pr66b;simp only [List.drop_succ_cons,List.drop_zero];clear c2 z1 z2 gc;have ND:=hZ (N3.out.ext Ewd);have bc:=N3.out.toRW.bound (j:=c) (by show c < W1.length;rw [VL.out];omega);have BC:=hZ bc;have c2:=ND.out.len VL.out;have z1:=ND.out.toRW.lt;have z2:=ND.out.words.lt;have g0:=ND.out.word (j:=a) (x:=_) (by rw [VL.out];omega) rfl;have g1:=ND.out.word (j:=a+1) (x:=_) (by rw [VL.out];omega) rfl;have g2:=ND.out.word (j:=a+2) (x:=_) (by rw [VL.out];omega) rfl;have g3:=ND.out.word (j:=a+3) (x:=_) (by rw [VL.out];omega) rfl;have r0:=ND.out.words.froz a;have r1:=ND.out.words.froz (a+1);have r2:=ND.out.words.froz (a+2);have r3:=ND.out.words.froz (a+3);have H1:=hZ (ND.out.set (j:=a) (v:=t) (by show a < W1.length;rw [VL.out];omega) (by omega) (by omega));have H2:=hZ (H1.out.set (j:=a+1) (v:=0) (by simp;rw [VL.out];omega) (by omega) (by omega));have H3:=hZ (H2.out.set (j:=a+2) (v:=0) (by simp;rw [VL.out];omega) (by omega) (by omega));have H4:=hZ (H3.out.set (j:=a+3) (v:=Hp.ow W1 c) (by simp;rw [VL.out];omega) BC.out.1 BC.out.2);clear p1 p2 p3 p4 q1 q2 q3 q4 s1 s2 s3 s4 bc;go_upto_region 9 with (fail)
  refine RNow.cut H4.out ?_;intro w5 N5';have N5:=hZ N5';clear N5' H1 H2 H3 H4 g0 g1 g2 g3 r0 r1 r2 r3 c2 z1 z2 ND;have c2:=N5.out.len (n:=n) (by simp;exact VL.out);have z1:=N5.out.toRW.lt;have z2:=N5.out.words.lt;have g0:=N5.out.word (j:=c) (x:=_) (by simp;rw [VL.out];omega) rfl;have r0:=N5.out.words.froz c;have H5:=hZ (N5.out.set (j:=c) (v:=(a:Int)) (by simp;rw [VL.out];omega) (by omega) (by omega));go_upto_region 10 with (fail)
  refine RNow.cut H5.out ?_;intro w6 N6';have N6:=hZ N6';clear N6' H5 g0 r0 c2 z1 z2 N5;have AD0:=hZ (by have:=TOOK.out;rw [<- EM.out] at this;have:=Hp.Took.adding HW.out HN.out HU.out HFIT.out this;rw [EC.out] at this;exact this);clear TOOK BC VL
  go_wp2_with fail
  go_loopg [10] m (fun g s wx=>∃ (i:Nat) (V:List Int),i<=m/\m-i<=g/\s = .int .i64 i/\Hid (Hp.Adding S t fs a k i V)/\Hid (RNow w wx r { S with words:=V }))
  case atStart=>exact ⟨0,_,Nat.zero_le _,by omega,rfl,AD0,N6⟩
  case round=>
   obtain ⟨i,V,hi',hg,rfl,AD,N⟩:=hrel;clear AD0 N6;have VL:=hZ (AD.out.len.trans EN.out)
   by_cases hlt:i < m
   . obtain ⟨x,hx⟩:=rd_get (l:=fs) (j:=i) (by rw [EM.out];exact hlt);have SQ:=hZ (HQ.out.but N.out.but HFAR.out);obtain ⟨qb,qo,hqp,hqb,hqc⟩:=SQ.out.cells (by rw [EM.out];omega);have gx:=hqc i x hx;have xw:=SQ.out.wf x (List.mem_of_getElem? hx);have XG:=hZ (show fs.getD i 0=x by rw [List.getD_eq_getElem?_getD];unfold Hp.rd at hx;rw [hx];rfl);have XM:=hZ (List.mem_of_getElem? hx);have tk:decide ((i:Int) < (m:Int))=true:=dT;clear hqc hx;subst hqp;obtain ⟨p1,p2,p3,p4⟩:IntKind.i64.wrap (((a:Nat):Int)+4)=((a:Nat):Int)+4/\(0:Int)<=((a:Nat):Int)+4/\((a:Nat):Int)+4 < ((n:Nat):Int)/\(((a:Nat):Int)+4).toNat=a+4:=⟨IntWalk.i64_in _ (by omega),by omega,by omega,by omega⟩
     obtain ⟨s1,s2,s3,s4⟩:IntKind.i64.wrap (((a:Nat):Int)+4+((i:Nat):Int))=((a:Nat):Int)+4+((i:Nat):Int)/\(0:Int)<=((a:Nat):Int)+4+((i:Nat):Int)/\((a:Nat):Int)+4+((i:Nat):Int) < ((n:Nat):Int)/\(((a:Nat):Int)+4+((i:Nat):Int)).toNat=a+4+i:=⟨IntWalk.i64_in _ (by omega),by omega,by omega,by omega⟩
     have lx:a+4+i < V.length:=by rw [VL.out];omega
     have LX:=hZ lx;clear lx
     cases he:Hp.isEnd t with
     | true=>
      have ST:=hZ (AD.out.stepEnd HW.out HN.out HU.out HFIT.out (i:=i) (by rw [EM.out];exact hlt) he);have t20:¬ t < 20:=by simp only [Hp.isEnd,Hp.within,Bool.and_eq_true,decide_eq_true_eq] at he;omega
      clear he
      go_wp2_with fail
      refine wp_region_still_tail 13 (by kernel_rfl) (by kernel_rfl) ?_;change wpStill _ _ (World.drew wr) (fun a'=>wpList _ _ _ _ a' (World.drew wr)) _ _;have ED:Ext wr (World.drew wr):=Ext.drew (Ext.refl _);have NY:=hZ (N.out.ext ED);generalize World.drew wr=wy at NY ED ⊢;have f2:=NY.out.f2;have z1:=NY.out.toRW.lt;have z2:=NY.out.words.lt;have c2':=NY.out.len VL.out;have gx':=(ED.cell hqb (qo+i)).trans gx;have g1:=NY.out.word (j:=a+4+i) (x:=_) LX.out rfl;have fr:=NY.out.words.froz (a+4+i);simp only [List.take_succ_cons,List.take_zero,List.drop_succ_cons,List.drop_zero]
      repeat still_step
      refine wpStill_nil ?_;clear p1 p2 p3 p4 s1 s2 s3 s4;have N1:=hZ (NY.out.set (j:=a+4+i) (v:=x) LX.out xw.1 xw.2);go_upto_region 14 with (fail)
      refine RNow.cut N1.out ?_;intro w7 N7';have N7:=hZ N7';clear N7' N1 NY c2' gx' g1 fr z1 z2 f2 ED;have ST2:Hid (Hp.Adding S t fs a k (i+1) (V.set (a+4+i) x)):=hZ (by have:=ST.out.2;rw [XG.out] at this;exact this)
      have RI:=hZ (by
       have:=rIsNode N7.out.toRW.at_ (a:=a) (by show a < (V.set (a+4+i) x).length;simp;rw [VL.out];omega);rw [show Hp.ow ({ S with words:=V.set (a+4+i) x }:Hp.Hs).words a=t from ST2.out.tag,decide_eq_false (show ¬ t < 20 by omega)] at this;exact this)
      go_wp2_with (go_at_call 87;refine (RI.out).mono ?_;rintro e w1 ⟨rfl,hb1⟩;obtain ⟨hc1,hf1,hs1⟩:=hb1.cells)
      go_roundg (m-(i+1))
      case measure=>omega
      case rel=>exact ⟨i+1,_,by omega,Nat.le_refl _,by go_num,ST2,hZ (N7.out.ext hb1)⟩
     | false=>
      obtain ⟨b,hb,hxb,_⟩:=HN.out.kids he x XM.out;have ST:=hZ (AD.out.stepNode HW.out HN.out HU.out HFIT.out (i:=i) (by rw [EM.out];exact hlt) he hb (XG.out.trans hxb));have t20:t < 20:=by
       have:=Hp.isNode_of HN.out.tag he;simp only [Hp.isNode,Hp.within,Bool.and_eq_true,decide_eq_true_eq] at this;have:=HW.out.fr.few;omega
      have ub:=HW.out.uses_le hb;have uv:=AD.out.uses b hb;have uc:((Hp.ksOf t fs).take i).count (b:Int)<=12:=by
       refine Nat.le_trans List.count_le_length ?_;rw [List.length_take];omega
      have vb:0<=Hp.ow V (b+1)/\Hp.ow V (b+1)<=200000:=by omega
      have bn:b+1 < n:=by have:=ST.out.2.1;rw [VL.out] at this;exact this
      have tg:=AD.out.tag;have TG:=hZ tg;subst hxb;clear he hb ub uv uc tg
      go_wp2_with fail
      refine wp_region_still_tail 13 (by kernel_rfl) (by kernel_rfl) ?_;change wpStill _ _ (World.drew wr) (fun a'=>wpList _ _ _ _ a' (World.drew wr)) _ _;have ED:Ext wr (World.drew wr):=Ext.drew (Ext.refl _);have NY:=hZ (N.out.ext ED);generalize World.drew wr=wy at NY ED ⊢;have f2:=NY.out.f2;have z1:=NY.out.toRW.lt;have z2:=NY.out.words.lt;have c2':=NY.out.len VL.out;have gx':=(ED.cell hqb (qo+i)).trans gx;have g1:=NY.out.word (j:=a+4+i) (x:=_) LX.out rfl;have fr:=NY.out.words.froz (a+4+i);simp only [List.take_succ_cons,List.take_zero,List.drop_succ_cons,List.drop_zero]
      repeat still_step
      refine wpStill_nil ?_;clear p1 p2 p3 p4 s1 s2 s3 s4;have N1:=hZ (NY.out.set (j:=a+4+i) (v:=(b:Int)) LX.out xw.1 xw.2);go_upto_region 14 with (fail)
      refine RNow.cut N1.out ?_;intro w7 N7';have N7:=hZ N7';clear N7' N1 NY c2' gx' g1 fr z1 z2 f2 ED gx
      have RI:=hZ (by
       have:=rIsNode N7.out.toRW.at_ (a:=a) (by show a < (V.set (a+4+i) (b:Int)).length;simp;rw [VL.out];omega);rw [show Hp.ow ({ S with words:=V.set (a+4+i) (b:Int) }:Hp.Hs).words a=t from (Hp.ow_set_ne LX.out (by omega)).trans TG.out,decide_eq_true (show t < 20 by omega)] at this;exact this)
      obtain ⟨qb',qo',hqp',hqb',hqc'⟩:=(HQ.out.but N7.out.but HFAR.out).cells (by rw [EM.out];omega)
      cases hqp'
      have gx := hqc' i (b : Int) (by have := XM.out; have e := XG.out; rw [List.getD_eq_getElem?_getD] at e; unfold Hp.rd; have hl : i < fs.length := by rw [EM.out]; exact hlt
                                      rw [List.getElem?_eq_getElem hl] at e ⊢;simpa using e)
      clear hqc';go_upto_region 15 with (go_at_call 87;refine (RI.out).mono ?_;rintro e w1 ⟨rfl,hb1⟩;obtain ⟨hc1,hf1,hs1⟩:=hb1.cells)
      have N8:=hZ (N7.out.ext hb1);have gx2:=(hb1.cell hqb' (qo+i)).trans gx;have zq:=Nat.lt_of_lt_of_le hqb' hb1.le;obtain ⟨p1,p2,p3,p4⟩:IntKind.i64.wrap (((b:Nat):Int)+1)=((b:Nat):Int)+1/\(0:Int)<=((b:Nat):Int)+1/\((b:Nat):Int)+1 < ((n:Nat):Int)/\(((b:Nat):Int)+1).toNat=b+1:=⟨IntWalk.i64_in _ (by omega),by omega,by omega,by omega⟩
      have wv:IntKind.i64.wrap (Hp.ow V (b+1)+1)=Hp.ow V (b+1)+1:=IntWalk.i64_in _ (by omega);have VB:=hZ vb;have VL2:=hZ (show (V.set (a+4+i) (b:Int)).length=n by simp;exact VL.out);clear gx hc1 hf1 hs1 vb;refine wp_region_still_tail 13 (by kernel_rfl) (by kernel_rfl) ?_;change wpStill _ _ (World.drew w1) (fun a'=>wpList _ _ _ _ a' (World.drew w1)) _ _;have ED:Ext w1 (World.drew w1):=Ext.drew (Ext.refl _);have NZ:=hZ (N8.out.ext ED);generalize World.drew w1=wz at NZ ED ⊢;have f2:=NZ.out.f2;have z1:=NZ.out.toRW.lt;have z2:=NZ.out.words.lt;have c2':=NZ.out.len VL2.out;have gx':=(ED.cell zq (qo+i)).trans gx2;have g1:=NZ.out.word (j:=b+1) (by rw [VL2.out];omega) ST.out.2.2.1;have fr:=NZ.out.words.froz (b+1);simp only [List.take_succ_cons,List.take_zero,List.drop_succ_cons,List.drop_zero]
      repeat still_step
      refine wpStill_nil ?_;clear p1 p2 p3 p4;have N9:=hZ (NZ.out.set (j:=b+1) (v:=Hp.ow V (b+1)+1) (by show b+1 < (V.set (a+4+i) (b:Int)).length;rw [VL2.out];omega) (by have:=VB.out;omega) (by have:=VB.out;omega))
      go_wp2_with fail
      go_roundg (m-(i+1))
      case measure=>omega
      case rel=>exact ⟨i+1,_,by omega,Nat.le_refl _,by go_num,hZ ST.out.2.2.2,N9⟩
   have:i=m:=by omega
   subst this;have tk:decide ((i:Int) < (i:Int))=false:=dF;have LK:=hZ (rLink (S:=S') (W:=V) (N.out.toRW.to HPUT.out.sizes HPUT.out.order rfl) HW'.out (HNEAR.out V (by rw [EM.out];exact AD.out)))
   go_wp2_with (go_at_call 152;refine LK.out.mono ?_;rintro e w7 ⟨rfl,hN7⟩)
   go_returns;exact ⟨rfl,N.out.trans hN7⟩
theorem cells_has (x:Int):(cellsI S).contains x=S.has x:=by
 rw [Bool.eq_iff_iff]
 simp only [List.contains_iff_mem]
 rw [cellsI_mem]
 unfold Hp.Hs.has
 simp only [Bool.and_eq_true,decide_eq_true_eq,List.contains_iff_mem]
 constructor
 . rintro ⟨a,ha,rfl⟩;exact ⟨by omega,by simpa using ha⟩
 rintro ⟨h1,h2⟩
 exact ⟨x.toNat,h2,by omega⟩
theorem rIs_has {ch:Nat->List Nat} (h:RAt w r S) (hw:Hp.Wf S B L ch) {b:Bool} (hb:S.has x=b):Calls Tryz.prog 26 #[.pointer (some ⟨r.rb,0,none⟩),.int .i64 x] w fun e w'=>e = .returned (.bool b)/\Ext w w':=by
 have:=rIs h hw x
 rw [cells_has,hb] at this
 exact this
set_option maxHeartbeats 2000000 in
theorem rHold {ch:Nat->List Nat} (h:RW w r S) (hw:Hp.Wf S B L ch) {e0:Int} (hr:S.hold x=some (e0,S')) :
    Calls Tryz.prog 148 #[.pointer (some ⟨r.rb,0,none⟩),.int .i64 x] w (RTurned r w (.int .i64 e0) S'):=by
  have H:=hZ (RNow.refl h);unfold Hp.Hs.hold at hr
  cases hb:S.has x with
  | false=>
   rw [if_pos hb] at hr;simp only [Option.some.injEq,Prod.mk.injEq] at hr;obtain ⟨rfl,rfl⟩:=hr;have IS:=hZ (rIs_has h.at_ hw hb);clear h hw hb;go_enter Tryz.func148,Tryz.ntmps148
   go_wp2_with (go_at_call 26;refine (IS.out).mono ?_;rintro e w1 ⟨rfl,hb1⟩;obtain ⟨hc1,hf1,hs1⟩:=hb1.cells)
   go_returns;exact (H.out.ext hb1).done
  | true=>
   obtain ⟨a,rfl,ha⟩:=Hp.has_yes hb;have pa:=hw.part ha;have IS:=hZ (rIs_has h.at_ hw hb);rw [if_neg (by rw [hb];simp)] at hr;have hv:=hw.holds a ha;have hbd:=hw.bd;have hhi:=hw.hi;simp only [Option.bind_eq_bind,Option.bind_eq_some_iff,Option.pure_def,Option.some.injEq,Prod.mk.injEq,Int.toNat_natCast] at hr;obtain ⟨v,hv',W,hW,rfl,rfl⟩:=hr;rw [Hp.rc_ow (by omega) (by omega) (by omega)] at hv'
   cases hv'
   have hl:a+2 < S.words.length:=by omega
   unfold Hp.wr at hW;rw [if_pos hl] at hW
   cases hW
   have hle:=h.le;have hcap:=h.cap;have HL:=hZ hl;have EV:=hZ hv;clear h hw hb ha pa;obtain ⟨p1,p2,p3,p4⟩:IntKind.i64.wrap (((a:Nat):Int)+2)=((a:Nat):Int)+2/\(0:Int)<=((a:Nat):Int)+2/\((a:Nat):Int)+2 < ((S.words.length:Nat):Int)/\(((a:Nat):Int)+2).toNat=a+2:=⟨IntWalk.i64_in _ (by omega),by omega,by omega,by omega⟩
   have wv:IntKind.i64.wrap (Hp.ow S.words (a+2)+1)=Hp.ow S.words (a+2)+1:=IntWalk.i64_in _ (by omega);go_enter Tryz.func148,Tryz.ntmps148;go_upto_region 3 with (go_at_call 26;refine (IS.out).mono ?_;rintro e w1 ⟨rfl,hb1⟩;obtain ⟨hc1,hf1,hs1⟩:=hb1.cells)
   have NY:=hZ (H.out.ext hb1);have c2':=NY.out.c2;have z1:=NY.out.toRW.lt;have z2:=NY.out.words.lt;have g1:=NY.out.toRW.get HL.out;have fr:=NY.out.words.froz (a+2);have N2:=hZ (NY.out.set (j:=a+2) (v:=Hp.ow S.words (a+2)+1) HL.out (by have:=EV.out;omega) (by have:=EV.out;omega))
   go_wp2_with fail
   go_returns;exact N2.out.done
set_option maxHeartbeats 2000000 in
theorem rDrop {ch:Nat->List Nat} (h:RW w r S) (hw:Hp.Wf S B L ch) {e0:Int} (hr:S.drop x=some (e0,S')) :
    Calls Tryz.prog 149 #[.pointer (some ⟨r.rb,0,none⟩),.int .i64 x] w (RTurned r w (.int .i64 e0) S'):=by
  have H:=hZ (RNow.refl h);unfold Hp.Hs.drop at hr
  cases hb:S.has x with
  | false=>
   rw [if_pos hb] at hr;simp only [Option.some.injEq,Prod.mk.injEq] at hr;obtain ⟨rfl,rfl⟩:=hr;have IS:=hZ (rIs_has h.at_ hw hb);clear h hw hb;go_enter Tryz.func149,Tryz.ntmps149
   go_wp2_with (go_at_call 26;refine (IS.out).mono ?_;rintro e w1 ⟨rfl,hb1⟩;obtain ⟨hc1,hf1,hs1⟩:=hb1.cells)
   go_returns;exact (H.out.ext hb1).done
  | true=>
   obtain ⟨a,rfl,ha⟩:=Hp.has_yes hb;have pa:=hw.part ha;have IS:=hZ (rIs_has h.at_ hw hb);rw [if_neg (by rw [hb];simp)] at hr;have hv:=hw.holds a ha;have hbd:=hw.bd;have hhi:=hw.hi;simp only [Option.bind_eq_bind,Option.bind_eq_some_iff,Option.pure_def,Int.toNat_natCast] at hr;obtain ⟨v,hv',hr⟩:=hr;rw [Hp.rc_ow (by omega) (by omega) (by omega)] at hv'
   cases hv'
   have hl:a+2 < S.words.length:=by omega
   have hle:=h.le;have hcap:=h.cap;have HL:=hZ hl;have EV:=hZ hv;obtain ⟨p1,p2,p3,p4⟩:IntKind.i64.wrap (((a:Nat):Int)+2)=((a:Nat):Int)+2/\(0:Int)<=((a:Nat):Int)+2/\((a:Nat):Int)+2 < ((S.words.length:Nat):Int)/\(((a:Nat):Int)+2).toNat=a+2:=⟨IntWalk.i64_in _ (by omega),by omega,by omega,by omega⟩
   by_cases h0:Hp.ow S.words (a+2)=0
   . rw [if_pos h0] at hr;simp only [Option.some.injEq,Prod.mk.injEq] at hr;obtain ⟨rfl,rfl⟩:=hr;have t0:(Hp.ow S.words (a+2) == 0)=true:=by simpa using h0
     clear h hw hb ha pa h0;go_enter Tryz.func149,Tryz.ntmps149
     go_wp2_with (go_at_call 26;refine (IS.out).mono ?_;rintro e w1 ⟨rfl,hb1⟩;obtain ⟨hc1,hf1,hs1⟩:=hb1.cells;have N1:=hZ (H.out.ext hb1);have c2':=N1.out.c2;have g1:=N1.out.toRW.get HL.out;have z1:=N1.out.toRW.lt)
     go_returns;exact N1.out.done
   rw [if_neg h0] at hr;simp only [Option.bind_eq_some_iff,Option.some.injEq,Prod.mk.injEq] at hr;obtain ⟨W,hW,rfl,rfl⟩:=hr;unfold Hp.wr at hW;rw [if_pos hl] at hW
   cases hW
   have t0:(Hp.ow S.words (a+2) == 0)=false:=by simpa using h0
   have wv:IntKind.i64.wrap (Hp.ow S.words (a+2)-1)=Hp.ow S.words (a+2)-1:=IntWalk.i64_in _ (by omega);clear h hw hb ha pa h0;go_enter Tryz.func149,Tryz.ntmps149;go_upto_region 5 with (go_at_call 26;refine (IS.out).mono ?_;rintro e w1 ⟨rfl,hb1⟩;obtain ⟨hc1,hf1,hs1⟩:=hb1.cells;have N1:=hZ (H.out.ext hb1);have c2':=N1.out.c2;have g1:=N1.out.toRW.get HL.out;have z1:=N1.out.toRW.lt)
   have z2:=N1.out.words.lt;have fr:=N1.out.words.froz (a+2);have N2:=hZ (N1.out.set (j:=a+2) (v:=Hp.ow S.words (a+2)-1) HL.out (by have:=EV.out;omega) (by have:=EV.out;omega))
   go_wp2_with fail
   go_returns;exact N2.out.done
theorem dIsCell_not {f n:Int} (h3:0<=f) (h:(f=0/\Hp.within (-9999) 9999 n=false) \/ (f ≠ 0/\(¬ f<=4 \/ n ≠ 0))) :
    Calls Tryz.prog 134 #[.agg #[.int .u8 f,.int .i64 n]] w fun e w'=>e = .returned (.bool false)/\Ext w w':=by
  rcases h with ⟨h0,e⟩ | ⟨h0,h4 | h4⟩
  . subst h0;have IN:=hZ (fun W=>e ▸ dIn n (-9999) 9999 W);clear e;go_enter Tryz.func134,Tryz.ntmps134
    go_wp2_with (go_at_call 66;refine (IN.out _).mono ?_;rintro e w1 ⟨rfl,hb1⟩;obtain ⟨hc1,hf1,hs1⟩:=hb1.cells;have hz1_0:w.heap.size < w1.heap.size:=(by have h:=hb1.le;(try simp at h);omega);have hc1_0:=hb1.cell (b:=w.heap.size) (by first | omega | (simp;done) | (simp;omega));have hf1_0:=hb1.frozen (b:=w.heap.size) (by first | omega | (simp;done) | (simp;omega)))
    go_returns;exact ⟨rfl,exx⟩
  . have t0:(f == 0)=false:=by simpa using h0
    have t1:decide (f<=4)=false:=decide_eq_false h4;go_enter Tryz.func134,Tryz.ntmps134
    go_wp2_with fail
    go_returns;exact ⟨rfl,exx⟩
  have t0:(f == 0)=false:=by simpa using h0
  have t2:(n == 0)=false:=by simpa using h4
  by_cases h5:f<=4
  . have t1:decide (f<=4)=true:=decide_eq_true h5;clear h0 h4;go_enter Tryz.func134,Tryz.ntmps134
    go_wp2_with fail
    go_returns;exact ⟨rfl,exx⟩
  have t1:decide (f<=4)=false:=decide_eq_false h5;clear h0 h4;go_enter Tryz.func134,Tryz.ntmps134
  go_wp2_with fail
  go_returns;exact ⟨rfl,exx⟩
theorem Hp.check_split {ch:Nat->List Nat} (h:Hp.Wf S B L ch) (c:Int) (l:List Int):∃ e,S.checkNode c l=some e/\((Hp.within 0 ((S.sizes.length:Int)-1) c=false/\e=3) \/
    ∃ i:Nat,c=i/\i < S.sizes.length/\(((l.length:Int) ≠ Hp.ow S.sizes i/\e=4) \/ ((l.length:Int)=Hp.ow S.sizes i/\((l.all S.has=false/\e=7) \/ (l.all S.has=true /\ ∃ b,(b=true ↔ ∀ x ∈ l,∃ k ∈ S.taken,x=(k:Int)/\Hp.rank S.order (c+1) < Hp.rank S.order (Hp.ow S.words k))/\e=if b then 0 else 2))))):=by
  unfold Hp.Hs.checkNode
  cases hw:Hp.within 0 ((S.sizes.length:Int)-1) c with
  | false=>exact ⟨3,by simp,.inl ⟨rfl,rfl⟩⟩
  | true=>
   simp only [Hp.within,Bool.and_eq_true,decide_eq_true_eq] at hw;obtain ⟨i,rfl⟩:∃ i:Nat,c=i:=⟨c.toNat,by omega⟩
   have hc:i < S.sizes.length:=by omega
   simp only [Bool.true_eq_false,if_false,Int.toNat_natCast];rw [Hp.rd_ow hc];simp only [Option.bind_eq_bind,Option.bind_some]
   by_cases h1:(l.length:Int) ≠ Hp.ow S.sizes i
   . exact ⟨4,by rw [if_pos h1],.inr ⟨i,rfl,hc,.inl ⟨h1,rfl⟩⟩⟩
   rw [if_neg h1];have h1':(l.length:Int)=Hp.ow S.sizes i:=Classical.not_not.1 h1
   cases hh:l.all S.has with
   | false=>exact ⟨7,by simp,.inr ⟨i,rfl,hc,.inr ⟨h1',.inl ⟨rfl,rfl⟩⟩⟩⟩
   | true=>
    simp only [Bool.true_eq_false,if_false];rw [List.all_eq_true] at hh;obtain ⟨b,e1,e2⟩:=Hp.laters_total h (i:Int) l hh;rw [e1];simp only [Option.bind_some];refine ⟨if b then 0 else 2,by cases b <;> simp,.inr ⟨i,rfl,hc,.inr ⟨h1',.inr ⟨by simp,b,e2,rfl⟩⟩⟩⟩
set_option maxRecDepth 100000 in
set_option maxHeartbeats 8000000 in
theorem rCheckNode_any {ch:Nat->List Nat} (h:RAt w r S) (hw:Hp.Wf S B L ch) {c e0:Int} (hq:SliceAt w q qc l) (hc1 : -9223372036854775808<=c) (hc2:c<=9223372036854775807) (hr:S.checkNode c l=some e0) :
    Calls Tryz.prog 135 #[.pointer (some ⟨r.rb,0,none⟩),.int .i64 c,.slice q l.length qc] w fun e w'=>e = .returned (.int .i64 e0)/\Ext w w':=by
  obtain ⟨e',he',hs⟩:=Hp.check_split hw c l;rw [hr] at he'
  cases he'
  have c0:=h.c0;have hlt:=h.lt;have few:=hw.fr.few;have qle:=hq.le;have qcap:=hq.cap;have sle:=h.sizes.le;have scap:=h.sizes.cap;have IN0:=hZ (fun W=>dIn c 0 ((S.sizes.length:Int)-1) W)
  rcases hs with ⟨hwi,rfl⟩ | ⟨i,rfl,hi,hs⟩
  . rw [hwi] at IN0;clear h hw hq hr hwi;generalize S.sizes.length=n at *;have sn:IntKind.i64.wrap ((n:Int)-1)=(n:Int)-1:=IntWalk.i64_in _ (by omega);go_enter Tryz.func135,Tryz.ntmps135
    go_wp2_with (go_at_call 66;refine (IN0.out _).mono ?_;rintro e w1 ⟨rfl,hb1⟩;obtain ⟨hc1,hf1,hs1⟩:=hb1.cells)
    go_returns;exact ⟨rfl,exx⟩
  have hi3:=Hp.rd_ow hi;obtain ⟨sb,so,hsp,hsb,hsc⟩:=h.sizes.cells (by omega);have gs:=hsc i _ hi3;rw [hsp] at c0;rw [show Hp.within 0 ((S.sizes.length:Int)-1) (i:Int)=true by simp [Hp.within];omega] at IN0;obtain ⟨m,hm⟩:∃ m,l.length=m:=⟨_,rfl⟩
  have EM:=hZ hm;rw [hm] at hs qle ⊢;have hb:=hw.fr.pos _ (List.mem_of_getElem? hi3)
  rcases hs with ⟨hne,rfl⟩ | ⟨heq,hs⟩
  . have t0:((m:Int) != Hp.ow S.sizes i)=true:=by simpa using hne
    clear h hw hq hr hsc hi3 hne hm;generalize S.sizes.length=n at *;generalize Hp.ow S.sizes i=x at *;have sn:IntKind.i64.wrap ((n:Int)-1)=(n:Int)-1:=IntWalk.i64_in _ (by omega);go_enter Tryz.func135,Tryz.ntmps135
    go_wp2_with (go_at_call 66;refine (IN0.out _).mono ?_;rintro e w1 ⟨rfl,hb1⟩;obtain ⟨hc1,hf1,hs1⟩:=hb1.cells;have c0':=(hb1.cell hlt 0).trans c0;have gs':=(hb1.cell hsb (so+i)).trans gs)
    go_returns;exact ⟨rfl,exx⟩
  have t0:((m:Int) != Hp.ow S.sizes i)=false:=by simpa using heq
  have IS:=hZ (fun x (b:Bool) (hb:S.has x=b) W (hW:Ext w W)=>rIs_has (h.ext hW) hw hb);have RK:=hZ (fun b (hb:b ∈ S.taken) W (hW:Ext w W)=>rRank (h.ext hW) hw hb);have hmo:(i:Int) ∈ S.order:=hw.fr.perm i hi;obtain ⟨k,k1,k2,k3⟩:=index_spec hmo;have PL:=hZ (fun W (hW:Ext w W)=>rPlace (h.ext hW) k2 k3);have hrk:Hp.rank S.order ((i:Int)+1)=(k:Int):=by
   rw [rank_node (z:=S.sizes) (by simp [Hp.isEnd,Hp.within];omega),show (i:Int)+1-1=(i:Int) by omega,k1]
  rw [hrk] at hs;have hkb:k<=100:=by
   have:=rd_lt k2;have:=hw.fr.len;omega
  have hrl:∀ b,b ∈ S.taken->Hp.rank S.order (Hp.ow S.words b)<=100 /\ -1<=Hp.rank S.order (Hp.ow S.words b):=fun b hb=>by
   unfold Hp.rank
   split
   . have:=hw.fr.len;omega
   unfold Hp.index
   split
   . rename_i j hj;rw [List.findIdx?_eq_some_iff_getElem] at hj;have:=hj.1;have:=hw.fr.len;omega
   omega
  have HRL:=hZ hrl;have HQ:=hZ hq;have HS:=hZ hs;clear h hw hq hr hsc hi3 hm heq hs hmo k1 k2 k3 hrk hrl;generalize S.sizes.length=n at *;generalize Hp.ow S.sizes i=x at *;have sn:IntKind.i64.wrap ((n:Int)-1)=(n:Int)-1:=IntWalk.i64_in _ (by omega);go_enter Tryz.func135,Tryz.ntmps135
  go_wp2_with (go_at_call 66;refine (IN0.out _).mono ?_;rintro e w1 ⟨rfl,hb1⟩;obtain ⟨hc1,hf1,hs1⟩:=hb1.cells;have c0':=(hb1.cell hlt 0).trans c0;have gs':=(hb1.cell hsb (so+i)).trans gs)
  have E1:=hZ hb1;clear hb1 hc1 hf1 hs1 c0' gs' t0 sn
  go_loopg [7] m (fun g s wr=>∃ j:Nat,j<=m/\m-j<=g/\s = .int .i64 j/\Hid (Ext w wr)/\Hid (∀ i y,i < j->Hp.rd l i=some y->S.has y=true))
  case atStart=>exact ⟨0,Nat.zero_le _,by omega,rfl,E1,hZ (fun i _ hi=>absurd hi (Nat.not_lt_zero _))⟩
  case round=>
   obtain ⟨j,hj,hg,rfl,E,A⟩:=hrel
   by_cases hlt2:j < m
   . obtain ⟨y,hy⟩:=rd_get (l:=l) (j:=j) (by rw [EM.out];exact hlt2);obtain ⟨qb,qo,hqp,hqb,hqc⟩:=(HQ.out.ext E.out).cells (by rw [EM.out];omega);have gq:=hqc j _ hy;have HY:=hZ hy;have tk:decide ((j:Int) < (m:Int))=true:=dT;clear hqc hy;subst hqp
     cases hh:S.has y with
     | true=>
      have A2:Hid (∀ i y,i < j+1->Hp.rd l i=some y->S.has y=true):=hZ (fun i z hi hz=>by
       by_cases e:i=j
       . subst e;rw [HY.out] at hz
         cases hz
         exact hh
       . exact A.out i z (by omega) hz)
      have ISY:=hZ (IS.out y true hh wr E.out);clear hh
      go_wp2_with (go_at_call 26;refine ISY.out.mono ?_;rintro e w2 ⟨rfl,hE2⟩)
      have E2:=hZ (E.out.trans hE2)
      go_roundg (m-(j+1))
      case measure=>omega
      case rel=>exact ⟨j+1,by omega,Nat.le_refl _,by go_num,E2,A2⟩
     | false=>
      have hall:l.all S.has=false:=by
       cases ha:l.all S.has with
       | false=>rfl
       | true=>
        rw [List.all_eq_true] at ha;have:=ha y (List.mem_of_getElem? HY.out);rw [hh] at this
        cases this
      have he7:e0=7:=by
       rcases HS.out with ⟨_,e⟩ | ⟨h1,_⟩
       . exact e
       rw [hall] at h1
       cases h1
      subst he7;have ISY:=hZ (IS.out y false hh wr E.out);clear hh hall
      go_wp2_with (go_at_call 26;refine ISY.out.mono ?_;rintro e w2 ⟨rfl,hE2⟩)
      go_returns;exact ⟨rfl,E.out.trans hE2⟩
   have tk:decide ((j:Int) < (m:Int))=false:=dF;have hall:∀ y ∈ l,S.has y=true:=fun y hy=>by
    obtain ⟨i,hi,e⟩:=List.getElem_of_mem hy;have:=EM.out;exact A.out i y (by omega) (by unfold Hp.rd;rw [List.getElem?_eq_getElem hi,e])
   have HALL:=hZ hall;obtain ⟨b,hb,he0⟩:∃ b,(b=true ↔ ∀ x ∈ l,∃ q ∈ S.taken,x=(q:Int)/\(k:Int) < Hp.rank S.order (Hp.ow S.words q))/\e0=if b then 0 else 2:=by
    rcases HS.out with ⟨h1,_⟩ | ⟨_,h1⟩
    . rw [List.all_eq_true.2 hall] at h1
      cases h1
    exact h1
   have HB:=hZ hb;have HE:=hZ he0;clear hall hb he0
   go_wp2_with fail
   clear tk hj hg hlt2 E1 A
   go_loopg [8] m (fun g s wr=>∃ j:Nat,j<=m/\m-j<=g/\s = .int .i64 j/\Hid (Ext w wr)/\Hid (∀ i y,i < j->Hp.rd l i=some y -> ∃ q ∈ S.taken,y=(q:Int)/\(k:Int) < Hp.rank S.order (Hp.ow S.words q)))
   case atStart=>exact ⟨0,Nat.zero_le _,by omega,rfl,E,hZ (fun i _ hi=>absurd hi (Nat.not_lt_zero _))⟩
   case round=>
    obtain ⟨j,hj,hg,rfl,E,A⟩:=hrel
    by_cases hlt2:j < m
    . obtain ⟨y,hy⟩:=rd_get (l:=l) (j:=j) (by rw [EM.out];exact hlt2);obtain ⟨qb,qo,hqp,hqb,hqc⟩:=(HQ.out.ext E.out).cells (by rw [EM.out];omega);have gq:=hqc j _ hy;obtain ⟨d,rfl,hd⟩:=Hp.has_yes (HALL.out y (List.mem_of_getElem? hy));have HY:=hZ hy;have RKB:=hZ (fun W (hW:Ext w W)=>RK.out d hd W hW);have hb4:=HRL.out d hd;have HD:=hZ hd;have tk:decide ((j:Int) < (m:Int))=true:=dT;clear hqc hy hd;subst hqp
      by_cases hrk:(k:Int) < Hp.rank S.order (Hp.ow S.words d)
      . have A2:Hid (∀ i y,i < j+1->Hp.rd l i=some y -> ∃ q ∈ S.taken,y=(q:Int)/\(k:Int) < Hp.rank S.order (Hp.ow S.words q)):=hZ (fun i z hi hz=>by
          by_cases e:i=j
          . subst e;rw [HY.out] at hz
            cases hz
            exact ⟨d,HD.out,rfl,hrk⟩
          . exact A.out i z (by omega) hz)
        generalize Hp.rank S.order (Hp.ow S.words d)=rk at *;have t0:decide (rk<=(k:Int))=false:=dF;clear hrk
        go_wp2_with (first
         | (go_at_call 172;refine (RKB.out _ E.out).mono ?_;rintro e w2 ⟨rfl,hE2⟩)
         | (go_at_call 173;refine (PL.out _ (E.out.trans hE2)).mono ?_;rintro e w3 ⟨rfl,hE3⟩))
        have E2:=hZ (E.out.trans (hE2.trans hE3))
        go_roundg (m-(j+1))
        case measure=>omega
        case rel=>exact ⟨j+1,by omega,Nat.le_refl _,by go_num,E2,A2⟩
      have hbf:b=false:=by
       cases b with
       | false=>rfl
       | true=>
        obtain ⟨d',_,e,h2⟩:=HB.out.1 rfl (d:Int) (List.mem_of_getElem? HY.out);have:d=d':=by omega
        subst this;exact absurd h2 hrk
      have he2:=HE.out;rw [hbf] at he2;simp only [Bool.false_eq_true,if_false] at he2;subst he2;generalize Hp.rank S.order (Hp.ow S.words d)=rk at *;have t0:decide (rk<=(k:Int))=true:=dT;clear hrk
      go_wp2_with (first
       | (go_at_call 172;refine (RKB.out _ E.out).mono ?_;rintro e w2 ⟨rfl,hE2⟩)
       | (go_at_call 173;refine (PL.out _ (E.out.trans hE2)).mono ?_;rintro e w3 ⟨rfl,hE3⟩))
      go_returns;exact ⟨rfl,E.out.trans (hE2.trans hE3)⟩
    have tk:decide ((j:Int) < (m:Int))=false:=dF;have hbt:b=true:=HB.out.2 fun y hy=>by
     obtain ⟨i,hi,e⟩:=List.getElem_of_mem hy;have:=EM.out;exact A.out i y (by omega) (by unfold Hp.rd;rw [List.getElem?_eq_getElem hi,e])
    have he2:=HE.out;rw [hbt] at he2;simp only [if_true] at he2;subst he2
    go_wp2_with fail
    go_returns;exact ⟨rfl,E.out⟩
theorem rAdd {ch:Nat->List Nat} (h:RW w r S) (hw:Hp.Wf S B L ch) (hn:Hp.New S t fs) (hq:SliceAt w q qc fs) (hfar:∀ b o,q=some ⟨b,o,none⟩->b ∉ r.own) (ha:S.add t fs=some (a,S')) :
    Calls Tryz.prog 162 #[.pointer (some ⟨r.rb,0,none⟩),.int .i64 t,.slice q fs.length qc] w (RTurned r w (.int .i64 a) S'):=by
  have hwd:=(hn.wide hw).1
  rcases Hp.add_wf hw hn with ⟨b,hb,e1,e2,e3⟩ | ⟨hmiss,⟨hno,e3⟩ | ⟨P,u,Q,S'',hL,hno,hf,hfit,e3,hput,hwf⟩⟩
  . rw [ha] at e3
    cases e3
    subst e1 e2;exact rAdd_hit h hw hb hq
  . rw [ha] at e3
    cases e3
    exact rAdd_full h hw hn hq hmiss hno
  rw [ha] at e3
  cases e3
  obtain ⟨a,k,fr⟩:=u;simp only at hf;subst hf hL;rw [hwd] at hno hfit;exact rAdd_new h hw hn hq hfar hmiss hno hfit hput hwf fun W A=>Hp.Adding.near hw hn hfit A hput hwf
theorem RW.own_lt (h:RW w r S):∀ b ∈ r.own,b < w.heap.size:=by
 intro b hb
 simp [Rd.own] at hb
 rcases hb with rfl | rfl
 . exact h.lt
 exact h.words.lt
set_option maxRecDepth 100000 in
set_option maxHeartbeats 4000000 in
theorem rEnd {ch:Nat->List Nat} (h:RW w r S) (hw:Hp.Wf S B L ch) {n:Int} (hf:f < 256) (hn1 : -9223372036854775808<=n) (hn2:n<=9223372036854775807) {x:Int × Int × Hp.Hs} (hr:S.end' f n=some x) :
    Calls Tryz.prog 112 #[.pointer (some ⟨r.rb,0,none⟩),.agg #[.int .u8 f,.int .i64 n]] w (RTurned r w (.tuple #[.int .i64 x.1,.int .i64 x.2.1]) x.2.2):=by
  have H:=hZ (RNow.refl h);have HW:=hZ hw;unfold Hp.Hs.end' at hr
  by_cases hbad:(f:Int) > 4 \/ ((f:Int) > 0/\n ≠ 0) \/ Hp.within (-9999) 9999 n=false
  . rw [if_pos hbad] at hr
    cases hr
    have hb2:((f:Int)=0/\Hp.within (-9999) 9999 n=false) \/ ((f:Int) ≠ 0/\(¬ (f:Int)<=4 \/ n ≠ 0)):=by
     rcases hbad with h1 | h1 | h1
     . exact .inr ⟨by omega,.inl (by omega)⟩
     . exact .inr ⟨by omega,.inr h1.2⟩
     by_cases h0:(f:Int)=0
     . exact .inl ⟨h0,h1⟩
     refine .inr ⟨h0,.inr fun e=>?_⟩;subst e;simp [Hp.within] at h1
    have IC:=hZ (fun W=>dIsCell_not (w:=W) (f:=(f:Int)) (n:=n) (by omega) hb2);clear h hw hbad hb2;go_enter Tryz.func112,Tryz.ntmps112
    go_wp2_with (go_at_call 134;refine (IC.out _).mono ?_;rintro e w1 ⟨rfl,hb1⟩;obtain ⟨hc1,hf1,hs1⟩:=hb1.cells)
    go_ret2
    exact ⟨rfl,H.out.ext (exx)⟩
  rw [if_neg hbad] at hr;simp only [not_or,not_and,Classical.not_not] at hbad;obtain ⟨h1,h2,h3⟩:=hbad;have h3:Hp.within (-9999) 9999 n=true:=by
   cases hq:Hp.within (-9999) 9999 n with
   | true=>rfl
   | false=>exact absurd hq h3
  simp only [Hp.within,Bool.and_eq_true,decide_eq_true_eq] at h3;simp only [Option.bind_eq_bind,Option.bind_eq_some_iff,Option.pure_def,Option.some.injEq] at hr;obtain ⟨⟨a,S'⟩,ha,rfl⟩:=hr;rw [full_eq];have IC:=hZ (fun W=>dIsCell_is (w:=W) (f:=(f:Int)) (n:=n) (fun _=>h3) (fun hne=>h2 (by omega)) (by omega) (by omega));have NW:=Hp.new_end (S:=S) (fault:=(f:Int)) (n:=n) (by omega) (by omega) (fun hp=>h2 hp) h3.1 h3.2;have key:∀ w2,Ext w w2->Calls Tryz.prog 162 #[.pointer (some ⟨r.rb,0,none⟩),.int .i64 (20+f),.slice (some ⟨w2.heap.size,0,none⟩) 1 1] (w2.alloc (.cells #[.int .i64 n] 3)) (fun e w'=>e = .returned (.int .i64 a)/\RNow w w' r S'):=by
   intro w2 E;have E2:Ext w (w2.alloc (.cells #[.int .i64 n] 3)):=E.alloc _;refine (rAdd (H.out.ext E2).toRW HW.out NW (SliceAt.one w2 n hn1 hn2 3) (fun b o e=>?_) ha).mono ?_
   . cases e
     intro hm;have:=H.out.toRW.own_lt _ hm;have:=E.le;omega
   rintro e w' ⟨rfl,h1⟩;exact ⟨rfl,(H.out.ext E2).trans h1⟩
  have KEY:=hZ key;have w20:wrap64 ((20:Int)+(f:Int))=(20:Int)+(f:Int):=IntWalk.wrap64_in _ ⟨by omega,by omega⟩;clear h hw key ha NW h1 h2 h3
  by_cases ha0:a=0
  . subst ha0;go_enter Tryz.func112,Tryz.ntmps112
    go_wp2_with (first
     | (go_at_call 134;refine (IC.out _).mono ?_;rintro e w1 ⟨rfl,hb1⟩;obtain ⟨hc1,hf1,hs1⟩:=hb1.cells;have hz1_0:w.heap.size < w1.heap.size:=(by have h:=hb1.le;(try simp at h);omega);have hc1_0:=hb1.cell (b:=w.heap.size) (by first | omega | (simp;done) | (simp;omega));have hf1_0:=hb1.frozen (b:=w.heap.size) (by first | omega | (simp;done) | (simp;omega)))
     | (go_at_call 162;refine (KEY.out _ (exx)).mono ?_;rintro e w3 ⟨rfl,N3⟩))
    go_ret2
    exact ⟨rfl,N3⟩
  have t0:((a:Int) == 0)=false:=by simp;omega
  have e8:err8 a=0:=by simp [err8,ha0]
  rw [e8];clear ha0 e8;go_enter Tryz.func112,Tryz.ntmps112
  go_wp2_with (first
   | (go_at_call 134;refine (IC.out _).mono ?_;rintro e w1 ⟨rfl,hb1⟩;obtain ⟨hc1,hf1,hs1⟩:=hb1.cells;have hz1_0:w.heap.size < w1.heap.size:=(by have h:=hb1.le;(try simp at h);omega);have hc1_0:=hb1.cell (b:=w.heap.size) (by first | omega | (simp;done) | (simp;omega));have hf1_0:=hb1.frozen (b:=w.heap.size) (by first | omega | (simp;done) | (simp;omega)))
   | (go_at_call 162;refine (KEY.out _ (exx)).mono ?_;rintro e w3 ⟨rfl,N3⟩))
  go_ret2
  exact ⟨rfl,N3⟩
theorem Hp.node_ok {ch:Nat->List Nat} (h:Hp.Wf S B L ch) {c:Int} (hr:S.checkNode c l=some 0):1<=l.length/\l.length<=12/\0<=c/\c<=100/\(Hp.Hs.alike l=false->Hp.New S (c+1) l):=by
 obtain ⟨e,he,hz⟩:=Hp.checkNode_total h c l
 rw [hr] at he
 cases he
 obtain ⟨h1,h2,h3⟩:=hz rfl
 have ok:Hp.okTag S.sizes (c+1)=true:=by simp [Hp.okTag,h1]
 have:=Hp.wz_ok h.fr.toFr ok
 have:=h.fr.few
 have h1':=h1
 simp only [Hp.isNode,Hp.within,Bool.and_eq_true,decide_eq_true_eq] at h1'
 exact ⟨by omega,by omega,by omega,by omega,fun h4=>Hp.new_node h h1 h2 h3 h4⟩
set_option maxRecDepth 100000 in
set_option maxHeartbeats 4000000 in
theorem rMake {ch:Nat->List Nat} (h:RW w r S) (hw:Hp.Wf S B L ch) {c:Int} (hq:SliceAt w q qc l) (hfar:∀ b o,q=some ⟨b,o,none⟩->b ∉ r.own) (hc1 : -9223372036854775808<=c) (hc2:c<=9223372036854775807) {x:Int × Int × Hp.Hs} (hr:S.make c l=some x) :
    Calls Tryz.prog 114 #[.pointer (some ⟨r.rb,0,none⟩),.int .i64 c,.slice q l.length qc] w (RTurned r w (.tuple #[.int .i64 x.1,.int .i64 x.2.1]) x.2.2):=by
  have H:=hZ (RNow.refl h);have HW:=hZ hw;have HQ:=hZ hq;have HFAR:=hZ hfar;unfold Hp.Hs.make at hr;simp only [Option.bind_eq_bind,Option.bind_eq_some_iff] at hr;obtain ⟨e0,he,hr⟩:=hr;have CN:=hZ (rCheckNode_any h.at_ hw hq hc1 hc2 he)
  by_cases h0:e0=0
  case neg=>
   rw [if_pos h0] at hr
   cases hr
   have t0:(e0 != 0)=true:=by simpa using h0
   clear h hw hq hfar he h0;go_enter Tryz.func114,Tryz.ntmps114
   go_wp2_with (go_at_call 135;refine (CN.out).mono ?_;rintro e w1 ⟨rfl,hb1⟩;obtain ⟨hc1,hf1,hs1⟩:=hb1.cells)
   go_ret2
   exact ⟨rfl,H.out.ext hb1⟩
  case pos=>
   subst h0;rw [if_neg (by simp)] at hr;obtain ⟨l1,l12,c0,c100,hnew⟩:=Hp.node_ok hw he;obtain ⟨y,hy⟩:=rd_get (l:=l) (j:=0) (by omega);obtain ⟨b,o,hp,hb,hcell⟩:=hq.cells (by omega);have g:=hcell 0 y hy;simp only [Nat.add_zero] at g;have hle:=hq.le;have hcap:=hq.cap;subst hp;have FL:=hZ (fun (bb:Bool) (hbb:Hp.Hs.alike l=bb) W (hW:Ext w W)=>dFlat (v:=0) (HQ.out.ext hW) hbb)
   cases ha:Hp.Hs.alike l with
   | true=>
    rw [if_pos ha] at hr;simp only [Option.bind_eq_some_iff] at hr;obtain ⟨y',hy',hr⟩:=hr
    cases hr
    have:y'=y:=by
     cases l with
     | nil=>cases hy
     | cons a r=>
      have e1:a=y':=by simpa using hy'
      have e2:a=y:=by simpa [Hp.rd] using hy
      rw [<- e1,e2]
    subst this;have FL2:=hZ (FL.out true ha);clear h hw hq hfar he hy hy' ha hcell hnew FL;have z:=hZ hb;generalize l.length=m at *;go_enter Tryz.func114,Tryz.ntmps114
    go_wp2_with (first
     | (go_at_call 135;refine (CN.out).mono ?_;rintro e w1 ⟨rfl,hb1⟩;obtain ⟨hc1,hf1,hs1⟩:=hb1.cells)
     | (go_at_call 136;refine (FL2.out _ hb1).mono ?_;rintro e w2 ⟨rfl,hb2⟩;obtain ⟨hc2,hf2,hs2⟩:=hb2.cells;have g2:=((hb1.trans hb2).cell z.out o).trans g))
    go_ret2
    exact ⟨rfl,(H.out.ext hb1).ext hb2⟩
   | false=>
    rw [if_neg (by rw [ha];simp)] at hr;simp only [Option.bind_eq_some_iff,Option.pure_def,Option.some.injEq] at hr;obtain ⟨⟨a,S'⟩,had,rfl⟩:=hr;rw [full_eq];have FL2:=hZ (FL.out false ha);have NW:=hnew ha;have AD:Hid (∀ W,Ext w W->Calls Tryz.prog 162 #[.pointer (some ⟨r.rb,0,none⟩),.int .i64 (1+c),.slice (some ⟨b,o,none⟩) l.length qc] W (fun e w'=>e = .returned (.int .i64 a)/\RNow w w' r S')):=hZ (fun W hW=>by
     rw [show (1:Int)+c=c+1 by omega];refine (rAdd (H.out.ext hW).toRW HW.out NW (HQ.out.ext hW) HFAR.out had).mono ?_;rintro e w' ⟨rfl,h1⟩;exact ⟨rfl,(H.out.ext hW).trans h1⟩)
    have w1':wrap64 ((1:Int)+c)=(1:Int)+c:=IntWalk.wrap64_in _ ⟨by omega,by omega⟩;clear h hw hq hfar he hy ha hcell hnew NW FL g had;generalize l.length=m at *
    by_cases ha0:a=0
    . subst ha0;go_enter Tryz.func114,Tryz.ntmps114
      go_wp2_with (first
       | (go_at_call 135;refine (CN.out).mono ?_;rintro e w1 ⟨rfl,hb1⟩;obtain ⟨hc1,hf1,hs1⟩:=hb1.cells)
       | (go_at_call 136;refine (FL2.out _ hb1).mono ?_;rintro e w2 ⟨rfl,hb2⟩;obtain ⟨hc2,hf2,hs2⟩:=hb2.cells)
       | (go_at_call 162;refine (AD.out _ (hb1.trans hb2)).mono ?_;rintro e w3 ⟨rfl,N3⟩))
      go_ret2
      exact ⟨rfl,N3⟩
    have t0:((a:Int) == 0)=false:=by simp;omega
    have e8:err8 a=0:=by simp [err8,ha0]
    rw [e8];clear ha0 e8;go_enter Tryz.func114,Tryz.ntmps114
    go_wp2_with (first
     | (go_at_call 135;refine (CN.out).mono ?_;rintro e w1 ⟨rfl,hb1⟩;obtain ⟨hc1,hf1,hs1⟩:=hb1.cells)
     | (go_at_call 136;refine (FL2.out _ hb1).mono ?_;rintro e w2 ⟨rfl,hb2⟩;obtain ⟨hc2,hf2,hs2⟩:=hb2.cells)
     | (go_at_call 162;refine (AD.out _ (hb1.trans hb2)).mono ?_;rintro e w3 ⟨rfl,N3⟩))
    go_ret2
    exact ⟨rfl,N3⟩
set_option maxRecDepth 100000 in
set_option maxHeartbeats 4000000 in
theorem rFind {ch:Nat->List Nat} (h:RAt w r S) (hw:Hp.Wf S B L ch) {c:Int} (hq:SliceAt w q qc l) (hc1 : -9223372036854775808<=c) (hc2:c<=9223372036854775807) {x:Int × Int} (hr:S.find c l=some x) :
    Calls Tryz.prog 147 #[.pointer (some ⟨r.rb,0,none⟩),.int .i64 c,.slice q l.length qc] w fun e w'=>e = .returned (.tuple #[.int .i64 x.1,.int .i64 x.2])/\Ext w w':=by
  have HQ:=hZ hq;unfold Hp.Hs.find at hr;simp only [Option.bind_eq_bind,Option.bind_eq_some_iff] at hr;obtain ⟨e0,he,hr⟩:=hr;have CN:=hZ (rCheckNode_any h hw hq hc1 hc2 he)
  by_cases h0:e0=0
  case neg=>
   rw [if_pos h0] at hr
   cases hr
   have t0:(e0 != 0)=true:=by simpa using h0
   clear h hw hq he h0;go_enter Tryz.func147,Tryz.ntmps147
   go_wp2_with (go_at_call 135;refine (CN.out).mono ?_;rintro e w1 ⟨rfl,hb1⟩;obtain ⟨hc1,hf1,hs1⟩:=hb1.cells)
   go_ret2
   exact ⟨rfl,hb1⟩
  case pos=>
   subst h0;rw [if_neg (by simp)] at hr;obtain ⟨l1,l12,c0,c100,hnew⟩:=Hp.node_ok hw he;obtain ⟨y,hy⟩:=rd_get (l:=l) (j:=0) (by omega);obtain ⟨b,o,hp,hb,hcell⟩:=hq.cells (by omega);have g:=hcell 0 y hy;simp only [Nat.add_zero] at g;have hle:=hq.le;have hcap:=hq.cap;subst hp;have FL:=hZ (fun (bb:Bool) (hbb:Hp.Hs.alike l=bb) W (hW:Ext w W)=>dFlat (v:=0) (HQ.out.ext hW) hbb)
   cases ha:Hp.Hs.alike l with
   | true=>
    rw [if_pos ha] at hr;simp only [Option.bind_eq_some_iff] at hr;obtain ⟨y',hy',hr⟩:=hr
    cases hr
    have:y'=y:=by
     cases l with
     | nil=>cases hy
     | cons a r=>
      have e1:a=y':=by simpa using hy'
      have e2:a=y:=by simpa [Hp.rd] using hy
      rw [<- e1,e2]
    subst this;have FL2:=hZ (FL.out true ha);clear h hw hq he hy hy' ha hcell hnew FL;have z:=hZ hb;generalize l.length=m at *;go_enter Tryz.func147,Tryz.ntmps147
    go_wp2_with (first
     | (go_at_call 135;refine (CN.out).mono ?_;rintro e w1 ⟨rfl,hb1⟩;obtain ⟨hc1,hf1,hs1⟩:=hb1.cells)
     | (go_at_call 136;refine (FL2.out _ hb1).mono ?_;rintro e w2 ⟨rfl,hb2⟩;obtain ⟨hc2,hf2,hs2⟩:=hb2.cells;have g2:=((hb1.trans hb2).cell z.out o).trans g))
    go_ret2
    exact ⟨rfl,hb1.trans hb2⟩
   | false=>
    rw [if_neg (by rw [ha];simp)] at hr;simp only [Option.bind_eq_some_iff] at hr;obtain ⟨a,hlk,hr⟩:=hr;have FL2:=hZ (FL.out false ha);have NW:=hnew ha;have SM:Hid (∀ W,Ext w W->Calls Tryz.prog 133 #[.pointer (some ⟨r.rb,0,none⟩),.int .i64 (1+c),.slice (some ⟨b,o,none⟩) l.length qc] W (fun e w'=>e = .returned (.int .i64 a)/\Ext W w')):=hZ (fun W hW=>by
     rw [show (1:Int)+c=c+1 by omega];have hck:=Hp.ck_of hw NW
     rcases Hp.look_spec hw hck (Hp.cz_lt _ _) with ⟨a',ha',e1,e2,e3⟩ | ⟨hmiss,e3⟩
     . rw [hlk] at e3
       cases e3
       have:=rSame (h.ext hW) hw ha' (e2.symm ▸ HQ.out.ext hW);rw [e1,e2] at this;exact this
     . rw [hlk] at e3
       cases e3
       exact rSame_no (h.ext hW) hw (HQ.out.ext hW) hmiss)
    have w1':wrap64 ((1:Int)+c)=(1:Int)+c:=IntWalk.wrap64_in _ ⟨by omega,by omega⟩;clear h hw hq he hy ha hcell hnew NW FL g hlk;generalize l.length=m at *
    by_cases ha0:a=0
    . subst ha0;rw [if_pos rfl] at hr
      cases hr
      go_enter Tryz.func147,Tryz.ntmps147
      go_wp2_with (first
       | (go_at_call 135;refine (CN.out).mono ?_;rintro e w1 ⟨rfl,hb1⟩;obtain ⟨hc1,hf1,hs1⟩:=hb1.cells)
       | (go_at_call 136;refine (FL2.out _ hb1).mono ?_;rintro e w2 ⟨rfl,hb2⟩;obtain ⟨hc2,hf2,hs2⟩:=hb2.cells)
       | (go_at_call 133;refine (SM.out _ (hb1.trans hb2)).mono ?_;rintro e w3 ⟨rfl,hb3⟩;obtain ⟨hc3,hf3,hs3⟩:=hb3.cells))
      go_ret2
      exact ⟨rfl,(hb1.trans hb2).trans hb3⟩
    rw [if_neg ha0] at hr
    cases hr
    have t0:((a:Int) == 0)=false:=by simp;omega
    clear ha0;go_enter Tryz.func147,Tryz.ntmps147
    go_wp2_with (first
     | (go_at_call 135;refine (CN.out).mono ?_;rintro e w1 ⟨rfl,hb1⟩;obtain ⟨hc1,hf1,hs1⟩:=hb1.cells)
     | (go_at_call 136;refine (FL2.out _ hb1).mono ?_;rintro e w2 ⟨rfl,hb2⟩;obtain ⟨hc2,hf2,hs2⟩:=hb2.cells)
     | (go_at_call 133;refine (SM.out _ (hb1.trans hb2)).mono ?_;rintro e w3 ⟨rfl,hb3⟩;obtain ⟨hc3,hf3,hs3⟩:=hb3.cells))
    go_ret2
    exact ⟨rfl,(hb1.trans hb2).trans hb3⟩
end Go.Proofs.YtdokmmhjmclmnaaGreat
