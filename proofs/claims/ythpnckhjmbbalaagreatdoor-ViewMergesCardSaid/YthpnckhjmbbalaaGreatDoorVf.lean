/- What the functions that the statements reach do: walks through the code of the program and of the references, one theorem a function; under what is said of its arguments. -/
import Derived.Test.YthpnckhjmbbalaaGreatDoorFb
import Derived.Test.YthpnckhjmbbalaaGreatDoorVa
import Derived.Test.YthpnckhjmbbalaaGreatDoorFd
import Derived.Test.YthpnckhjmbbalaaGreatDoorVe
import Derived.Test.YthpnckhjmbbalaaGreatDoorFc
import Derived.Shelf.SlSortCmp.Whole1
set_option linter.unusedVariables false
set_option linter.unusedSimpArgs false
set_option maxRecDepth 100000
set_option maxHeartbeats 4000000
namespace Go.Proofs.YthpnckhjmbbalaaGreatDoor
section
open Go Go.Sx
open Go.Lib Go.Sort Go.RowKit in
theorem abV(x:Int)(w:World):Calls ya 208 (Z8 x) w fun e w' => e = .returned Zn/\w' = w:=by
 go_enter Tryz.func208,Tryz.ntmps208
 go_wp2
 go_ret
 exact⟨s_,rfl⟩
open Go.Lib Go.Sort Go.RowKit in
theorem VW(x y:Int)(w:World):CR ya 194 (Zz x y) w (fun r w' => r = .int .i64 (jd x y)/\w' = w):=by
 have h:Calls ya 194 (Zz x y) w fun e w' => e = .returned (Za (jd x y))/\w' = w:=by
  go_enter Tryz.func194,Tryz.ntmps194
  go_wp2_with (go_at_call 208;refine(abV _ _).mono ?_;rintro e w' ⟨rfl,a⟩;rw[a])
  all_goals (go_ret;refine⟨?_,rfl⟩;unfold jd;(repeat' split)<;>first|rfl|(exfalso;omega))
 exact h.mono fun e w' h=>⟨_,h.1,rfl,h.2⟩
open Go.Lib Go.Sort Go.RowKit in
theorem abU(x:Int)(w:World):Calls ya 209 (Z8 x) w fun e w' => e = .returned Zn/\w' = w:=by
 go_enter Tryz.func209,Tryz.ntmps209
 go_wp2
 go_ret
 exact⟨s_,rfl⟩
open Go.Lib Go.Sort Go.RowKit in
theorem VV(x y:Int)(w:World):CR ya 195 (Zz x y) w (fun r w' => r = .int .i64 (jd x y)/\w' = w):=by
 have h:Calls ya 195 (Zz x y) w fun e w' => e = .returned (Za (jd x y))/\w' = w:=by
  go_enter Tryz.func195,Tryz.ntmps195
  go_wp2_with (go_at_call 209;refine(abU _ _).mono ?_;rintro e w' ⟨rfl,a⟩;rw[a])
  all_goals (go_ret;refine⟨?_,rfl⟩;unfold jd;(repeat' split)<;>first|rfl|(exfalso;omega))
 exact h.mono fun e w' h=>⟨_,h.1,rfl,h.2⟩
theorem acz(v:Value)(xs:List Int)(w:World)(hv:Ints .i64 (fun _=>True) w v xs) :
 CR ya 193 #[v] w (fun r w' => r = .int .i64 (mo xs)/\w' = w):=by
 have y:=hv.len
 refine en Tryz.func193 Tryz.ntmps193 ?_
 have p:=yt w
 refine fR p 14 ?_
 refine k6 (v:=v) rfl rfl yd hv (gH p 4 ?_)
 refine lp (α:=Nat) (fun k=>[(3,Zc),(6,v),(7,(Za xs.length)),(8,(Za k))]) (fun k w1=>St [(w,[])] [] w1/\w1=w/\k<=xs.length/\∀ j x,j<k->xs[j]? = some x->x=0) (fun k=>xs.length-k) 0 ⟨rfl,rfl,rfl,gr rO,trivial⟩ (⟨p,rfl,o_,fun j x h=>absurd h o_⟩) ?_
 rintro k c d ⟨o,q,u,t⟩
 refine fR o 2 ?_
 by_cases e:((k:Int):Int)<((xs.length:Int):Int)
 . obtain⟨x,s⟩:=pS (show k<xs.length by omega)
   refine fK o 11 ?_
   refine CB (i:=(k:Int)) (el:=x) rfl rfl rfl yd gy (St.Fb o s_ hv) o_ (by rw[show ((k:Nat):Int).toNat=k by omega];exact s) ?_
   intro f g a b l
   have m:=b.i64
   refine ld rfl rfl yf rfl a (fK o 7 ?_)
   by_cases n:(x:Int)=(0:Int)
   . refine fQ o 11 ?_
     refine tN (?_)
     exact again (k+1) ⟨rfl,rfl,rfl,gr rO,trivial⟩ (⟨o,q,o_,Rx t s o_⟩) (by show (xs.length-(k+1):Nat)<xs.length-k;omega)
   . refine fQ o 16 ?_
     refine gp (v:=(Za x)) GH rfl ?_
     exact⟨gr (Ru t s o_).symm,q⟩
 . refine fQ o 17 ?_
   refine gp (v:=Zc) GH rfl ?_
   exact⟨gr (Rv t o_).symm,q⟩
theorem acv(es:List Ge)(lb:Nat)(ev:Value)(i j:Nat)(w:World)(hb:(blk lb 179 [ev]).holds w)(hv:iz 3 Ge.cells (fun _=>True) w ev es)(hi:i<es.length)(m:j<es.length)(hm:es.length<=16384) :
 CR ya 192 #[(Za i),(Za j),(Zb lb)] w (fun r w' => r = .int .i64 (qq (⟨i,(fJ es i).w⟩:gG) (⟨j,(fJ es j).w⟩:gG))/\Gw w w'):=by
 refine en Tryz.func192 Tryz.ntmps192 ?_
 have o:=yt w
 refine s9 o 6 ?_
 refine adR (Γ:=Nat) mixed [[],[],[0,1],[0,1,2],[0,1,2,3],[],[],[5,6],[5,6,7],[5,6,7,8],[0,1,2,3,4,5,6,7,8,9],[],[],[0,1,2,3,4,5,6,7,8,9,10,11,12],[0,1,2,3,4,5,6,7,8,9,10,11,12,13],[0,1,2,3,4,5,6,7,8,9,10,11,12,13,14],[0,1,2,3,4,5,6,7,8,9,10,11,12,13,14,15]] [14] d_ [fun _=>ev,fun _=>(Za i),fun _=>(jW 3 ev i 0),fun _=>(jW 3 ev i 2),fun _=>(Za ((fJ es i).w)),fun _=>ev,fun _=>(Za j),fun _=>(jW 3 ev j 0),fun _=>(jW 3 ev j 2),fun _=>(Za ((fJ es j).w)),fun _=>(Za (jd ((fJ es i).w) ((fJ es j).w))),fun _=>(Za i),fun _=>(Za j),fun _=>(Za (jd (i:Int) (j:Int))),fun a=>(xO a),fun _=>(Za (mo [jd ((fJ es i).w) ((fJ es j).w),jd (i:Int) (j:Int)])),fun _=>(Za (mo [jd ((fJ es i).w) ((fJ es j).w),jd (i:Int) (j:Int)]))] [(fun a=>[],fun _ n=>Gw w n),(fun a=>[ir .i64 (xO a) 3 ([jd ((fJ es i).w) ((fJ es j).w),jd (i:Int) (j:Int)])],fun _ n=>Gw w n)] 0 (fun a=>(5,(Za (mo [jd ((fJ es i).w) ((fJ es j).w),jd (i:Int) (j:Int)]))) :: (21,(Za (mo [jd ((fJ es i).w) ((fJ es j).w),jd (i:Int) (j:Int)]))) :: (20,(xO a)) :: (19,(Za (jd (i:Int) (j:Int)))) :: (18,(Za j)) :: (17,(Za i)) :: (16,(Za (jd ((fJ es i).w) ((fJ es j).w)))) :: (15,(Za ((fJ es j).w))) :: (14,(jW 3 ev j 2)) :: (13,(jW 3 ev j 0)) :: (12,(Za j)) :: (11,ev) :: (10,(Za ((fJ es i).w))) :: (9,(jW 3 ev i 2)) :: (8,(jW 3 ev i 0)) :: (7,(Za i)) :: (6,ev) :: _) rfl o (Gw.drew _) ?_ (fun a=>rfl) rfl ?_
 . skip
   refine wN rfl rfl rfl rfl (fun a l f g=>qv rfl rfl (mK rfl pZ rfl (kC f s_ hb rfl))) (uY (fun a _=>k7 (v:=(Za i)) rfl) ?_)
   refine uY (fun a _=>CC (k:=i) (i:=(i:Int)) rfl rfl pZ zC hv o_ o_ (gz hi)) ?_
   refine uY (fun a _=>E3 (off:=0) (off' := 2) rfl GO rfl ti2 rfl hv (gz hi)) ?_
   refine wN rfl rfl rfl rfl (fun a l f g=>qv rfl rfl (yD (u:=(Za ((fJ es i).w))) rfl vo rfl (yw f s_ d_ hv) (gz hi) rfl)) (wN rfl rfl rfl rfl (fun a l f g=>qv rfl rfl (mK rfl pZ rfl (kC f s_ hb rfl))) (uY (fun a _=>k7 (v:=(Za j)) rfl) ?_))
   refine uY (fun a _=>CC (k:=j) (i:=(j:Int)) rfl rfl pZ zC hv o_ o_ (gz m)) ?_
   refine uY (fun a _=>E3 (off:=0) (off' := 2) rfl GO rfl ti2 rfl hv (gz m)) ?_
   refine wN rfl rfl rfl rfl (fun a l f g=>qv rfl rfl (yD (u:=(Za ((fJ es j).w))) rfl vo rfl (yw f s_ d_ hv) (gz m) rfl)) (wN rfl rfl rfl rfl (fun a l f g=>qc rfl rfl (sR rfl OO) (CR.mono (VW ((fJ es i).w) ((fJ es j).w) l) fun _ _ h=>⟨h.1,(by obtain rfl:=h.2;exact⟨f,g⟩)⟩)) (uY (fun a _=>k7 (v:=(Za i)) rfl) ?_))
   refine uY (fun a _=>k7 (v:=(Za j)) rfl) ?_
   refine wN rfl rfl rfl rfl (fun a l f g=>qc rfl rfl (sR rfl OP) (CR.mono (VV (i:Int) (j:Int) l) fun _ _ h=>⟨h.1,(by obtain rfl:=h.2;exact⟨f,g⟩)⟩)) (Ki rfl rfl rfl rfl (fun a l f g=>abd (vs:=(Zp (jd ((fJ es i).w) ((fJ es j).w)) (jd (i:Int) (j:Int)))) (cs:=(Zp (jd ((fJ es i).w) ((fJ es j).w)) (jd (i:Int) (j:Int)))) g rfl rfl yd gy rfl (by simp[Value.cells]) rfl rfl rfl f (fun b _ h q=>⟨b,⟨h,q⟩,rfl,kS rfl sT⟩)) (wN rfl rfl rfl rfl (fun a l f g=>qc rfl rfl (sR rfl ON) (CR.mono (acz (xO a) [jd ((fJ es i).w) ((fJ es j).w),jd (i:Int) (j:Int)] l (xl f (i:=0) rfl (fun y p=>by simp only[zg,mz,or_false]at p;rcases p with rfl|rfl<;>exact N2 _ _)).any) fun _ _ h=>⟨h.1,(by obtain rfl:=h.2;exact⟨f,g⟩)⟩)) (uY (fun a _=>vX (v:=(Za (mo [jd ((fJ es i).w) ((fJ es j).w),jd (i:Int) (j:Int)]))) rfl) ?_)))
   exact Rp
 rintro a e c d
 refine uZ tt none c 2 ?_
 refine gp (v:=(Za (mo [jd ((fJ es i).w) ((fJ es j).w),jd (i:Int) (j:Int)]))) Tryz.results192 rfl ?_
 exact⟨gr (Ry (⟨i,(fJ es i).w⟩:gG) (⟨j,(fJ es j).w⟩:gG)),d⟩
end
end Go.Proofs.YthpnckhjmbbalaaGreatDoor
namespace Go.Proofs
open Go.Shelf Go.Lib Go.Sort Go.RowKit in
def Tryz.aeI:Go.Shelf.Ren:=⟨fun|6=>191|15=>206|14=>207|28=>221|29=>222|20=>223|21=>224|22=>225|23=>226|24=>227|25=>228|26=>229|27=>230|46=>244|47=>240|48=>241|49=>245|50=>246|57=>251|n=>n,fun|22=>65|24=>3|25=>258|3=>3|39=>188|0=>0|53=>309|55=>27|4=>4|46=>313|45=>312|50=>104|5=>5|9=>9|66=>330|70=>333|76=>339|77=>340|n=>n,fun|n=>n⟩
open Go.Shelf Go.Lib Go.Sort Go.RowKit in
theorem Tryz.aeH:Go.Proofs.SlLaysF.n6 Proofs.Tryz.prog Tryz.aeI where
 mixed:=by kernel_rfl
 f6:=⟨Proofs.Tryz.f191.name,by(decide),Proofs.Tryz.func191.trans (congrArg some<|by kernel_rfl)⟩
 f14:=⟨Proofs.Tryz.f207.name,by(decide),Proofs.Tryz.func207.trans (congrArg some<|by kernel_rfl)⟩
 f15:=Proofs.Tryz.func206.trans (congrArg some<|by kernel_rfl)
 f20:=⟨Proofs.Tryz.f223.name,by(decide),Proofs.Tryz.func223.trans (congrArg some<|by kernel_rfl)⟩
 f21:=⟨Proofs.Tryz.f224.name,by(decide),Proofs.Tryz.func224.trans (congrArg some<|by kernel_rfl)⟩
 f22:=⟨Proofs.Tryz.f225.name,by(decide),Proofs.Tryz.func225.trans (congrArg some<|by kernel_rfl)⟩
 f23:=⟨Proofs.Tryz.f226.name,by(decide),Proofs.Tryz.func226.trans (congrArg some<|by kernel_rfl)⟩
 f24:=⟨Proofs.Tryz.f227.name,by(decide),Proofs.Tryz.func227.trans (congrArg some<|by kernel_rfl)⟩
 f25:=⟨Proofs.Tryz.f228.name,by(decide),Proofs.Tryz.func228.trans (congrArg some<|by kernel_rfl)⟩
 f26:=⟨Proofs.Tryz.f229.name,by(decide),Proofs.Tryz.func229.trans (congrArg some<|by kernel_rfl)⟩
 f27:=⟨Proofs.Tryz.f230.name,by(decide),Proofs.Tryz.func230.trans (congrArg some<|by kernel_rfl)⟩
 f28:=Proofs.Tryz.func221.trans (congrArg some<|by kernel_rfl)
 f29:=Proofs.Tryz.func222.trans (congrArg some<|by kernel_rfl)
 f46:=⟨Proofs.Tryz.f244.name,by(decide),Proofs.Tryz.func244.trans (congrArg some<|by kernel_rfl)⟩
 f47:=Proofs.Tryz.func240.trans (congrArg some<|by kernel_rfl)
 f48:=Proofs.Tryz.func241.trans (congrArg some<|by kernel_rfl)
 f49:=⟨Proofs.Tryz.f245.name,by(decide),Proofs.Tryz.func245.trans (congrArg some<|by kernel_rfl)⟩
 f50:=⟨Proofs.Tryz.f246.name,by(decide),Proofs.Tryz.func246.trans (congrArg some<|by kernel_rfl)⟩
 f57:=⟨Proofs.Tryz.f251.name,by(decide),Proofs.Tryz.func251.trans (congrArg some<|by kernel_rfl)⟩
 t0:=Proofs.Tryz.underlying0
 a0:=Proofs.Tryz.isAgg0
 z0:=Proofs.Tryz.sizeOf0
 v0:=Proofs.Tryz.zeroValue0
 t3:=Proofs.Tryz.underlying3
 a3:=Proofs.Tryz.isAgg3
 z3:=Proofs.Tryz.sizeOf3
 v3:=Proofs.Tryz.zeroValue3
 t4:=Proofs.Tryz.underlying4
 a4:=Proofs.Tryz.isAgg4
 z4:=Proofs.Tryz.sizeOf4
 v4:=Proofs.Tryz.zeroValue4
 t5:=Proofs.Tryz.underlying5
 a5:=Proofs.Tryz.isAgg5
 z5:=Proofs.Tryz.sizeOf5
 v5:=Proofs.Tryz.zeroValue5
 t9:=Proofs.Tryz.underlying9
 a9:=Proofs.Tryz.isAgg9
 z9:=Proofs.Tryz.sizeOf9
 v9:=Proofs.Tryz.zeroValue9
 t22:=Proofs.Tryz.underlying65
 a22:=Proofs.Tryz.isAgg65
 z22:=Proofs.Tryz.sizeOf65
 v22:=Proofs.Tryz.zeroValue65
 a24:=Proofs.Tryz.isAgg3
 z24:=Proofs.Tryz.sizeOf3
 t25:=Proofs.Tryz.underlying258
 a25:=Proofs.Tryz.isAgg258
 z25:=Proofs.Tryz.sizeOf258
 v25:=Proofs.Tryz.zeroValue258
 t39:=Proofs.Tryz.underlying188
 a39:=Proofs.Tryz.isAgg188
 z39:=Proofs.Tryz.sizeOf188
 v39:=Proofs.Tryz.zeroValue188
 t45:=Proofs.Tryz.underlying312
 a45:=Proofs.Tryz.isAgg312
 z45:=Proofs.Tryz.sizeOf312
 v45:=Proofs.Tryz.zeroValue312
 t46:=Proofs.Tryz.underlying313
 a46:=Proofs.Tryz.isAgg313
 z46:=Proofs.Tryz.sizeOf313
 v46:=Proofs.Tryz.zeroValue313
 t50:=Proofs.Tryz.underlying104
 a50:=Proofs.Tryz.isAgg104
 z50:=Proofs.Tryz.sizeOf104
 v50:=Proofs.Tryz.zeroValue104
 t53:=Proofs.Tryz.underlying309
 a53:=Proofs.Tryz.isAgg309
 z53:=Proofs.Tryz.sizeOf309
 v53:=Proofs.Tryz.zeroValue309
 t55:=Proofs.Tryz.underlying27
 a55:=Proofs.Tryz.isAgg27
 z55:=Proofs.Tryz.sizeOf27
 v55:=Proofs.Tryz.zeroValue27
 t66:=Proofs.Tryz.underlying330
 a66:=Proofs.Tryz.isAgg330
 z66:=Proofs.Tryz.sizeOf330
 v66:=Proofs.Tryz.zeroValue330
 t70:=Proofs.Tryz.underlying333
 a70:=Proofs.Tryz.isAgg333
 z70:=Proofs.Tryz.sizeOf333
 v70:=Proofs.Tryz.zeroValue333
 t76:=Proofs.Tryz.underlying339
 a76:=Proofs.Tryz.isAgg339
 z76:=Proofs.Tryz.sizeOf339
 v76:=Proofs.Tryz.zeroValue339
 t77:=Proofs.Tryz.underlying340
 a77:=Proofs.Tryz.isAgg340
 z77:=Proofs.Tryz.sizeOf340
 v77:=Proofs.Tryz.zeroValue340
end Go.Proofs
namespace Go.Proofs.YthpnckhjmbbalaaGreatDoor
section
open Go Go.Sx Go.Lib Go.Sort Go.RowKit
theorem ae5(es:List Ge)(n:Nat):SWO (ltOf fun x y:Fin n=>qq ⟨x.val,(fJ es x.val).w⟩ ⟨y.val,(fJ es y.val).w⟩) where
 irrefl x:=by unfold ltOf;rw[decide_eq_false_iff_not,oe];exact CN _
 trans x y z h1 h2:=by unfold ltOf at *;rw[decide_eq_true_iff,oe]at *;exact JO h1 h2
 ntrans x y z h1 h2:=by unfold ltOf at *;rw[decide_eq_false_iff_not,oe]at *;exact FI h1 h2
theorem aeK(es:List Ge)(lb:Nat)(ev v:Value)(w:World)(s:Own (pM v (List.range es.length)) w)(hb:(blk lb 179 [ev]).holds w)(C:lb<w.heap.size)(n:lb∉(pM v (List.range es.length)).gJ)(hv:iz 3 Ge.cells (fun b=>b∉(pM v (List.range es.length)).gJ) w ev es)(D:0<es.length)(hm:es.length<=16384) :
 CR ya 191 #[v,.func (.func 192) #[] (Zh lb)] w (fun r w' => ∃ o:List Nat,r = .tuple #[]/\sM es o/\fZ (pM v (List.range es.length)) w w' (pM v o)):=by
 refine CR.mono (aeN (P:=ya) D (fun i j=>decide (qq ⟨i,(fJ es i).w⟩ ⟨j,(fJ es j).w⟩<0)) s o_ fun K f p d A q u G=>?_) ?_
 . rw[A]at n hv
   refine Any.slices_SortFunc (P:=ya) Tryz.aeH qR f_ (fun x y=>qq ⟨x.val,(fJ es x.val).w⟩ ⟨y.val,(fJ es y.val).w⟩) (ae5 es es.length) 192 (Zh lb) f 0 p d w (enters_of Tryz.func192 k_ rfl) (fun k os m hs x y=>?_) q u G
   have t:=(blk lb 179 [ev]).loc _ (sortWorld qR w f 0 k m os) (fun b h=>by simp[blk]at h;subst h;exact SY C (by simpa using n)) hb
   have I:=hv.to (w' := sortWorld qR w f 0 k m os) d_ fun b c g=>SY g (by simpa using c)
   exact Calls.mono (acv es lb ev x.val y.val _ t I.any x.2 y.2 hm) fun e w' ⟨r,z,F,B⟩=>⟨by rw[z,F],B⟩
 . rintro r w' ⟨rfl,ys,c,g,H⟩
   have E:ys.Nodup:=(c.nodup_iff).2 vG
   refine⟨ys,rfl,⟨c,(g.and E).imp fun {a b} h=>?_⟩,H⟩
   have l:=of_decide_eq_false h.1
   rw[oe]at l
   have J:=h.2
   unfold iC at l
   unfold qS
   dsimp only at l
   omega
theorem aae(v fv:Value)(n:Nat)(w:World)(b:n=0) :
 CR ya 223 #[v,Zc,(Za n),fv] w (fun r w' => r = .tuple #[]/\gA [] w w'):=by
 refine en Tryz.func223 Tryz.ntmps223 ?_
 have a:=yt w
 refine s9 a 8 ?_
 refine ru 1 (iD (fR a 5 ?_))
 refine cmp rfl rfl rfl (lC o_) (fQ a 7 ?_)
 refine iZ Tryz.results223 ?_
 exact⟨rfl,a.gD s_⟩
theorem acI(v fv:Value)(n:Nat)(z:Int)(w:World)(e:n=0) :
 CR ya 207 #[v,Zc,(Za n),(Za z),fv] w (fun r w' => r = .tuple #[]/\gA [] w w'):=by
 refine en Tryz.func207 Tryz.ntmps207 ?_
 have d:=yt w
 refine s9 d 11 ?_
 refine ru 1 (iD (fR d 13 ?_))
 refine cmp rfl rfl rfl (Ax o_) (fK d 9 ?_)
 refine cl XF (aae v fv n w e) ?_
 rintro _ c ⟨rfl,b⟩
 have a:=yq d b
 refine fQ a 7 ?_
 refine Bb Tryz.results207 ?_
 exact⟨rfl,a.gD s_⟩
theorem aeG(v fv:Value)(xs:List Int)(w:World)(hv:Ints .i64 (fun _=>True) w v xs)(i:xs.length=0) :
 CR ya 191 #[v,fv] w (fun r w' => r = .tuple #[]/\gA [] w w'):=by
 refine en Tryz.func191 Tryz.ntmps191 ?_
 have h:=yt w
 refine fR h 3 ?_
 refine k6 (v:=v) rfl rfl yd hv (fK h 8 ?_)
 refine cl OT (NB xs.length w o_) ?_
 rintro _ c ⟨d,rfl,e⟩
 have a:=yq h e
 refine fK a 1 ?_
 refine cl XB (acI v fv xs.length d c i) ?_
 rintro _ g ⟨rfl,f⟩
 have b:=yq a f
 refine fQ b 1 ?_
 refine iZ Tryz.results191 ?_
 exact⟨rfl,b.gD s_⟩
theorem aeJ(es:List Ge)(lb:Nat)(ev v:Value)(w:World)(d:Own (pM v (List.range es.length)) w)(hb:(blk lb 179 [ev]).holds w)(l:lb<w.heap.size)(k:lb∉(pM v (List.range es.length)).gJ)(hv:iz 3 Ge.cells (fun b=>b∉(pM v (List.range es.length)).gJ) w ev es)(hm:es.length<=16384) :
 CR ya 191 #[v,.func (.func 192) #[] (Zh lb)] w (fun r w' => ∃ o:List Nat,r = .tuple #[]/\sM es o/\fZ (pM v (List.range es.length)) w w' (pM v o)):=by
 rcases xx es.length with c|c
 . obtain rfl:=Bz.1 c
   have f:=vr (yr d) (i:=0) rfl f_
   obtain⟨a,e,rfl,g,j,n⟩:=f
   refine CR.mono (aeG _ _ [] w ⟨a,e,rfl,g,j,fun i y m=>by simp at m⟩ rfl) fun r w' h=>⟨[],h.1,⟨List.Perm.refl _,List.Pairwise.nil⟩,yj ((yr d).grow h.2) ze⟩
 . exact aeK es lb ev v w d hb l k hv c hm
theorem acw(v:Value)(es:List Ge)(w:World)(hv:iz 3 Ge.cells (fun _=>True) w v es)(hm:es.length<=16384) :
 CR ya 170 #[v] w (fun r w' => ∃ (K:Value) (o:List Nat),K=r/\sM es o/\fZ (gq []) w w' (pM K o)):=by
 refine en Tryz.func170 Tryz.ntmps170 ?_
 have J:=yt w
 refine fR J 2 ?_
 refine iF J (fun d z A B g=>?_) (hcs:=(cells_one (Sl.Rt hv)))
 refine fK g 6 ?_
 refine k6 (v:=v) rfl rfl pZ hv (rZ (cf:=fW) (z0:=0) (m:=es.length) (c:=es.length) rfl rfl rfl yd gy rfl f_ d_ (zo _) o_ o_ g ?_)
 intro h n C D p
 have e:St _ [fM fW (.slice (some ⟨h,0,none⟩) es.length es.length) 3 1 (List.replicate es.length 0),blk d 179 [v]] n:=mu (cf:=fW) p (i:=0) rfl f_ (zo _) (by simp only[maxLen];omega)
 generalize (Value.slice (some ⟨h,0,none⟩) es.length es.length)=a at e ⊢
 refine fK e 7 ?_
 refine jm (m:=(List.replicate es.length 0).length) 0 rfl rfl yd e rfl ?_
 have O:(List.replicate es.length 0).length=es.length:=xq
 have q:=yx 0 e rfl (congrArg (fM fW a 3 1) (adQ))
 refine gH e 4 ?_
 refine lp (α:=Nat) (fun k=>[(1,(Zb d)),(2,Zg),(3,a),(9,(Za ((List.replicate es.length 0).length:Int))),(10,(Za k))]) (fun k w1=>St [(w,[])] [fM fW a 3 1 (si es.length k),blk d 179 [v]] w1/\k<=es.length) (fun k=>es.length-k) 0 ⟨rfl,rfl,rfl,rfl,gr rO,trivial⟩ (⟨q,o_⟩) ?_
 rintro k E s ⟨F,L⟩
 have P:=adO L
 refine fR F 2 ?_
 by_cases G:((k:Int):Int)<(((List.replicate es.length 0).length:Int):Int)
 . refine fK F 20 ?_
   refine iQ (f:=(fun _=>k)) 0 F (fun H j=>?_)
   refine fQ j 7 ?_
   refine tN (?_)
   have t:=yx 0 j rfl (congrArg (fM fW a 3 1) (adP o_))
   exact again (k+1) ⟨rfl,rfl,rfl,rfl,gr rO,trivial⟩ (⟨t,o_⟩) (by show (es.length-(k+1):Nat)<es.length-k;omega)
 . refine fK F 13 ?_
   refine oc (vf:=[]) (vc:=(Zi d)) rfl rfl rfl ?_
   have M:k=es.length:=by omega
   have b:=yx 0 F rfl (congrArg (fM fW a 3 1) ((congrArg (si es.length) M).trans adN))
   refine cl Xv (aeJ es d v a s (ye b 0 rfl) (St.at b (i:=1) rfl) b.ZV b.acf (b.adA s_ d_ hv) hm) ?_
   rintro _ I ⟨u,rfl,x,N⟩
   have l:=yk 0 b N
   refine fQ l 9 ?_
   refine gp (v:=a) Tryz.results170 rfl ?_
   have y:=yg [0] l
   exact⟨a,u,rfl,x,St.eM y⟩
theorem PG(v:Value)(n:Nat)(es:List Ge)(w:World)(hv:iz 3 Ge.cells (fun _=>True) w v es)(hg:qg n es)(hn:n<=4096)(hm:es.length<=16384) :
 CR ya 130 #[(Za n),v] w (fun r w' => ∃ (fv:Value) (f:List Nat),r = .tuple #[fv,.int .i64 0]/\nv es n f/\fZ (gq []) w w' (pM fv f)):=by
 refine enter (vs:=[(Za n),v]) Tryz.func130 rfl Tryz.ntmps130 rfl ?_
 have aj:=yt w
 refine fR aj 11 ?_
 refine jM (vl:=[(Za n),v]) rfl rfl Xi (ZD v n es w hv hg o_ hm) ?_
 rintro _ B ⟨g,h,rfl,F⟩
 have C:St _ [(Gr.R g n h es)] B:=(ki (R:=(Gr.R g n h es)) aj F)
 refine fK C 19 ?_
 refine jM (vl:=(Ze n)) rfl rfl Xj (Wt n B o_) ?_
 rintro _ D ⟨a,j,rfl,N,F⟩
 have t:St _ [(Ds.R a n j),(Gr.R g n h es)] D:=(ki (R:=(Ds.R a n j)) C F)
 refine fK t 26 ?_
 refine jM (vl:=[v]) rfl rfl Xk (acw v es D (yw t s_ d_ hv).any hm) ?_
 rintro _ E ⟨b,d,rfl,p,F⟩
 have x:St _ [fM fW b 3 1 d,(Ds.R a n j),(Gr.R g n h es)] E:=(ki (R:=fM fW b 3 1 d) t F)
 refine jm (m:=d.length) 0 rfl rfl yd x rfl ?_
 have am:=p.len
 have O:St _ [ir .i64 Zg 3 (gB []),fM fW b 3 1 d,(Ds.R a n j),(Gr.R g n h es)] E:=rA x 3 1
 have G:=yg [2,1,0] O
 obtain⟨o,ai⟩:∃ o,o=d:=⟨_,rfl⟩
 refine gH x 4 ?_
 rw[<-ai]at G p am
 have aq:d.length=o.length:=by rw[ai]
 refine lp (α:=Nat×Ds×Value) (fun(k,s,fv)=>[(0,(Za n)),(1,v),(4,Zg),(5,Zc),(8,(Zb a)),(10,fv),(33,b),(34,(Za d.length)),(35,(Za k))]) (fun(k,s,fv) w1=>St [(w,[])] (D7 a n s b o fv (gB (jG es n (o.take k)))) w1/\k<=o.length/\s.lb=gU es n (jG es n (o.take k))) (fun(k,s,fv)=>o.length-k) (0,j,Zg) ⟨rfl,rfl,rfl,rfl,rfl,rfl,rfl,rfl,gr (by first|rfl|omega),trivial⟩ (⟨G,o_,N⟩) ?_
 rintro⟨k,s,fv⟩ Y P ⟨ae,hk,ad⟩
 have an:(jG es n (o.take k)).length<=k:=by have h7:=(Cy (es:=es) (n:=n) (o.take k)).length_le;rw[z8]at h7;omega
 refine fR ae 2 ?_
 by_cases Z:((k:Int):Int)<((d.length:Int):Int)
 . have af:=p
   have T:k<o.length:=by omega
   have al:fJ o k<es.length:=af.lt (zd (gz T))
   have ah:=hg.at al
   have ao:=ah.1
   have ap:=ah.2.1
   refine gO ae 29 fun Q H=>?_
   refine jM (vl:=(Ah a ((fJ es (fJ o k)).u:Int) ((fJ es (fJ o k)).v:Int))) rfl rfl Xl (Wz a n s Q (kV H (i:=0) rfl) o_ ((fJ es (fJ o k)).u) ((fJ es (fJ o k)).v) o_ o_) ?_
   rintro _ I ⟨c,rfl,J,F⟩
   have l:St _ (D7 a n c b o fv (gB (jG es n (o.take k)))) I:=l8 (R' := (Ds.R a n c)) 0 H rfl F rfl
   refine gH l 12 ?_
   cases K:(decide (fJ s.lb (fJ es (fJ o k)).u≠fJ s.lb (fJ es (fJ o k)).v):Bool)
   . skip
     refine iS l 8 ?_
     refine tN (?_)
     have ag:=J
     have S:St _ (D7 a n c b o fv (gB (jG es n (o.take (k+1))))) I:=yx 2 l rfl (congrArg (ir .i64 fv 3) (by rw[E6 T,if_neg (by unfold mc;rw[<-ad];exact of_decide_eq_false K)]))
     exact again ((k+1),c,fv) ⟨rfl,rfl,rfl,rfl,rfl,rfl,rfl,rfl,gr (by first|rfl|omega),trivial⟩ (⟨S,o_,ag.trans (by rw[E6 T,JA,ad])⟩) (by show (o.length-(k+1):Nat)<o.length-k;omega)
   . skip
     refine fR l 4 ?_
     refine kj (vs:=(Ze (((fJ o k):Nat):Int))) (cs:=(Ze (((fJ o k):Nat):Int))) rfl rfl yd gy rfl (by simp[Value.cells]) rfl rfl rfl l ?_
     intro y U aa ab q
     have q:St _ (HK y ([(((fJ o k):Nat):Int)]) a n c b o fv (gB (jG es n (o.take k)))) U:=q
     refine vU (k:=.i64) (ys:=gB (jG es n (o.take k))) (zs:=[(((fJ o k):Nat):Int)]) (LL:=fun e=>(HK y ([(((fJ o k):Nat):Int)]) a n c b o e ((gB (jG es n (o.take k)))++([(((fJ o k):Nat):Int)])))) 3 rfl rfl rfl yd gy rfl q rfl (l7 q (i:=0) rfl) (by simp only[gB,zq,zh,zn,zw,maxLen];omega) (by simp only[gB,zq,zh,zn,zw,maxLen];omega) f_ ?_
     intro e L A ac
     have A:St _ (HK y ([(((fJ o k):Nat):Int)]) a n c b o e ((gB (jG es n (o.take k)))++([(((fJ o k):Nat):Int)]))) L:=A
     have M:=yg [1,2,3] A
     refine fQ M 8 ?_
     refine tN (?_)
     have ag:=J
     have V:St _ (D7 a n c b o e (gB (jG es n (o.take (k+1))))) L:=yx 2 M rfl (congrArg (ir .i64 e 3) (by rw[E6 T,if_pos (by unfold mc;rw[<-ad];exact of_decide_eq_true K),CU]))
     exact again ((k+1),c,e) ⟨rfl,rfl,rfl,rfl,rfl,rfl,rfl,rfl,gr (by first|rfl|omega),trivial⟩ (⟨V,o_,ag.trans (by rw[E6 T,JA,ad])⟩) (by show (o.length-(k+1):Nat)<o.length-k;omega)
 . have af:=p
   refine fQ ae 18 ?_
   refine iH (v:=fv) (v' := Zc) Tryz.results130 rfl rfl ?_
   have ak:k=o.length:=by omega
   have W:=yg [2] ae
   have X:St _ [fM fW fv 3 1 (jG es n o)] P:=yx 0 W rfl (((congrArg (fun z=>ir .i64 fv 3 (gB (jG es n z))) (by rw[ak,qB])).trans (Dd f_ _).symm))
   exact⟨fv,jG es n o,rfl,⟨o,af,rfl⟩,St.eM X⟩
end
section
open Go Go.Sx
theorem afI(uv:Value)(n:Nat)(lb:List Nat)(us:List iU)(w:World)(s:Own (B1 uv us) w)(t:Un n lb us)(A:n<=1000000)(a0:Nat)(u:a0<n) :
 CR ya 131 #[uv,(Za a0)] w (fun r w' => ∃ xs:List iU,r = .int .i64 ((fJ lb a0:Nat):Int)/\(Un n lb xs/\∀ j,(fJ xs j).b=(fJ us j).b)/\fZ (B1 uv us) w w' (B1 uv xs)):=by
 refine en Tryz.func131 Tryz.ntmps131 ?_
 have q:=yr s
 refine s9 q 7 ?_
 refine lp (α:=Nat×List iU) (fun(i,xs)=>[(0,uv),(1,(Za i)),(4,Zc)]) (fun(i,xs) w1=>St [(w,(B1 uv us).gJ)] [fM iU.cells uv 190 2 xs] w1/\uA n lb us a0 xs i) (fun(i,xs)=>i) (a0,us) ⟨rfl,gr rO,rfl,trivial⟩ (⟨q,uA.start t u⟩) ?_
 rintro⟨i,xs⟩ e g ⟨p,o⟩
 have C:=o.un.len
 have z:=o.lt
 have B:=o.un.le i z
 refine fR p 6 ?_
 refine sU (cf:=iU.cells) (k:=i) (off:=0) (off' := 0) (i:=0) rfl rfl rfl yn gy d_ rfl (iO p 0 rfl) (gz om) (fK p 2 ?_)
 by_cases h:(((fJ xs i).a:Int):Int)=((i:Int):Int)
 . refine fQ p 16 ?_
   refine gp (v:=(Za i)) Tryz.results131 rfl ?_
   have y:=o.fin o_
   exact⟨xs,by rw[<-y],⟨o.un,o.nd⟩,yo p⟩
 . refine gO p 15 fun l c=>?_
   refine sU (cf:=iU.cells) (k:=i) (off:=0) (off' := 0) (i:=0) rfl rfl rfl yn gy d_ rfl (iO c 0 rfl) (gz om) (fK c 2 ?_)
   refine sU (cf:=iU.cells) (k:=((fJ xs i).a)) (off:=0) (off' := 0) (i:=0) rfl rfl rfl yn gy d_ rfl (iO c 0 rfl) (gz om) (fK c 2 ?_)
   refine sU (cf:=iU.cells) (k:=i) (off:=0) (off' := 0) (i:=0) rfl rfl rfl yn gy d_ rfl (iO c 0 rfl) (gz om) (iQ (f:=(fun x:iU=>{ x with a:=((fJ xs ((fJ xs i).a)).a) })) 0 c (fun m d=>?_))
   refine fK d 6 ?_
   refine sU (cf:=iU.cells) (k:=i) (off:=0) (off' := 0) (i:=0) rfl rfl rfl yn gy d_ rfl (iO d 0 rfl) (gz om) (fQ d 4 ?_)
   refine tN (?_)
   exact again (((fJ (fO xs i (fun x=>{ x with a:=((fJ xs ((fJ xs i).a)).a) })) i).a),fO xs i (fun x=>{ x with a:=((fJ xs ((fJ xs i).a)).a) })) ⟨rfl,gr rO,rfl,trivial⟩ (⟨d,(o.half (us2:=fO xs i (fun x=>{ x with a:=((fJ xs ((fJ xs i).a)).a) })) o_ rfl).1⟩) (o.half (us2:=fO xs i (fun x=>{ x with a:=((fJ xs ((fJ xs i).a)).a) })) o_ rfl).2
def Un.R(uv:Value)(n:Nat)(lb d:List Nat)(us:List iU):fS:=kE (Un n lb us/\∀ j,j<n->(fJ us j).b=fJ d j) (B1 uv us)
theorem afH(uv:Value)(n:Nat)(lb d:List Nat)(us:List iU)(w:World)(a:Own (Un.R uv n lb d us) w)(g:n<=1000000)(a0:Nat)(e:a0<n) :
 CR ya 131 #[uv,.int .i64 (a0:Int)] w (fun r w' => ∃ xs:List iU,r = .int .i64 ((fJ lb a0:Nat):Int)/\fZ (Un.R uv n lb d us) w w' (Un.R uv n lb d xs)) :=
 CR.mono (afI uv n lb us w a.un a.fact.1 g a0 e) fun r w' ⟨xs,c,b,h⟩=>⟨xs,c,h.rz ⟨b.1,fun j f=>(b.2 j).trans (a.fact.2 j f)⟩⟩
theorem TO(uv:Value)(n:Nat)(lb d:List Nat)(us:List iU)(w:World)(a:Own (Un.R uv n lb d us) w)(c:n<=1000000)(a0:Nat)(b:a0<n){x:Nat}(e:fJ lb a0=x) :
 CR ya 131 #[uv,.int .i64 (a0:Int)] w (fun r w' => ∃ xs:List iU,r = .int .i64 (x:Int)/\fZ (Un.R uv n lb d us) w w' (Un.R uv n lb d xs)):=by
 subst e
 exact afH uv n lb d us w a c a0 b
abbrev RZ:List (List Nat):=[[],[],[1],[],[3],[],[5],[],[7],[],[9],[0,1,2,3,4,5,6,7,8,9,10],[],[0,1,2,3,4,5,6,7,8,9,10,11,12]]
theorem Kx(v:Value)(n:Nat)(es:List Ge)(w:World)(hv:iz 3 Ge.cells (fun _=>True) w v es)(hg:qg n es)(hn:n<=4096)(hm:es.length<=16384) :
 CR ya 85 #[(Za n),v] w (fun r w' => ∃ (f:List Nat) (lv rv pv cb sv:Value),r = .tuple #[.agg #[.int .i64 (n:Int),lv,rv,pv,cb,sv],.int .i64 0]/\nv es n f/\fZ (gq []) w w' (gq [fM gh lv 3 1 ((fV es n f).l),fM gh rv 3 1 ((fV es n f).r),fM gh pv 3 1 ((fV es n f).p),fM gh cb 2 1 ((fV es n f).h),fM fW sv 3 1 ((fV es n f).s)])):=by
 refine en Tryz.func85 Tryz.ntmps85 ?_
 have ca:=yt w
 refine fR ca 2 ?_
 refine iR ca (fun E aC bo bp Z=>?_)
 refine fK Z 7 ?_
 refine cl Oq (PG v n es aC (yw Z s_ d_ hv).any hg hn hm) ?_
 rintro _ bq ⟨fv,f,rfl,aD,ht⟩
 have Y:=(ki Z ht)
 have bY:=aD
 have cr:=bY.len
 refine fK Y 21 ?_
 refine jm (m:=f.length) 0 rfl rfl yd Y rfl (ar (e:=((n+f.length:Nat):Int)) rfl rfl rfl rfl i7 (gH Y 4 ?_))
 have K:AQ RZ [2,4,6,8,10,12,13] [(12,fun z=>blk z 67 uC),(10,fun A=>blk A 3 ((List.replicate (n+f.length) 0).flatMap fW)),(8,fun D=>blk D 2 ((List.replicate (n+f.length) 0).flatMap gh)),(6,fun G=>blk G 3 ((List.replicate (n+f.length) 0).flatMap gh)),(4,fun H=>blk H 3 ((List.replicate (n+f.length) 0).flatMap gh)),(2,fun J=>blk J 3 ((List.replicate (n+f.length) 0).flatMap gh))] 13:=J4 (is:=[12,10,8,6,4,2]) rfl d_
 refine KF mixed RZ [2,4,6,8,10,12,13] [(12,fun z=>blk z 67 uC),(10,fun A=>blk A 3 ((List.replicate (n+f.length) 0).flatMap fW)),(8,fun D=>blk D 2 ((List.replicate (n+f.length) 0).flatMap gh)),(6,fun G=>blk G 3 ((List.replicate (n+f.length) 0).flatMap gh)),(4,fun H=>blk H 3 ((List.replicate (n+f.length) 0).flatMap gh)),(2,fun J=>blk J 3 ((List.replicate (n+f.length) 0).flatMap gh))] 13 k_ rfl [fun g=>(Za n),fun g=>(Za ((n+f.length:Nat):Int)),fun g=>(Zd (g 2) (n+f.length)),fun g=>(Za ((n+f.length:Nat):Int)),fun g=>(Zd (g 4) (n+f.length)),fun g=>(Za ((n+f.length:Nat):Int)),fun g=>(Zd (g 6) (n+f.length)),fun g=>(Za ((n+f.length:Nat):Int)),fun g=>(Zd (g 8) (n+f.length)),fun g=>(Za ((n+f.length:Nat):Int)),fun g=>(Zd (g 10) (n+f.length)),fun g=>(MO n (g 2) (n+f.length) (g 4) (g 6) (g 8) (g 10)),fun g=>(Zb (g 12)),fun g=>undef] (fun g=>(Mt (g 12) n (g 2) (n+f.length) (g 4) (g 6) (g 8) (g 10) ((List.replicate (n+f.length) 0).flatMap fW) ((List.replicate (n+f.length) 0).flatMap gh) fv f E)) (fun g=>(9,(Zb (g 12))) :: (45,(MO n (g 2) (n+f.length) (g 4) (g 6) (g 8) (g 10))) :: (44,(Zd (g 10) (n+f.length))) :: (43,(Za ((n+f.length:Nat):Int))) :: (42,(Zd (g 8) (n+f.length))) :: (41,(Za ((n+f.length:Nat):Int))) :: (40,(Zd (g 6) (n+f.length))) :: (39,(Za ((n+f.length:Nat):Int))) :: (38,(Zd (g 4) (n+f.length))) :: (37,(Za ((n+f.length:Nat):Int))) :: (36,(Zd (g 2) (n+f.length))) :: (35,(Za ((n+f.length:Nat):Int))) :: (34,(Za n)) :: _) Y ?_ f_ ?_
 . skip
   refine mM rfl (fun g _ _=>qv rfl rfl (k7 (v:=(Za n)) rfl)) (mM rfl (fun g _ _=>qv rfl rfl (k7 (v:=(Za ((n+f.length:Nat):Int))) rfl)) (s8 K (R:=fun J=>blk J 3 ((List.replicate (n+f.length) 0).flatMap gh)) (val:=fun J=>(Zd J (n+f.length))) s_ (fun _ _=>rfl) (fun g wq L hM N kM=>rX (cf:=gh) (z0:=0) (m:=(n+f.length)) (c:=(n+f.length)) rfl rfl rfl yd gy rfl f_ d_ (zo _) o_ o_ hM (fun cc _ h=>kM cc _ h)) (fun _ _=>kS rfl sT) (mM rfl (fun g _ _=>qv rfl rfl (k7 (v:=(Za ((n+f.length:Nat):Int))) rfl)) (s8 K (R:=fun H=>blk H 3 ((List.replicate (n+f.length) 0).flatMap gh)) (val:=fun H=>(Zd H (n+f.length))) s_ (fun _ _=>rfl) (fun g wq L hM N kM=>rX (cf:=gh) (z0:=0) (m:=(n+f.length)) (c:=(n+f.length)) rfl rfl rfl yd gy rfl f_ d_ (zo _) o_ o_ hM (fun cd _ h=>kM cd _ h)) (fun _ _=>kS rfl sT) (mM rfl (fun g _ _=>qv rfl rfl (k7 (v:=(Za ((n+f.length:Nat):Int))) rfl)) (s8 K (R:=fun G=>blk G 3 ((List.replicate (n+f.length) 0).flatMap gh)) (val:=fun G=>(Zd G (n+f.length))) s_ (fun _ _=>rfl) (fun g wq L hM N kM=>rX (cf:=gh) (z0:=0) (m:=(n+f.length)) (c:=(n+f.length)) rfl rfl rfl yd gy rfl f_ d_ (zo _) o_ o_ hM (fun ce _ h=>kM ce _ h)) (fun _ _=>kS rfl sT) (mM rfl (fun g _ _=>qv rfl rfl (k7 (v:=(Za ((n+f.length:Nat):Int))) rfl)) ?_)))))))
   refine s8 K (R:=fun D=>blk D 2 ((List.replicate (n+f.length) 0).flatMap gh)) (val:=fun D=>(Zd D (n+f.length))) s_ (fun _ _=>rfl) (fun g wq L hM N kM=>rX (cf:=gh) (z0:=0) (m:=(n+f.length)) (c:=(n+f.length)) rfl rfl rfl y0 ti2 rfl f_ d_ (zo _) o_ o_ hM (fun cg _ h=>kM cg _ h)) (fun _ _=>kS rfl sT) (mM rfl (fun g _ _=>qv rfl rfl (k7 (v:=(Za ((n+f.length:Nat):Int))) rfl)) (s8 K (R:=fun A=>blk A 3 ((List.replicate (n+f.length) 0).flatMap fW)) (val:=fun A=>(Zd A (n+f.length))) s_ (fun _ _=>rfl) (fun g wq L hM N kM=>rX (cf:=fW) (z0:=0) (m:=(n+f.length)) (c:=(n+f.length)) rfl rfl rfl yd gy rfl f_ d_ (zo _) o_ o_ hM (fun ch _ h=>kM ch _ h)) (fun _ _=>kS rfl sT) (mM rfl (fun g _ _=>qv rfl rfl (Cb (pvs:=[(0,(Za n)),(1,(Zd (g 2) (n+f.length))),(2,(Zd (g 4) (n+f.length))),(3,(Zd (g 6) (n+f.length))),(4,(Zd (g 8) (n+f.length))),(5,(Zd (g 10) (n+f.length)))]) (v:=.agg (MT n (g 2) (n+f.length) (g 4) (g 6) (g 8) (g 10))) rfl (jA [(0,(Ze n)),(1,(qi (g 2) (n+f.length))),(2,(qi (g 4) (n+f.length))),(3,(qi (g 6) (n+f.length))),(4,(qi (g 8) (n+f.length))),(5,(qi (g 10) (n+f.length)))] w5 ac3 rfl ⟨rfl,rfl,rfl,rfl,rfl,rfl,rfl,rfl,rfl,rfl,rfl,rfl,trivial⟩ rfl))) (s8 K (R:=fun z=>blk z 67 uC) (val:=fun z=>(Zb z)) s_ (fun _ _=>rfl) (fun g wq L hM N kM=>Fq (cs:=uC) rfl w5 rfl hM (fun ci _ h=>kM ci _ h)) (fun _ _=>kS rfl sT) (Kg K (val:=fun b9=>undef) (fun _ _=>rfl) (fun g wq hM N kM=>JS (L' := (Mt (g 12) n (g 2) (n+f.length) (g 4) (g 6) (g 8) (g 10) ((List.replicate (n+f.length) 0).flatMap fW) ((List.replicate (n+f.length) 0).flatMap gh) fv f E)) 0 rfl rfl rfl rfl w5 rfl rfl hM rfl rfl rfl rfl (fun _ h=>kM 0 _ h)) (fun _ _=>kS rfl sT) ?_)))))
   exact Kh
 intro P Q M
 generalize P 2=J at M ⊢
 generalize P 4=H at M ⊢
 generalize P 6=G at M ⊢
 generalize P 8=D at M ⊢
 generalize P 10=A at M ⊢
 generalize P 12=z at M ⊢
 have al:St _ [blk z 67 [(.int .i64 n),(.slice (some ⟨J,0,none⟩) (n+f.length) (n+f.length)),(.slice (some ⟨H,0,none⟩) (n+f.length) (n+f.length)),(.slice (some ⟨G,0,none⟩) (n+f.length) (n+f.length)),(.slice (some ⟨D,0,none⟩) (n+f.length) (n+f.length)),(.slice (some ⟨A,0,none⟩) (n+f.length) (n+f.length))],blk A 3 ((List.replicate (n+f.length) 0).flatMap fW),blk D 2 ((List.replicate (n+f.length) 0).flatMap gh),blk G 3 ((List.replicate (n+f.length) 0).flatMap gh),blk H 3 ((List.replicate (n+f.length) 0).flatMap gh),fM gh (.slice (some ⟨J,0,none⟩) (n+f.length) (n+f.length)) 3 1 (List.replicate (n+f.length) 0),fM fW fv 3 1 f,blk E 67 [(.int .i64 0),(.slice none 0 0),(.slice none 0 0),(.slice none 0 0),(.slice none 0 0),(.slice none 0 0)]] Q:=mu (cf:=gh) M (i:=5) rfl f_ (zo _) (by simp only[maxLen];omega)
 generalize (Value.slice (some ⟨J,0,none⟩) (n+f.length) (n+f.length))=j at al ⊢
 have am:St _ [blk z 67 [(.int .i64 n),j,(.slice (some ⟨H,0,none⟩) (n+f.length) (n+f.length)),(.slice (some ⟨G,0,none⟩) (n+f.length) (n+f.length)),(.slice (some ⟨D,0,none⟩) (n+f.length) (n+f.length)),(.slice (some ⟨A,0,none⟩) (n+f.length) (n+f.length))],blk A 3 ((List.replicate (n+f.length) 0).flatMap fW),blk D 2 ((List.replicate (n+f.length) 0).flatMap gh),blk G 3 ((List.replicate (n+f.length) 0).flatMap gh),fM gh (.slice (some ⟨H,0,none⟩) (n+f.length) (n+f.length)) 3 1 (List.replicate (n+f.length) 0),fM gh j 3 1 (List.replicate (n+f.length) 0),fM fW fv 3 1 f,blk E 67 [(.int .i64 0),(.slice none 0 0),(.slice none 0 0),(.slice none 0 0),(.slice none 0 0),(.slice none 0 0)]] Q:=mu (cf:=gh) al (i:=4) rfl f_ (zo _) (by simp only[maxLen];omega)
 generalize (Value.slice (some ⟨H,0,none⟩) (n+f.length) (n+f.length))=q at am ⊢
 have an:St _ [blk z 67 [(.int .i64 n),j,q,(.slice (some ⟨G,0,none⟩) (n+f.length) (n+f.length)),(.slice (some ⟨D,0,none⟩) (n+f.length) (n+f.length)),(.slice (some ⟨A,0,none⟩) (n+f.length) (n+f.length))],blk A 3 ((List.replicate (n+f.length) 0).flatMap fW),blk D 2 ((List.replicate (n+f.length) 0).flatMap gh),fM gh (.slice (some ⟨G,0,none⟩) (n+f.length) (n+f.length)) 3 1 (List.replicate (n+f.length) 0),fM gh q 3 1 (List.replicate (n+f.length) 0),fM gh j 3 1 (List.replicate (n+f.length) 0),fM fW fv 3 1 f,blk E 67 [(.int .i64 0),(.slice none 0 0),(.slice none 0 0),(.slice none 0 0),(.slice none 0 0),(.slice none 0 0)]] Q:=mu (cf:=gh) am (i:=3) rfl f_ (zo _) (by simp only[maxLen];omega)
 generalize (Value.slice (some ⟨G,0,none⟩) (n+f.length) (n+f.length))=t at an ⊢
 have ao:St _ [blk z 67 [(.int .i64 n),j,q,t,(.slice (some ⟨D,0,none⟩) (n+f.length) (n+f.length)),(.slice (some ⟨A,0,none⟩) (n+f.length) (n+f.length))],blk A 3 ((List.replicate (n+f.length) 0).flatMap fW),fM gh (.slice (some ⟨D,0,none⟩) (n+f.length) (n+f.length)) 2 1 (List.replicate (n+f.length) 0),fM gh t 3 1 (List.replicate (n+f.length) 0),fM gh q 3 1 (List.replicate (n+f.length) 0),fM gh j 3 1 (List.replicate (n+f.length) 0),fM fW fv 3 1 f,blk E 67 [(.int .i64 0),(.slice none 0 0),(.slice none 0 0),(.slice none 0 0),(.slice none 0 0),(.slice none 0 0)]] Q:=mu (cf:=gh) an (i:=2) rfl f_ (zo _) (by simp only[maxLen];omega)
 generalize (Value.slice (some ⟨D,0,none⟩) (n+f.length) (n+f.length))=B at ao ⊢
 have aa:St _ [blk z 67 [(.int .i64 n),j,q,t,B,(.slice (some ⟨A,0,none⟩) (n+f.length) (n+f.length))],fM fW (.slice (some ⟨A,0,none⟩) (n+f.length) (n+f.length)) 3 1 (List.replicate (n+f.length) 0),fM gh B 2 1 (List.replicate (n+f.length) 0),fM gh t 3 1 (List.replicate (n+f.length) 0),fM gh q 3 1 (List.replicate (n+f.length) 0),fM gh j 3 1 (List.replicate (n+f.length) 0),fM fW fv 3 1 f,blk E 67 [(.int .i64 0),(.slice none 0 0),(.slice none 0 0),(.slice none 0 0),(.slice none 0 0),(.slice none 0 0)]] Q:=mu (cf:=fW) ao (i:=1) rfl f_ (zo _) (by simp only[maxLen];omega)
 generalize (Value.slice (some ⟨A,0,none⟩) (n+f.length) (n+f.length))=C at aa ⊢
 refine Ko tt none aa 4 ?_
 refine rZ (cf:=iU.cells) (z0:=(⟨0,0⟩:iU)) (m:=n) (c:=n) rfl rfl rfl Tryz.underlying239 Gk rfl f_ d_ (zo _) o_ o_ aa ?_
 intro ap aE br bs aF
 have ab:St _ [fM iU.cells (.slice (some ⟨ap,0,none⟩) n n) 190 2 (List.replicate n (⟨0,0⟩:iU)),blk z 67 [(.int .i64 n),j,q,t,B,C],fM fW C 3 1 (List.replicate (n+f.length) 0),fM gh B 2 1 (List.replicate (n+f.length) 0),fM gh t 3 1 (List.replicate (n+f.length) 0),fM gh q 3 1 (List.replicate (n+f.length) 0),fM gh j 3 1 (List.replicate (n+f.length) 0),fM fW fv 3 1 f,blk E 67 [(.int .i64 0),(.slice none 0 0),(.slice none 0 0),(.slice none 0 0),(.slice none 0 0),(.slice none 0 0)]] aE:=mu (cf:=iU.cells) aF (i:=0) rfl f_ (zo _) (by simp only[maxLen];omega)
 generalize (Value.slice (some ⟨ap,0,none⟩) n n)=I at ab ⊢
 have aG:=yg [1,6,5,4,3,2,0,7,8] ab
 have aH:=yx 1 aG rfl (congrArg (fM gh j 3 1) (F5 (x := -1)))
 have aI:=yx 2 aH rfl (congrArg (fM gh q 3 1) (F5 (x := -1)))
 have aJ:=yx 3 aI rfl (congrArg (fM gh t 3 1) (F5 (x := -1)))
 refine gH ab 11 ?_
 refine lp (α:=Nat) (fun k=>[(0,(Za n)),(1,v),(4,(Zb E)),(5,Zc),(6,fv),(8,(Za ((n+f.length:Nat):Int))),(9,(Zb z)),(10,I),(48,(Za ((n+f.length:Nat):Int))),(49,(Za k))]) (fun k w1=>St [(w,[])] [blk z 67 (Zx n j q t B C),fM gh j 3 1 (nQ (-1) 0 (n+f.length) k),fM gh q 3 1 (nQ (-1) 0 (n+f.length) k),fM gh t 3 1 (nQ (-1) 0 (n+f.length) k),fM gh B 2 1 (List.replicate (n+f.length) 0),fM fW C 3 1 (List.replicate (n+f.length) 0),fM iU.cells I 190 2 (List.replicate n (⟨0,0⟩:iU)),fM fW fv 3 1 f,blk E 67 uC] w1/\k<=n+f.length) (fun k=>n+f.length-k) 0 ⟨rfl,rfl,rfl,rfl,rfl,rfl,rfl,rfl,rfl,gr rO,trivial⟩ (⟨aJ,o_⟩) ?_
 rintro k bt bu ⟨b4,hk⟩
 have cA:=SB (x:=(-1:Int)) (y:=0) hk
 refine fR b4 2 ?_
 by_cases bv:((k:Int):Int)<(((n+f.length:Nat):Int):Int)
 . refine gH b4 15 ?_
   refine kO mixed [([0,1,2,3,4,5,6,7,8,9,10],[4,7]),([11,12],[7])] [13,14] b4 (fun bw aq=>jR ?_)
   refine fK aq 10 ?_
   refine iQ (f:=(fun _ => -1)) (cf:=gh) 1 aq (fun bx ac=>?_)
   refine fQ ac 1 ?_
   refine kJ (jR ?_)
   refine fK ac 1 ?_
   refine iQ (f:=(fun _ => -1)) (cf:=gh) 2 ac (fun bz ad=>?_)
   refine fQ ad 1 ?_
   refine kJ (kU ?_)
   refine fK ad 1 ?_
   refine iQ (f:=(fun _ => -1)) (cf:=gh) 3 ad (fun bA au=>?_)
   refine fQ au 7 ?_
   refine tN (?_)
   have aK:=yx 1 au rfl (congrArg (fM gh j 3 1) (F4 o_))
   have aL:=yx 2 aK rfl (congrArg (fM gh q 3 1) (F4 o_))
   have aM:=yx 3 aL rfl (congrArg (fM gh t 3 1) (F4 o_))
   exact again (k+1) ⟨rfl,rfl,rfl,rfl,rfl,rfl,rfl,rfl,rfl,gr rO,trivial⟩ (⟨aM,o_⟩) (by show (n+f.length-(k+1):Nat)<n+f.length-k;omega)
 . have b5:k=n+f.length:=by omega
   have aN:=yx 1 b4 rfl (congrArg (fM gh j 3 1) ((congrArg (nQ (-1) 0 (n+f.length)) b5).trans KK))
   have aO:=yx 2 aN rfl (congrArg (fM gh q 3 1) ((congrArg (nQ (-1) 0 (n+f.length)) b5).trans KK))
   have aP:=yx 3 aO rfl (congrArg (fM gh t 3 1) ((congrArg (nQ (-1) 0 (n+f.length)) b5).trans KK))
   have aQ:=yx 5 aP rfl (congrArg (fM fW C 3 1) (F5 (x:=1)))
   have aR:=yx 6 aQ rfl (congrArg (fM iU.cells I 190 2) (afV))
   refine gH b4 18 ?_
   refine lp (α:=Nat) (fun F=>[(0,(Za n)),(1,v),(4,(Zb E)),(5,Zc),(6,fv),(8,(Za ((n+f.length:Nat):Int))),(9,(Zb z)),(10,I),(65,(Za n)),(66,(Za F))]) (fun F w1=>St [(w,[])] [blk z 67 (Zx n j q t B C),fM gh j 3 1 (List.replicate (n+f.length) (-1)),fM gh q 3 1 (List.replicate (n+f.length) (-1)),fM gh t 3 1 (List.replicate (n+f.length) (-1)),fM gh B 2 1 (List.replicate (n+f.length) 0),fM fW C 3 1 (nQ 1 0 (n+f.length) F),fM iU.cells I 190 2 (sC n F),fM fW fv 3 1 f,blk E 67 uC] w1/\F<=n) (fun F=>n-F) 0 ⟨rfl,rfl,rfl,rfl,rfl,rfl,rfl,rfl,rfl,gr rO,trivial⟩ (⟨aR,o_⟩) ?_
   rintro F bB bC ⟨b2,co⟩
   have cB:=SB (x:=(1:Nat)) (y:=0) (show F<=n+f.length by omega)
   have cD:=afT co
   refine fR b2 2 ?_
   by_cases bD:((F:Int):Int)<((n:Int):Int)
   . refine fK b2 21 ?_
     refine iQ (f:=(fun _=>1)) (cf:=fW) 5 b2 (fun bE ae=>?_)
     refine fK ae 7 ?_
     refine ji (pvs:=[(0,(Za F)),(1,(Za F))]) (v:=.agg #[(Za F),(Za F)]) rfl rfl (uG [(0,(Ze F)),(1,(Ze F))] Gk yn gy rfl ⟨rfl,rfl,rfl,rfl,trivial⟩ rfl s_) (fK ae 1 ?_)
     refine iQ (f:=(fun _=>(⟨F,F⟩:iU))) 6 ae (fun bF av=>?_)
     refine fQ av 7 ?_
     refine tN (?_)
     have aS:=yx 5 av rfl (congrArg (fM fW C 3 1) (F4 o_))
     have aT:=yx 6 aS rfl (congrArg (fM iU.cells I 190 2) (afU o_))
     exact again (F+1) ⟨rfl,rfl,rfl,rfl,rfl,rfl,rfl,rfl,rfl,gr rO,trivial⟩ (⟨aT,o_⟩) (by show (n-(F+1):Nat)<n-F;omega)
   . refine fK b2 14 ?_
     refine jm (m:=f.length) 7 rfl rfl yd b2 rfl ?_
     have b8:F=n:=by omega
     have aU:=yx 5 b2 rfl (congrArg (fM fW C 3 1) (((congrArg (nQ 1 0 (n+f.length)) b8).trans (by unfold nQ;rfl))))
     have aV:=yx 6 aU rfl (congrArg (fM iU.cells I 190 2) ((congrArg (sC n) b8).trans afS))
     have aW:=yx 1 aV rfl (congrArg (fM gh j 3 1) (rfl))
     have aX:=yx 2 aW rfl (congrArg (fM gh q 3 1) (rfl))
     have aY:=yx 3 aX rfl (congrArg (fM gh t 3 1) (rfl))
     have aZ:=yx 4 aY rfl (congrArg (fM gh B 2 1) (rfl))
     refine gH b2 4 ?_
     refine lp (α:=Nat×List iU) (fun(i,us)=>[(0,(Za n)),(1,v),(4,(Zb E)),(5,Zc),(6,fv),(9,(Zb z)),(10,I),(80,fv),(81,(Za f.length)),(82,(Za i))]) (fun(i,us) w1=>St [(w,[])] [blk z 67 (Zx n j q t B C),fM gh j 3 1 ((gM es n f i).l),fM gh q 3 1 ((gM es n f i).r),fM gh t 3 1 ((gM es n f i).p),fM gh B 2 1 ((gM es n f i).h),fM fW C 3 1 ((gM es n f i).s),fM iU.cells I 190 2 us,fM fW fv 3 1 f,blk E 67 uC] w1/\i<=f.length/\qF es n f i us) (fun(i,us)=>f.length-i) (0,((List.range n).map fun i=>⟨i,i⟩)) ⟨rfl,rfl,rfl,rfl,rfl,rfl,rfl,rfl,rfl,gr rO,trivial⟩ (⟨aZ,o_,qF.start⟩) ?_
     rintro⟨i,us⟩ bG a0 ⟨bk,hi,hT⟩
     obtain⟨ct,cu,cv,cw,cx,cy⟩:=zG (es:=es) (n:=n) (f:=f) i
     have cC:=hT.un.len
     refine fR bk 2 ?_
     by_cases bH:((i:Int):Int)<((f.length:Int):Int)
     . have b1:i<f.length:=by omega
       have cz:fJ f i<es.length:=bY.lt (zd (gz b1))
       obtain⟨cp,cq,cj,ck,b6⟩:=hT.at hg b1 (fun k hk=>bY.lt hk) (bY.mc b1)
       obtain⟨T,bZ⟩:∃ x,(fJ (gU es n (f.take i)) (fJ es (fJ f i)).u)=x:=⟨_,rfl⟩
       obtain⟨y7,b0⟩:∃ x,(fJ (gU es n (f.take i)) (fJ es (fJ f i)).v)=x:=⟨_,rfl⟩
       refine fK bk 1 ?_
       rw[bZ]at cj b6
       rw[b0]at ck b6
       obtain⟨cm,cn,b7⟩:=hT.two hg b1 (fun k hk=>bY.lt hk) (bY.mc b1) bZ b0
       refine fK bk 21 ?_
       refine ar (e:=((n+i:Nat):Int)) rfl rfl rfl rfl i7 (gH bk 4 ?_)
       have a1:=yg [6,0,1,2,3,4,5,7,8] bk
       have a2:St _ [(Un.R I n (gU es n (f.take i)) (gM es n f i).d us),blk z 67 (Zx n j q t B C),fM gh j 3 1 ((gM es n f i).l),fM gh q 3 1 ((gM es n f i).r),fM gh t 3 1 ((gM es n f i).p),fM gh B 2 1 ((gM es n f i).h),fM fW C 3 1 ((gM es n f i).s),fM fW fv 3 1 f,blk E 67 uC] a0:=yp a1 ⟨hT.un,hT.dd⟩
       refine kO mixed [([0,1,2,3,4,5,7,8,9,10,11,12,6],[12])] [13,14,15] a2 (fun a3 af=>jR ?_)
       refine fK af 12 ?_
       refine cl Ot (TO I n (gU es n (f.take i)) (gM es n f i).d us a3 (ye af 0 rfl) o_ ((fJ es (fJ f i)).u) o_ bZ) ?_
       rintro _ a4 ⟨a5,rfl,ht⟩
       have ag:=yk 0 af ht
       refine fQ ag 1 ?_
       refine kJ (kU ?_)
       refine cl Ot (TO I n (gU es n (f.take i)) (gM es n f i).d a5 a4 (ye ag 0 rfl) o_ ((fJ es (fJ f i)).v) o_ b0) ?_
       rintro _ bI ⟨O,rfl,ht⟩
       have S:=yk 0 ag ht
       refine fK S 8 ?_
       refine min2 (a:=(T:Int)) (b:=(y7:Int)) (c:=((min T y7:Nat):Int)) rfl rfl rfl FD (fK S 2 ?_)
       refine max2 (a:=(T:Int)) (b:=(y7:Int)) (c:=((max T y7:Nat):Int)) rfl rfl rfl abk ?_
       have U:=sG S
       have a6:=jP S
       have V:=U.2 (min T y7) o_
       have W:=U.2 (max T y7) o_
       have cE:=U.1.len
       refine gH S 5 ?_
       rw[<-V]at cm b7
       rw[<-W]at cn b7
       refine q7 a6 4 fun bJ X=>?_
       refine sU (cf:=iU.cells) (k:=(min T y7)) (off:=0) (off' := 1) (i:=1) rfl rfl rfl yn gy d_ rfl (iO X 0 rfl) (gz om) (fK X 4 ?_)
       refine sU (cf:=iU.cells) (k:=(max T y7)) (off:=0) (off' := 1) (i:=1) rfl rfl rfl yn gy d_ rfl (iO X 0 rfl) (gz om) (gH X 6 ?_)
       refine kO mixed [([0,1,2,3,4,5,6,7,8,9],[4])] [10,11] X (fun bK aw=>jR ?_)
       refine fK aw 9 ?_
       refine iQ (f:=(fun _=>((fJ O (min T y7)).b:Int))) 2 aw (fun bL ah=>?_)
       refine fQ ah 1 ?_
       refine kJ (kU ?_)
       refine fK ah 1 ?_
       refine iQ (f:=(fun _=>((fJ O (max T y7)).b:Int))) 3 ah (fun bM ax=>?_)
       refine gH ax 3 ?_
       refine kO mixed [([0,1,2,3,4,5,6,7,8,9],[4])] [10,11] ax (fun bN ay=>jR ?_)
       refine fK ay 9 ?_
       refine iQ (f:=(fun _=>((n+i:Nat):Int))) 4 ay (fun bO ai=>?_)
       refine fQ ai 1 ?_
       refine kJ (kU ?_)
       refine fK ai 1 ?_
       refine iQ (f:=(fun _=>((n+i:Nat):Int))) 4 ai (fun bP a7=>?_)
       refine gO a7 13 fun bQ a8=>?_
       refine iQ (f:=(fun _=>(fJ es (fJ f i)).w)) 5 a8 (fun bR a9=>?_)
       refine gO a9 17 fun bS az=>?_
       refine ar (e:=(((fJ ((gM es n f i).s) ((fJ O (min T y7)).b))+(fJ ((gM es n f i).s) ((fJ O (max T y7)).b)):Nat):Int)) rfl rfl rfl rfl i7 (fK az 1 ?_)
       refine iQ (f:=(fun _=>((fJ ((gM es n f i).s) ((fJ O (min T y7)).b))+(fJ ((gM es n f i).s) ((fJ O (max T y7)).b))))) 6 az (fun bT ba=>?_)
       refine gO ba 10 fun bU aA=>?_
       refine sU (cf:=iU.cells) (k:=(max T y7)) (off:=0) (off' := 0) (i:=0) rfl rfl rfl yn gy d_ rfl (iO aA 0 rfl) (gz om) (iQ (f:=(fun x:iU=>{ x with a:=(min T y7) })) 0 aA (fun bV aj=>?_))
       refine fK aj 1 ?_
       refine sU (cf:=iU.cells) (k:=(min T y7)) (off:=0) (off' := 1) (i:=1) rfl rfl rfl yn gy d_ rfl (iO aj 0 rfl) (gz om) (iQ (f:=(fun x:iU=>{ x with b:=(n+i) })) 0 aj (fun bW aB=>?_))
       refine fQ aB 7 ?_
       refine tN (?_)
       have bb:=yg [1,2,3,4,5,6,0,7,8] aB
       have bc:=yx 1 bb rfl (congrArg (fM gh j 3 1) (by subst bZ b0;simp only[V,W];rfl))
       have bd:=yx 2 bc rfl (congrArg (fM gh q 3 1) (by subst bZ b0;simp only[V,W];rfl))
       have be:=yx 3 bd rfl (congrArg (fM gh t 3 1) (by subst bZ b0;simp only[V,W];rfl))
       have bf:=yx 4 be rfl (congrArg (fM gh B 2 1) (rfl))
       have bg:=yx 5 bf rfl (congrArg (fM fW C 3 1) (by subst bZ b0;simp only[V,W];rfl))
       exact again ((i+1),fO (fO O (max T y7) (fun x=>{ x with a:=(min T y7) })) (min T y7) (fun x=>{ x with b:=(n+i) })) ⟨rfl,rfl,rfl,rfl,rfl,rfl,rfl,rfl,rfl,gr rO,trivial⟩ (⟨bg,o_,hT.next hg b1 (fun k hk=>bY.lt hk) (bY.mc b1) U.1 U.2 (by subst bZ b0;rfl)⟩) (by show (f.length-(i+1):Nat)<f.length-i;omega)
     . refine fK bk 13 ?_
       refine j8 8 bk (fun bX ak=>?_) (h1:=(ic rfl (ic (yu bk (i:=1) rfl) (ic (yu bk (i:=2) rfl) (ic (yu bk (i:=3) rfl) (ic (yu bk (i:=4) rfl) (ic (yu bk (i:=5) rfl) lB)))))))
       refine fQ ak 4 ?_
       refine og (v:=(uB n j q t B C)) (v' := Zc) Tryz.results85 (oq (cs:=(Zx n j q t B C)) rfl Tryz.underlying67 rfl w5 rfl (lZ ak (i:=8) (o:=0) (vs:=(Zx n j q t B C)) rfl rfl)) (pg rfl) ?_
       have b3:i=f.length:=by omega
       have bh:=yx 1 ak rfl (congrArg (fM gh j 3 1) (by rw[b3]<;>rfl))
       have bi:=yx 2 bh rfl (congrArg (fM gh q 3 1) (by rw[b3]<;>rfl))
       have bj:=yx 3 bi rfl (congrArg (fM gh t 3 1) (by rw[b3]<;>rfl))
       have bl:=yx 4 bj rfl (congrArg (fM gh B 2 1) (by rw[b3]<;>rfl))
       have bm:=yx 5 bl rfl (congrArg (fM fW C 3 1) (by rw[b3]<;>rfl))
       have bn:=yg [1,2,3,4,5] bm
       exact⟨f,j,q,t,B,C,rfl,bY,St.eM (yc [_,_,_,_,_] _ bn)⟩
end
section
open Go Go.Sx
structure mV (w:World) (es:List Ge) (n:Nat) (f:List Nat) (tl tr tp th ts:Value):Prop where
 l:iz 1 gh (fun _=>True) w tl (fV es n f).l
 r:iz 1 gh (fun _=>True) w tr (fV es n f).r
 p:iz 1 gh (fun _=>True) w tp (fV es n f).p
 h:iz 1 gh (fun _=>True) w th (fV es n f).h
 s:iz 1 fW (fun _=>True) w ts (fV es n f).s
theorem mV.to{bs:List (World×List Nat)}{L:List fS}{w w0:World}{es:List Ge}{n:Nat}{f:List Nat}{b d c a e:Value}(h:mV w0 es n f b d c a e)(hs:St bs L w)(hb:(w0,[])∈bs):mV w es n f b d c a e :=
 ⟨yw hs hb d_ h.l,yw hs hb d_ h.r,yw hs hb d_ h.p,yw hs hb d_ h.h,yw hs hb d_ h.s⟩
theorem aaO(es:List Ge)(n:Nat)(f:List Nat)(o:gP es n f)(I:n<=4096)(t y u q z:Value)(w:World)(m:mV w es n f t y u q z)(x:Nat)(A:x<n) :
 CR ya 142 (BT n t y u q z x) w (fun r w' => r = .bool true/\gA [] w w'):=by
 obtain⟨D,E,F,G,H⟩:=lK (es:=es) (n:=n) (f:=f)
 have C:=o.f.room o.g
 refine en Tryz.func142 Tryz.ntmps142 ?_
 have p:=yt w
 obtain⟨a1,a2,a3,B⟩:fJ (fV es n f).l x = -1/\fJ (fV es n f).r x = -1/\fJ (fV es n f).h x=0/\fJ (fV es n f).s x=1:=o.v.a x A
 refine fR p 2 ?_
 refine iF p (fun c d e j b=>?_)
 refine fK b 8 ?_
 refine iP (k:=x) (i:=(x:Int)) rfl rfl rfl yd gy m.l o_ o_ (gz o_) (jq rfl rfl yf rfl (yw b s_ d_ m.l) (gz o_) rfl (cmp rfl rfl rfl (rR o_) (fK b 4 ?_)))
 refine iP (k:=x) (i:=(x:Int)) rfl rfl rfl yd gy m.r o_ o_ (gz o_) (jq rfl rfl yf rfl (yw b s_ d_ m.r) (gz o_) rfl (cmp rfl rfl rfl (rR o_) (fK b 5 ?_)))
 refine iP (k:=x) (i:=(x:Int)) rfl rfl rfl y0 ti2 m.h o_ o_ (gz o_) (jq rfl rfl vo rfl (yw b s_ d_ m.h) (gz o_) rfl (cmp rfl rfl rfl (rR o_) (fK b 5 ?_)))
 refine iP (k:=x) (i:=(x:Int)) rfl rfl rfl yd gy m.s o_ o_ (gz o_) (jq rfl rfl yf rfl (yw b s_ d_ m.s) (gz o_) rfl (cmp rfl rfl rfl (rR o_) (fQ b 5 ?_)))
 refine gp (v:=Zf) Tryz.results142 rfl ?_
 exact⟨rfl,b.gD s_⟩
theorem Z3(es:List Ge)(n:Nat)(f:List Nat)(D:gP es n f)(hn:n<=4096)(L N M K O:Value)(w:World)(C:mV w es n f L N M K O)(i:Nat)(hi:i<f.length)(ev:Value)(le:List Nat)(Z:iz 1 fW (fun _=>True) w ev le)(Q:le[nL es n f i]? = some (gQ es n f (nL es n f i)))(R:le[nR es n f i]? = some (gQ es n f (nR es n f i))) :
 CR ya 144 #[(uB n L N M K O),ev,(Za ((n+i:Nat):Int))] w (fun r w' => r = .bool true/\gA [] w w'):=by
 obtain⟨ab,ac,ad,ae,af⟩:=lK (es:=es) (n:=n) (f:=f)
 have aa:=D.f.room D.g
 refine en Tryz.func144 Tryz.ntmps144 ?_
 have J:=yt w
 obtain⟨e1,F,G,H,I,U,V,W,X,S⟩:=D.inner hi
 obtain⟨k1,k2,k3⟩:=D.wB hi
 have s1:=(D.st hi).1
 have ag:fJ (fV es n f).s (nL es n f i)<=n:=by omega
 have ah:fJ (fV es n f).s (nR es n f i)<=n:=by omega
 refine fR J 2 ?_
 refine iF J (fun o q t u j=>?_)
 refine gO j 8 fun x a=>?_
 refine iP (k:=(n+i)) (i:=((n+i:Nat):Int)) rfl rfl rfl yd gy C.l o_ o_ e1 (jq rfl rfl yf rfl (yw a s_ d_ C.l) e1 rfl (fK a 3 ?_))
 refine iP (k:=(n+i)) (i:=((n+i:Nat):Int)) rfl rfl rfl yd gy C.r o_ o_ F (jq rfl rfl yf rfl (yw a s_ d_ C.r) F rfl (fK a 8 ?_))
 refine cmp rfl rfl rfl (lC o_) (fK a 3 ?_)
 refine cmp rfl rfl rfl (oG o_) (fK a 3 ?_)
 refine cmp rfl rfl rfl (lC o_) (fK a 4 ?_)
 refine cmp rfl rfl rfl (oG o_) (fK a 4 ?_)
 refine cmp rfl rfl rfl (uH o_) (gO a 12 fun z c=>?_)
 refine iP (k:=(nL es n f i)) (i:=(((nL es n f i):Nat):Int)) rfl rfl rfl yd gy C.p o_ o_ H (jq rfl rfl yf rfl (yw c s_ d_ C.p) H rfl (fK c 1 ?_))
 refine cmp rfl rfl rfl (oW o_) (fK c 4 ?_)
 refine iP (k:=(nR es n f i)) (i:=(((nR es n f i):Nat):Int)) rfl rfl rfl yd gy C.p o_ o_ I (jq rfl rfl yf rfl (yw c s_ d_ C.p) I rfl (fK c 1 ?_))
 refine cmp rfl rfl rfl (oW o_) (fK c 10 ?_)
 refine cmp rfl rfl rfl (oG o_) (gO c 12 fun A d=>?_)
 refine iP (k:=(n+i)) (i:=((n+i:Nat):Int)) rfl rfl rfl yd gy C.s o_ o_ (gz o_) (jq rfl rfl yf rfl (yw d s_ d_ C.s) (gz o_) rfl (fK d 3 ?_))
 refine iP (k:=(nL es n f i)) (i:=(((nL es n f i):Nat):Int)) rfl rfl rfl yd gy C.s o_ o_ (gz o_) (jq rfl rfl yf rfl (yw d s_ d_ C.s) (gz o_) rfl (fK d 3 ?_))
 refine iP (k:=(nR es n f i)) (i:=(((nR es n f i):Nat):Int)) rfl rfl rfl yd gy C.s o_ o_ (gz o_) (jq rfl rfl yf rfl (yw d s_ d_ C.s) (gz o_) rfl (ar (e:=(((fJ (fV es n f).s (nL es n f i))+(fJ (fV es n f).s (nR es n f i)):Nat):Int)) rfl rfl rfl rfl i7 (cmp rfl rfl rfl (oW o_) ?_)))
 have P:¬ ((n+i:Nat):Int)=(n:Int)->∃ y,(fV es n f).h[n+i-1]? = some y/\y<=(fJ es (fJ f i)).w:=fun Y=>⟨_,by have e:=(D.inner (show i-1<f.length by omega)).2.2.1;rwa [show n+(i-1)=n+i-1 by omega]at e,by have e:=D.f.j5 (i:=i-1) o_;rwa [show i-1+1=i by omega]at e⟩
 refine gO d 10 fun B b=>?_
 by_cases m:(((n+i:Nat):Int):Int)=((n:Int):Int)
 . refine fQ b 19 ?_
   refine gp (v:=Zf) Tryz.results144 rfl ?_
   exact⟨rfl,b.gD s_⟩
 . obtain⟨ai,E,T⟩:=P m
   refine fK b 5 ?_
   refine iP (k:=(n+i)) (i:=((n+i:Nat):Int)) rfl rfl rfl y0 ti2 C.h o_ o_ G (jq rfl rfl vo rfl (yw b s_ d_ C.h) G rfl (fK b 3 ?_))
   refine ar (e:=((n+i-1:Nat):Int)) rfl rfl rfl rfl i7 (iP (k:=(n+i-1)) (i:=((n+i-1:Nat):Int)) rfl rfl rfl y0 ti2 C.h o_ o_ E (jq rfl rfl vo rfl (yw b s_ d_ C.h) E rfl (cmp rfl rfl rfl (nY o_) (fQ b 5 ?_))))
   refine gp (v:=Zf) Tryz.results144 rfl ?_
   exact⟨rfl,b.gD s_⟩
theorem Vb(es:List Ge)(n:Nat)(f:List Nat)(h:gP es n f)(D:n<=4096)(o s q m t:Value)(w:World)(j:mV w es n f o s q m t)(y:Nat)(E:y<n+f.length)(h1:(fV es n f).p[y]? = some (-1)) :
 CR ya 146 (BT n o s q m t y) w (fun r w' => r = .bool true/\gA [] w w'):=by
 obtain⟨x,z,A,B,C⟩:=lK (es:=es) (n:=n) (f:=f)
 have u:=h.f.room h.g
 refine en Tryz.func146 Tryz.ntmps146 ?_
 have l:=yt w
 refine fR l 2 ?_
 refine iF l (fun b c d e a=>?_)
 refine fK a 8 ?_
 refine iP (k:=y) (i:=(y:Int)) rfl rfl rfl yd gy j.p o_ o_ h1 (jq rfl rfl yf rfl (yw a s_ d_ j.p) h1 rfl (fK a 7 ?_))
 refine cmp rfl rfl rfl (rR o_) (fQ a 10 ?_)
 refine gp (v:=Zf) Tryz.results146 rfl ?_
 exact⟨rfl,a.gD s_⟩
theorem Ve(es:List Ge)(n:Nat)(f:List Nat)(j:gP es n f)(O:n<=4096)(s t m q u:Value)(w:World)(h:mV w es n f s t m q u)(y i:Nat)(hi:i<f.length)(h1:(fV es n f).p[y]? = some ((n+i:Nat):Int))(H:y=nL es n f i) :
 CR ya 146 (BT n s t m q u y) w (fun r w' => r = .bool true/\gA [] w w'):=by
 obtain⟨J,K,L,M,N⟩:=lK (es:=es) (n:=n) (f:=f)
 have I:=j.f.room j.g
 have P:y<n+f.length:=by obtain⟨_,_,_,_,_,_,_,x,z,_⟩:=j.inner hi;omega
 refine en Tryz.func146 Tryz.ntmps146 ?_
 have o:=yt w
 obtain⟨e1,B,C,D,E,F,G,x,z,A⟩:=j.inner hi
 refine fR o 2 ?_
 refine iF o (fun b c d e a=>?_)
 refine fK a 8 ?_
 refine iP (k:=y) (i:=(y:Int)) rfl rfl rfl yd gy h.p o_ o_ h1 (jq rfl rfl yf rfl (yw a s_ d_ h.p) h1 rfl (fK a 7 ?_))
 refine cmp rfl rfl rfl (uH o_) (fK a 8 ?_)
 refine cmp rfl rfl rfl (nY o_) (fK a 4 ?_)
 refine k6 (v:=m) rfl rfl yd h.p (cmp rfl rfl rfl (qo o_) (fK a 5 ?_))
 refine iP (k:=(n+i)) (i:=((n+i:Nat):Int)) rfl rfl rfl yd gy h.l o_ o_ e1 (jq rfl rfl yf rfl (yw a s_ d_ h.l) e1 rfl (fK a 1 ?_))
 refine cmp rfl rfl rfl (rR o_) (fQ a 14 ?_)
 refine gp (v:=Zf) Tryz.results146 rfl ?_
 exact⟨rfl,a.gD s_⟩
theorem Vf(es:List Ge)(n:Nat)(f:List Nat)(j:gP es n f)(O:n<=4096)(t u m s x:Value)(w:World)(h:mV w es n f t u m s x)(y i:Nat)(hi:i<f.length)(h1:(fV es n f).p[y]? = some ((n+i:Nat):Int))(H:y=nR es n f i) :
 CR ya 146 (BT n t u m s x y) w (fun r w' => r = .bool true/\gA [] w w'):=by
 obtain⟨J,K,L,M,N⟩:=lK (es:=es) (n:=n) (f:=f)
 have I:=j.f.room j.g
 have P:y<n+f.length:=by obtain⟨_,_,_,_,_,_,_,z,A,_⟩:=j.inner hi;omega
 refine en Tryz.func146 Tryz.ntmps146 ?_
 have q:=yt w
 obtain⟨e1,o,C,D,E,F,G,z,A,B⟩:=j.inner hi
 refine fR q 2 ?_
 refine iF q (fun b c d e a=>?_)
 refine fK a 8 ?_
 refine iP (k:=y) (i:=(y:Int)) rfl rfl rfl yd gy h.p o_ o_ h1 (jq rfl rfl yf rfl (yw a s_ d_ h.p) h1 rfl (fK a 7 ?_))
 refine cmp rfl rfl rfl (uH o_) (fK a 8 ?_)
 refine cmp rfl rfl rfl (nY o_) (fK a 4 ?_)
 refine k6 (v:=m) rfl rfl yd h.p (cmp rfl rfl rfl (qo o_) (fK a 5 ?_))
 refine iP (k:=(n+i)) (i:=((n+i:Nat):Int)) rfl rfl rfl yd gy h.l o_ o_ e1 (jq rfl rfl yf rfl (yw a s_ d_ h.l) e1 rfl (fK a 1 ?_))
 refine cmp rfl rfl rfl (uH o_) (fK a 4 ?_)
 refine iP (k:=(n+i)) (i:=((n+i:Nat):Int)) rfl rfl rfl yd gy h.r o_ o_ o (jq rfl rfl yf rfl (yw a s_ d_ h.r) o rfl (fK a 1 ?_))
 refine cmp rfl rfl rfl (rR o_) (fQ a 6 ?_)
 refine gp (v:=Zf) Tryz.results146 rfl ?_
 exact⟨rfl,a.gD s_⟩
theorem Vg(es:List Ge)(n:Nat)(f:List Nat)(h:gP es n f)(l:n<=4096)(b d c a e:Value)(w:World)(k:mV w es n f b d c a e)(y:Nat)(o:y<n+f.length) :
 CR ya 146 (BT n b d c a e y) w (fun r w' => r = .bool true/\gA [] w w'):=by
 rcases h.par o with g|⟨i,g,m,j|j⟩
 . exact Vb es n f h l b d c a e w k y o g
 . exact Ve es n f h l b d c a e w k y i g m j
 . exact Vf es n f h l b d c a e w k y i g m j
theorem ZZ(es:List Ge)(n:Nat)(f:List Nat)(g:gP es n f)(p:n<=4096)(b d c a e:Value)(w:World)(m:mV w es n f b d c a e)(x:Nat)(q:n<=x)(s:x<n+f.length)(ev:Value)(le:List Nat)(o:iz 1 fW (fun _=>True) w ev le)(h:∀ k,k<x->le[k]? = some (gQ es n f k)) :
 CR ya 144 #[(uB n b d c a e),ev,(Za x)] w (fun r w' => r = .bool true/\gA [] w w'):=by
 obtain⟨i,rfl⟩:∃ i,x=n+i:=⟨x-n,o_⟩
 obtain⟨_,_,_,_,_,_,_,j,l,_⟩:=g.inner (show i<f.length by omega)
 exact Z3 es n f g p b d c a e w m i o_ ev le o (h _ j) (h _ l)
theorem V6(es:List Ge)(n:Nat)(f:List Nat)(l:gP es n f)(o:n<=4096)(h j i g k:Value)(w:World)(m:mV w es n f h j i g k)(tb:Nat) (hb:(blk tb 67 (Zx n h j i g k)).holds w) (x:Nat) (p:x<n+f.length) :
 CR ya 141 (BV x tb) w (fun r w' => r = .bool true/\gA [] w w'):=by
 refine en Tryz.func141 Tryz.ntmps141 ?_
 have e:=yt w
 refine fR e 10 ?_
 by_cases c:((x:Int):Int)≥((n:Int):Int)
 . refine fQ e 10 ?_
   refine gp (v:=Zf) Tryz.results141 rfl ?_
   exact⟨rfl,e.gD s_⟩
 . refine fK e 4 ?_
   refine cl W5 (aaO es n f l o h j i g k w m x o_) ?_
   rintro _ d ⟨rfl,b⟩
   have a:=yq e b
   refine fQ a 5 ?_
   refine gp (v:=Zf) Tryz.results141 rfl ?_
   exact⟨rfl,a.gD s_⟩
theorem V7(es:List Ge)(n:Nat)(f:List Nat)(m:gP es n f)(s:n<=4096)(h j i g l:Value)(w:World)(o:mV w es n f h j i g l)(tb:Nat) (hb:(blk tb 67 (Zx n h j i g l)).holds w)(lb:Nat) (ev:Value) (le:List Nat) (u:(blk lb 65 [ev]).holds w) (p:iz 1 fW (fun _=>True) w ev le) (x:Nat) (t:x<n+f.length) (q:∀ k,k<x->le[k]? = some (gQ es n f k)) :
 CR ya 143 #[(Za x),(Zb tb),(Zb lb)] w (fun r w' => r = .bool true/\gA [] w w'):=by
 refine en Tryz.func143 Tryz.ntmps143 ?_
 have e:=yt w
 refine fR e 10 ?_
 by_cases c:((x:Int):Int)<((n:Int):Int)
 . refine fQ e 11 ?_
   refine gp (v:=Zf) Tryz.results143 rfl ?_
   exact⟨rfl,e.gD s_⟩
 . refine fK e 5 ?_
   refine cl W7 (ZZ es n f m s h j i g l w o x o_ t ev le p q) ?_
   rintro _ d ⟨rfl,b⟩
   have a:=yq e b
   refine fQ a 5 ?_
   refine gp (v:=Zf) Tryz.results143 rfl ?_
   exact⟨rfl,a.gD s_⟩
theorem V8(es:List Ge)(n:Nat)(f:List Nat)(k:gP es n f)(m:n<=4096)(e h g d i:Value)(w:World)(l:mV w es n f e h g d i)(tb:Nat) (hb:(blk tb 67 (Zx n e h g d i)).holds w) (x:Nat) (o:x<n+f.length) :
 CR ya 145 (BV x tb) w (fun r w' => r = .bool true/\gA [] w w'):=by
 refine en Tryz.func145 Tryz.ntmps145 ?_
 have j:=yt w
 refine fR j 9 ?_
 refine cl W9 (Vg es n f k m e h g d i w l x o) ?_
 rintro _ c ⟨rfl,b⟩
 have a:=yq j b
 refine fQ a 4 ?_
 refine gp (v:=Zf) Tryz.results145 rfl ?_
 exact⟨rfl,a.gD s_⟩
theorem ZL(es:List Ge)(n:Nat)(f:List Nat)(y:gP es n f)(A:n<=4096)(q t s p u:Value)(w:World)(z:mV w es n f q t s p u)(tb:Nat) (hb:(blk tb 67 (Zx n q t s p u)).holds w)(lb:Nat) (ev:Value) (le:List Nat) (D:(blk lb 65 [ev]).holds w) (C:iz 1 fW (fun _=>True) w ev le)(cb:Nat) (cv:Value) (F:(blk cb 251 [cv]).holds w) (m:iz 1 Pw (fun _=>True) w cv (BY tb lb)) (x:Nat) (B:x<n+f.length) (E:∀ k,k<x->le[k]? = some (gQ es n f k)) :
 CR ya 147 (BV x cb) w (fun r w' => r = .bool true/\gA [] w w'):=by
 refine en Tryz.func147 Tryz.ntmps147 ?_
 have o:=yt w
 refine fR o 9 ?_
 refine k6 (v:=cv) rfl rfl Bo m (gH o 4 ?_)
 refine ru 4 (iD (fR o 2 ?_))
 refine cmp rfl rfl rfl (qo s_) (fK o 10 ?_)
 refine iP (k:=0) (i:=0) rfl rfl rfl Bo Dl m o_ o_ rfl (jq rfl rfl Tryz.underlying115 rfl m rfl rfl (fK o 7 ?_))
 refine qp (fi:=[]) (ca:=(Zi tb)) rfl rfl rfl W4 (V6 es n f y A q t s p u w z tb hb x B) ?_
 rintro _ d ⟨rfl,e⟩
 have a:=yq o e
 refine fQ a 11 ?_
 refine tN (?_)
 refine iD (fR a 2 ?_)
 refine cmp rfl rfl rfl (qo s_) (fK a 10 ?_)
 refine iP (k:=1) (i:=1) rfl rfl rfl Bo Dl m o_ o_ rfl (jq rfl rfl Tryz.underlying115 rfl (yw a s_ d_ m) rfl rfl (fK a 7 ?_))
 refine qp (fi:=[]) (ca:=(qI tb lb)) rfl rfl rfl W6 (V7 es n f y A q t s p u d (z.to a s_) tb (St.x9 a s_ hb) lb ev le (St.x9 a s_ D) (yw a s_ d_ C) x B E) ?_
 rintro _ g ⟨rfl,h⟩
 have b:=yq a h
 refine fQ b 11 ?_
 refine tN (?_)
 refine iD (fR b 2 ?_)
 refine cmp rfl rfl rfl (qo s_) (fK b 10 ?_)
 refine iP (k:=2) (i:=2) rfl rfl rfl Bo Dl m o_ o_ rfl (jq rfl rfl Tryz.underlying115 rfl (yw b s_ d_ m) rfl rfl (fK b 7 ?_))
 refine qp (fi:=[]) (ca:=(Zi tb)) rfl rfl rfl W8 (V8 es n f y A q t s p u g (z.to b s_) tb (St.x9 b s_ hb) x B) ?_
 rintro _ l ⟨rfl,j⟩
 have c:=yq b j
 refine fQ c 11 ?_
 refine tN (?_)
 refine iD (fR c 2 ?_)
 refine cmp rfl rfl rfl (lC s_) (fQ c 15 ?_)
 refine gp (v:=Zf) Tryz.results147 rfl ?_
 exact⟨rfl,c.gD s_⟩
theorem Qw(es:List Ge)(n:Nat)(f:List Nat)(hF:gP es n f)(hn:n<=4096)(tl tr tp th ts:Value)(w:World)(F:mV w es n f tl tr tp th ts) :
 CR ya 96 #[(uB n tl tr tp th ts)] w (fun r w' => ∃ (v:Value),r = .tuple #[v,.bool true]/\fZ (gq []) w w' (pM v ((List.range (n+f.length)).map (gQ es n f)))):=by
 obtain⟨az,aA,aw,aB,aC⟩:=lK (es:=es) (n:=n) (f:=f)
 have ax:=hF.f.room hF.g
 refine en Tryz.func96 Tryz.ntmps96 ?_
 have au:=yt w
 refine fR au 2 ?_
 refine iF au (fun b S U V a=>?_)
 refine fK a 8 ?_
 refine k6 (v:=tp) rfl rfl yd F.p (fK a 8 ?_)
 refine cmp rfl rfl rfl (lC o_) (fK a 3 ?_)
 refine cmp rfl rfl rfl (pR o_) (fK a 5 ?_)
 refine cmp rfl rfl rfl (lC o_) (fK a 6 ?_)
 refine cmp rfl rfl rfl (pR o_) (fK a 11 ?_)
 refine k6 (v:=tl) rfl rfl yd F.l (fK a 1 ?_)
 refine cmp rfl rfl rfl (oW o_) (fK a 3 ?_)
 refine k6 (v:=tr) rfl rfl yd F.r (fK a 1 ?_)
 refine cmp rfl rfl rfl (oW o_) (fK a 4 ?_)
 refine k6 (v:=th) rfl rfl y0 F.h (fK a 1 ?_)
 refine cmp rfl rfl rfl (oW o_) (fK a 4 ?_)
 refine k6 (v:=ts) rfl rfl yd F.s (fK a 1 ?_)
 refine cmp rfl rfl rfl (oW o_) (fK a 9 ?_)
 refine rZ (cf:=fW) (z0:=0) (m:=((fV es n f).p.length)) (c:=((fV es n f).p.length)) rfl rfl rfl yd gy rfl f_ d_ (zo _) o_ o_ a ?_
 intro A G W X H
 have B:St _ [fM fW (.slice (some ⟨A,0,none⟩) ((fV es n f).p.length) ((fV es n f).p.length)) 3 1 (List.replicate ((fV es n f).p.length) 0),blk b 67 [(.int .i64 n),tl,tr,tp,th,ts]] G:=mu (cf:=fW) H (i:=0) rfl f_ (zo _) (by simp only[maxLen];omega)
 generalize (Value.slice (some ⟨A,0,none⟩) ((fV es n f).p.length) ((fV es n f).p.length))=d at B ⊢
 refine iR B (fun e Y Z aa u=>?_)
 refine j8 0 u (fun ab C=>?_) (hvs:=(cells_one (yu u (i:=1) rfl))) (h1:=(ic (yu u (i:=1) rfl) lB))
 refine fK C 4 ?_
 refine oc (vf:=[]) (vc:=(Zi b)) rfl rfl rfl (oc (vf:=[]) (vc:=(qI b e)) rfl rfl rfl (oc (vf:=[]) (vc:=(Zi b)) rfl rfl rfl (kj (vs:=(BY b e)) (cs:=(BY b e)) rfl rfl Bo Dl rfl (by simp[Value.cells]) rfl rfl rfl C (fun x ac ad ae I=>iR I (fun q af ag ah J=>?_)))))
 refine gO J 5 fun ai D=>?_
 refine oc (vf:=[]) (vc:=(Zi q)) rfl rfl rfl ?_
 have K:=yg [3,4,2,0,1] D
 have L:=yx 0 K rfl (congrArg (fM fW d 3 1) (aaN (es:=es) (n:=n) (f:=f)))
 refine gH D 11 ?_
 refine lp (α:=Nat) (fun k=>[(1,(Zb b)),(2,Zg),(3,Zn),(5,(Zb e)),(6,(Zb q)),(7,(.func (.func 147) #[] (Zh q))),(66,(Za (((fV es n f).p).length:Int))),(67,(Za k))]) (fun k w1=>St [(w,[])] [fM fW d 3 1 (nI es n f (fV es n f).p.length k),blk b 67 (Zx n tl tr tp th ts),blk e 65 [d],blk q 251 [(H6 x)],row (H6 x) 115 1 3 ((BY b e))] w1/\k<=(fV es n f).p.length) (fun k=>(fV es n f).p.length-k) 0 ⟨rfl,rfl,rfl,rfl,rfl,rfl,rfl,gr rO,trivial⟩ (⟨L,o_⟩) ?_
 rintro k aj ak ⟨aq,hk⟩
 have aD:=aaL (es:=es) (n:=n) (f:=f) hk
 refine fR aq 2 ?_
 by_cases al:((k:Int):Int)<((((fV es n f).p).length:Int):Int)
 . have ay:k<(fV es n f).p.length:=by omega
   refine fK aq 21 ?_
   refine iQ (f:=(fun _=>k)) 0 aq (fun M o=>?_)
   refine fK o 7 ?_
   refine qp (fi:=[]) (ca:=(Zi q)) rfl rfl rfl Xa (ZL es n f hF hn tl tr tp th ts M (F.to o s_) b (St.at o (i:=1) rfl) e d (fO (nI es n f (fV es n f).p.length k) k (fun _=>k)) (St.at o (i:=2) rfl) (iO o 0 rfl).any q (H6 x) (St.at o (i:=3) rfl) (Sl.any (vr (cf:=Pw) (xs:=(BY b e)) o (i:=4) rfl f_)) k o_ (fun j hj=>Qs hk hj)) ?_
   rintro _ am ⟨rfl,N⟩
   have t:=yq o N
   refine fK t 11 ?_
   by_cases an:((k:Int):Int)≥((n:Int):Int)
   . obtain⟨T,ar⟩:∃ T,k=n+T:=⟨k-n,o_⟩
     obtain⟨e1,_,_,_,_,_,_,e8,_,_⟩:=hF.inner (show T<f.length by omega)
     obtain⟨q1,q2,q3⟩:=hF.wB (show T<f.length by omega)
     refine gO t 11 fun ao y=>?_
     refine iP (k:=k) (i:=(k:Int)) rfl rfl rfl yd gy F.l o_ o_ (by rw[ar];exact e1) (jq rfl rfl yf rfl (yw y s_ d_ F.l) (by rw[ar];exact e1) rfl (fK y 3 ?_))
     refine iQ (f:=(fun _=>(fJ (fO (nI es n f (fV es n f).p.length k) k (fun _=>k)) (nL es n f T)))) 0 y (fun ap E=>?_)
     refine fQ E 7 ?_
     refine tN (?_)
     have O:=yx 0 E rfl (congrArg (fM fW d 3 1) (aaM o_ (by rw[ij (Qs hk (show nL es n f T<k by omega)),ar,q3];exact q1)))
     exact again (k+1) ⟨rfl,rfl,rfl,rfl,rfl,rfl,rfl,gr rO,trivial⟩ (⟨O,o_⟩) (by show ((fV es n f).p.length-(k+1):Nat)<(fV es n f).p.length-k;omega)
   . refine fQ t 11 ?_
     refine tN (?_)
     have P:=yx 0 t rfl (congrArg (fM fW d 3 1) (Qt o_ (by unfold gQ;rw[if_pos o_])))
     exact again (k+1) ⟨rfl,rfl,rfl,rfl,rfl,rfl,rfl,gr rO,trivial⟩ (⟨P,o_⟩) (by show ((fV es n f).p.length-(k+1):Nat)<(fV es n f).p.length-k;omega)
 . refine fQ aq 18 ?_
   refine iH (v:=d) (v' := Zf) Tryz.results96 rfl rfl ?_
   have Q:=yg [0] aq
   have av:k=n+f.length:=by omega
   have R:=yx 0 Q rfl (congrArg (fM fW d 3 1) ((congrArg (fun z=>nI es n f z k) aw).trans ((congrArg (nI es n f (n+f.length)) av).trans aaK)))
   exact⟨d,rfl,St.eM R⟩
end
section
open Go Go.Sx
theorem adx(es:List Ge)(n:Nat)(f:List Nat)(s:gP es n f)(u:n<=4096)(l o m k p:Value)(w:World)(t:mV w es n f l o m k p) :
 CR ya 54 #[(uB n l o m k p)] w (fun r w' => r = .int .i64 0/\gA [] w w'):=by
 refine en Tryz.func54 Tryz.ntmps54 ?_
 have q:=yt w
 refine fR q 2 ?_
 refine iF q (fun e c g h a=>?_)
 refine fK a 7 ?_
 refine cl Pc (Qw es n f s u l o m k p c (t.to a s_)) ?_
 rintro _ i ⟨j,rfl,x⟩
 have b:=(ki a x)
 refine fQ b 22 ?_
 refine gp (v:=Zc) Tryz.results54 rfl ?_
 have d:=yg [] b
 exact⟨rfl,d.gD s_⟩
theorem Ss(es:List Ge)(n:Nat)(f:List Nat)(q:gP es n f)(t:n<=4096)(k m l j o:Value)(w:World)(s:mV w es n f k m l j o) :
 CR ya 55 #[(uB n k m l j o)] w (fun r w' => ∃ (v:Value),v=r/\fZ (gq []) w w' (pM v ((List.range (n+f.length)).map (gQ es n f)))):=by
 refine en Tryz.func55 Tryz.ntmps55 ?_
 have p:=yt w
 refine fR p 2 ?_
 refine iF p (fun e d g h a=>?_)
 refine fK a 6 ?_
 refine cl Pc (Qw es n f q t k m l j o d (s.to a s_)) ?_
 rintro _ i ⟨b,rfl,u⟩
 have c:=(ki a u)
 refine fQ c 24 ?_
 refine gp (v:=b) Tryz.results55 rfl ?_
 exact⟨b,rfl,St.eM c⟩
theorem Ws(es:List Ge)(n:Nat)(f:List Nat)(hF:gP es n f)(hn:n<=4096)(Z tr F T ts:Value)(w:World)(hR:mV w es n f Z tr F T ts) :
 CR ya 29 #[(uB n Z tr F T ts)] w (fun r w' => ∃ (v:Value),r = .tuple #[v,.int .i64 0]/\fZ (gq []) w w' (fM Mg.cells v 96 5 (nZ es n f f.length))):=by
 obtain⟨ag,ah,ai,aj,ak⟩:=lK (es:=es) (n:=n) (f:=f)
 have af:=hF.f.room hF.g
 refine enter (vs:=(D9 n Z tr F T ts)) Tryz.func29 rfl Tryz.ntmps29 rfl ?_
 have ac:=yt w
 refine fR ac 2 ?_
 refine iF ac (fun d H P Q t=>?_)
 refine fK t 8 ?_
 refine jM (vl:=(D9 n Z tr F T ts)) rfl rfl X3 (adx es n f hF hn Z tr F T ts H (hR.to t s_)) ?_
 rintro _ C ⟨rfl,I⟩
 have y:St _ [blk d 67 (Zx n Z tr F T ts)] C:=yq t I
 refine fK y 15 ?_
 refine jM (vl:=(D9 n Z tr F T ts)) rfl rfl O3 (Ss es n f hF hn Z tr F T ts C (hR.to y s_)) ?_
 rintro _ D ⟨j,rfl,ht⟩
 have E:St _ [fM fW j 3 1 ((List.range (n+f.length)).map (gQ es n f)),blk d 67 (Zx n Z tr F T ts)] D:=(ki (R:=fM fW j 3 1 ((List.range (n+f.length)).map (gQ es n f))) y ht)
 have J:St _ [fM Mg.cells Zg 96 5 (nZ es n f 0),fM fW j 3 1 ((List.range (n+f.length)).map (gQ es n f)),blk d 67 (Zx n Z tr F T ts)] D:=rA E 96 5
 refine gH E 17 ?_
 refine lp (α:=Nat×Value) (fun(i,mv)=>[(1,(Zb d)),(2,Zg),(3,Zc),(5,j),(6,mv),(7,(Za ((n+i:Nat):Int)))]) (fun(i,mv) w1=>St [(w,[])] [fM Mg.cells mv 96 5 (nZ es n f i),fM fW j 3 1 ((List.range (n+f.length)).map (gQ es n f)),blk d 67 (Zx n Z tr F T ts)] w1/\i<=f.length) (fun(i,mv)=>f.length-i) (0,Zg) ⟨rfl,rfl,rfl,rfl,rfl,gr (by first|rfl|omega),trivial⟩ (⟨J,o_⟩) ?_
 rintro⟨i,mv⟩ S K ⟨aa,hi⟩
 have am:=Fz (es:=es) (n:=n) (f:=f) (k:=i)
 refine fR aa 6 ?_
 refine k6 (v:=F) rfl rfl yd hR.p ?_
 by_cases U:(((n+i:Nat):Int):Int)<((((fV es n f).p).length:Int):Int)
 . have ab:i<f.length:=by omega
   obtain⟨e1,e2,e3,e4,e5,e6,e7,e8,e9,ae⟩:=hF.inner ab
   obtain⟨q1,q2,q3⟩:=hF.wB ab
   have al:((List.range (n+f.length)).map (gQ es n f)).length=n+f.length:=by simp
   refine gO aa 14 fun V m=>?_
   refine iP (k:=(n+i)) (i:=((n+i:Nat):Int)) rfl rfl rfl yd gy hR.l o_ o_ e1 (jq (u:=(Za (((nL es n f i):Nat):Int))) rfl rfl yf rfl (yw m s_ d_ hR.l) e1 rfl (fK m 6 ?_))
   refine iP (k:=(n+i)) (i:=((n+i:Nat):Int)) rfl rfl rfl yd gy hR.r o_ o_ e2 (jq (u:=(Za (((nR es n f i):Nat):Int))) rfl rfl yf rfl (yw m s_ d_ hR.r) e2 rfl (fK m 5 ?_))
   refine iP (k:=(n+i)) (i:=((n+i:Nat):Int)) rfl rfl rfl y0 ti2 hR.h o_ o_ e3 (jq (u:=(Za ((fJ es (fJ f i)).w))) rfl rfl vo rfl (yw m s_ d_ hR.h) e3 rfl (ji (pvs:=[(0,(Za ((fJ es (fJ f i)).w))),(1,qH)]) (v:=.agg #[(Za ((fJ es (fJ f i)).w)),qH]) rfl rfl (jA [(0,(Ze ((fJ es (fJ f i)).w))),(1,[qH])] Lu ac7 rfl ⟨rfl,rfl,rfl,rfl,trivial⟩ rfl) (fK m 3 ?_)))
   refine iP (k:=(n+i)) (i:=((n+i:Nat):Int)) rfl rfl rfl yd gy hR.s o_ o_ (gz o_) (jq (u:=(Za (((fJ (fV es n f).s (n+i)):Nat):Int))) rfl rfl yf rfl (yw m s_ d_ hR.s) (gz o_) rfl (ji (pvs:=[(0,(Za (((fJ ((List.range (n+f.length)).map (gQ es n f)) (nL es n f i)):Nat):Int))),(1,(Za (((fJ ((List.range (n+f.length)).map (gQ es n f)) (nR es n f i)):Nat):Int))),(2,(.agg #[(Za ((fJ es (fJ f i)).w)),qH])),(3,(Za (((fJ (fV es n f).s (n+i)):Nat):Int)))]) (v:=.agg (Mz (((fJ ((List.range (n+f.length)).map (gQ es n f)) (nL es n f i)):Nat):Int) (((fJ ((List.range (n+f.length)).map (gQ es n f)) (nR es n f i)):Nat):Int) ((fJ es (fJ f i)).w) (((fJ (fV es n f).s (n+i)):Nat):Int))) rfl rfl (jA [(0,(Ze (((fJ ((List.range (n+f.length)).map (gQ es n f)) (nL es n f i)):Nat):Int))),(1,(Ze (((fJ ((List.range (n+f.length)).map (gQ es n f)) (nR es n f i)):Nat):Int))),(2,[(Za ((fJ es (fJ f i)).w)),qH]),(3,(Ze (((fJ (fV es n f).s (n+i)):Nat):Int)))] Gq ac8 rfl ⟨rfl,rfl,rfl,rfl,rfl,rfl,rfl,rfl,trivial⟩ rfl) (kj (vs:=[(.agg (Mz (((fJ ((List.range (n+f.length)).map (gQ es n f)) (nL es n f i)):Nat):Int) (((fJ ((List.range (n+f.length)).map (gQ es n f)) (nR es n f i)):Nat):Int) ((fJ es (fJ f i)).w) (((fJ (fV es n f).s (n+i)):Nat):Int)))]) (cs:=(B7 (((fJ ((List.range (n+f.length)).map (gQ es n f)) (nL es n f i)):Nat):Int) (((fJ ((List.range (n+f.length)).map (gQ es n f)) (nR es n f i)):Nat):Int) ((fJ es (fJ f i)).w) (((fJ (fV es n f).s (n+i)):Nat):Int))) rfl rfl GX Gq rfl (by simp[Value.cells]) rfl rfl rfl m ?_)))
   intro z L W X q
   have q:St _ (HH (row (.slice (some ⟨z,0,none⟩) 1 1) 96 5 1 ([(.int .i64 (((fJ ((List.range (n+f.length)).map (gQ es n f)) (nL es n f i)):Nat):Int)),(.int .i64 (((fJ ((List.range (n+f.length)).map (gQ es n f)) (nR es n f i)):Nat):Int)),(.int .i64 ((fJ es (fJ f i)).w)),(.int .i64 1),(.int .i64 (((fJ (fV es n f).s (n+i)):Nat):Int))])) mv (nZ es n f i) j ((List.range (n+f.length)).map (gQ es n f)) d n Z tr F T ts) L:=q
   refine mW (cf:=Mg.cells) (ys:=(nZ es n f i)) (zs:=[(⟨(fJ ((List.range (n+f.length)).map (gQ es n f)) (nL es n f i)),(fJ ((List.range (n+f.length)).map (gQ es n f)) (nR es n f i)),(fJ es (fJ f i)).w,(fJ (fV es n f).s (n+i))⟩:Mg)]) (LL:=fun o=>(HH (row (.slice (some ⟨z,0,none⟩) 1 1) 96 5 1 ([(.int .i64 (((fJ ((List.range (n+f.length)).map (gQ es n f)) (nL es n f i)):Nat):Int)),(.int .i64 (((fJ ((List.range (n+f.length)).map (gQ es n f)) (nR es n f i)):Nat):Int)),(.int .i64 ((fJ es (fJ f i)).w)),(.int .i64 1),(.int .i64 (((fJ (fV es n f).s (n+i)):Nat):Int))])) o ((nZ es n f i)++[(⟨(fJ ((List.range (n+f.length)).map (gQ es n f)) (nL es n f i)),(fJ ((List.range (n+f.length)).map (gQ es n f)) (nR es n f i)),(fJ es (fJ f i)).w,(fJ (fV es n f).s (n+i))⟩:Mg)]) j ((List.range (n+f.length)).map (gQ es n f)) d n Z tr F T ts)) 1 rfl rfl rfl GX Gq rfl d_ q rfl (l7 q (i:=0) rfl) (fun x hx=>zt.1 (show List.all _ _=true from rfl) x hx) (by simp only[zh,zn];omega) (by simp only[zh,zn];omega) f_ ?_
   intro o G A Y
   have A:St _ (HH (row (.slice (some ⟨z,0,none⟩) 1 1) 96 5 1 ([(.int .i64 (((fJ ((List.range (n+f.length)).map (gQ es n f)) (nL es n f i)):Nat):Int)),(.int .i64 (((fJ ((List.range (n+f.length)).map (gQ es n f)) (nR es n f i)):Nat):Int)),(.int .i64 ((fJ es (fJ f i)).w)),(.int .i64 1),(.int .i64 (((fJ (fV es n f).s (n+i)):Nat):Int))])) o ((nZ es n f i)++[(⟨(fJ ((List.range (n+f.length)).map (gQ es n f)) (nL es n f i)),(fJ ((List.range (n+f.length)).map (gQ es n f)) (nR es n f i)),(fJ es (fJ f i)).w,(fJ (fV es n f).s (n+i))⟩:Mg)]) j ((List.range (n+f.length)).map (gQ es n f)) d n Z tr F T ts) G:=A
   have B:=yg [1,2,3] A
   refine fK B 6 ?_
   refine ar (a:=((n+i:Nat):Int)) (b:=1) (c:=((n+i:Nat):Int)+1) (e:=((n+(i+1):Nat):Int)) rfl rfl rfl rfl (by rw[ox o_];omega) (fQ B 2 ?_)
   refine tN (?_)
   have M:St _ [fM Mg.cells o 96 5 (nZ es n f (i+1)),fM fW j 3 1 ((List.range (n+f.length)).map (gQ es n f)),blk d 67 (Zx n Z tr F T ts)] G:=yx 0 B rfl (congrArg (fM Mg.cells o 96 5) (show _=(nZ es n f (i+1)) by rw[ij (Qu (show nL es n f i<n+f.length by omega)),ij (Qu (show nR es n f i<n+f.length by omega)),q1,q2,abz];rfl))
   exact again ((i+1),o) ⟨rfl,rfl,rfl,rfl,rfl,gr (by first|rfl|omega),trivial⟩ (⟨M,o_⟩) (by show (f.length-(i+1):Nat)<f.length-i;omega)
 . refine fQ aa 17 ?_
   refine iH (v:=mv) (v' := Zc) Tryz.results29 rfl rfl ?_
   have N:=yg [0] aa
   have ad:i=f.length:=by omega
   have O:St _ [fM Mg.cells mv 96 5 (nZ es n f f.length)] K:=yx 0 N rfl (congrArg (fM Mg.cells mv 96 5) (show _=(nZ es n f f.length) by rw[ad]))
   exact⟨mv,rfl,St.eM O⟩
end
section
open Go Go.Sx
theorem aau{l:List (Value×List Nat)}{ps:List Int}{k:Nat}(a:∀ i,i<ps.length->(fJ l i).2=jJ ps k i)(b:fJ ps k<0):∀ i,i<ps.length->(fJ l i).2=jJ ps (k+1) i :=
 fun i hi=>by rw[aat b];exact a i hi
theorem aaw{l:List (Value×List Nat)}{ps:List Int}{k p:Nat}{v:Value}(c:l.length=ps.length)(a:∀ i,i<ps.length->(fJ l i).2=jJ ps k i)(hp:p<ps.length)(b:fJ ps k=(p:Int)) :
 ∀ i,i<ps.length->(fJ (fO l p (fun _=>(v,(fJ l p).2++[k]))) i).2=jJ ps (k+1) i:=fun i hi=>by
 rw[jh o_,Qh]
 split
 . rename_i h;subst h;rw[if_pos b];show (fJ l p).2++[k]=_;rw[a p hp]
 . rename_i h;rw[if_neg o_];exact a i hi
theorem aav{ps:List Int}{n:Nat}:∀ i,i<ps.length->(fJ (List.replicate n ((.slice none 0 0,[]):Value×List Nat)) i).2=jJ ps 0 i:=fun i hi=>by
 have h:jJ ps 0 i=[]:=by simp[jJ]
 rw[h,fJ,uh]
 split<;>rfl
theorem Wp(v:Value)(ps:List Int)(w:World)(hv:iz 1 gh (fun _=>True) w v ps)(hP:jV ps)(hn:ps.length<=8192) :
 CR ya 172 #[v] w (fun r w' => ∃ (dv:Value),r = .tuple #[dv,.bool true]/\fZ (gq []) w w' (pM dv ((List.range ps.length).map (gj ps)))):=by
 refine en Tryz.func172 Tryz.ntmps172 ?_
 have aZ:=yt w
 refine fR aZ 9 ?_
 refine k6 (v:=v) rfl rfl yd hv (fK aZ 6 ?_)
 refine rZ (cf:=kL) (z0:=((.slice none 0 0,[]):Value×List Nat)) (m:=ps.length) (c:=ps.length) rfl rfl rfl Tryz.underlying298 kg rfl f_ d_ (zo _) o_ o_ aZ ?_
 intro y K aj ak L
 have o:St _ [fM kL (.slice (some ⟨y,0,none⟩) ps.length ps.length) 65 1 (List.replicate ps.length ((.slice none 0 0,[]):Value×List Nat))] K:=mu (cf:=kL) L (i:=0) rfl f_ (zo _) (by simp only[maxLen];omega)
 generalize (Value.slice (some ⟨y,0,none⟩) ps.length ps.length)=b at o ⊢
 refine fK o 6 ?_
 refine rZ (cf:=fW) (z0:=0) (m:=ps.length) (c:=ps.length) rfl rfl rfl yd gy rfl f_ d_ (zo _) o_ o_ o ?_
 intro z q al am M
 have d:St _ [fM fW (.slice (some ⟨z,0,none⟩) ps.length ps.length) 3 1 (List.replicate ps.length 0),fM kL b 65 1 (List.replicate ps.length ((.slice none 0 0,[]):Value×List Nat))] q:=mu (cf:=fW) M (i:=0) rfl f_ (zo _) (by simp only[maxLen];omega)
 generalize (Value.slice (some ⟨z,0,none⟩) ps.length ps.length)=a at d ⊢
 refine fK d 12 ?_
 refine k6 (v:=v) rfl rfl yd hv ?_
 have N:St _ [fM fW Zg 3 1 (oh ps 0),fM fW a 3 1 (List.replicate ps.length 0),fM kL b 65 1 (List.replicate ps.length ((.slice none 0 0,[]):Value×List Nat))] q:=rA d 3 1
 have O:St _ [(yA 3 (List.replicate ps.length ((.slice none 0 0,[]):Value×List Nat))),fM fW Zg 3 1 (oh ps 0),fM fW a 3 1 (List.replicate ps.length 0),fM kL b 65 1 (List.replicate ps.length ((.slice none 0 0,[]):Value×List Nat))] q:=St.Qi ps.length N
 have P:=yg [3,0,2,1] O
 refine gH d 4 ?_
 refine lp (α:=Nat×List (Value×List Nat)×Value) (fun(k,l,rv)=>[(4,(Za ps.length)),(5,b),(6,a),(7,rv),(20,v),(21,(Za ps.length)),(22,(Za k))]) (fun(k,l,rv) w1=>St [(w,[])] [fM kL b 65 1 l,(yA 3 l),fM fW a 3 1 (List.replicate ps.length 0),fM fW rv 3 1 (oh ps k)] w1/\l.length=ps.length/\(∀ i,i<ps.length->(fJ l i).2=jJ ps k i)/\k<=ps.length) (fun(k,l,rv)=>ps.length-k) (0,(List.replicate ps.length (.slice none 0 0,[])),Zg) ⟨rfl,rfl,rfl,rfl,rfl,rfl,gr rO,trivial⟩ (⟨P,s_,aav,o_⟩) ?_
 rintro⟨k,l,rv⟩ an ao ⟨aS,aY,hl,hk⟩
 have bk:=adU (ps:=ps) (k:=k)
 refine fR aS 2 ?_
 by_cases ap:((k:Int):Int)<((ps.length:Int):Int)
 . obtain⟨s,A⟩:=pS (show k<ps.length by omega)
   refine fK aS 21 ?_
   by_cases aq:(s:Int)<(0:Int)
   . have a4:=ij A
     refine fK aS 7 ?_
     refine kj (vs:=(Ze k)) (cs:=(Ze k)) rfl rfl yd gy rfl (by simp[Value.cells]) rfl rfl rfl aS (fun Q au av aw B=>mW (cf:=fW) (ys:=(oh ps k)) (zs:=[k]) (LL:=fun g=>[ir .i64 (Z6 Q) 3 ([(k:Int)]),fM kL b 65 1 l,(yA 3 l),fM fW a 3 1 (List.replicate ps.length 0),fM fW g 3 1 ((oh ps k)++[k])]) 4 rfl rfl rfl yd gy rfl d_ B rfl (l7 B (i:=0) rfl) (fun x hx=>zt.1 (show List.all _ _=true from rfl) x hx) (by simp only[zh,zn];omega) (by simp only[zh,zn];omega) f_ ?_)
     intro g ax R ay
     have C:=yg [1,2,3,4] R
     refine fQ C 8 ?_
     refine tN (?_)
     have S:=yx 3 C rfl (congrArg (fM fW g 3 1) ((adX o_).symm))
     exact again ((k+1),l,g) ⟨rfl,rfl,rfl,rfl,rfl,rfl,gr rO,trivial⟩ (⟨S,aY,aau hl o_,o_⟩) (by show (ps.length-(k+1):Nat)<ps.length-k;omega)
   . obtain⟨p,ba⟩:∃ p:Nat,s=(p:Int):=⟨s.toNat,o_⟩
     refine fK aS 1 ?_
     subst ba
     have a4:=ij A
     have a3:p<ps.length:=by have:=hP.up k o_;omega
     have a1:=Qg (ps:=ps) (k:=k) (i:=p)
     rw[<-hl p a3]at a1
     have U:=yg [1,0,2,3] aS
     have D:=St.CD p U o_
     refine fK D 11 ?_
     refine kj (vs:=(Ze k)) (cs:=(Ze k)) rfl rfl yd gy rfl (by simp[Value.cells]) rfl rfl rfl D (fun V az aA aB E=>mW (cf:=fW) (ys:=(fJ l p).2) (zs:=[k]) (LL:=fun h=>(MY V ([(k:Int)]) h (((fJ l p).2)++[k]) (yA 3 (l.eraseIdx p)) (fM kL b 65 1 l) a (List.replicate ps.length 0) rv (oh ps k))) 1 rfl rfl rfl yd gy rfl d_ E rfl (l7 E (i:=0) rfl) (fun x hx=>zt.1 (show List.all _ _=true from rfl) x hx) (by simp only[zh,zn];omega) (by simp only[zh,zn];omega) f_ ?_)
     intro h aC W aD
     have n:=yg [1,2,3,4,5] W
     refine fK n 1 ?_
     refine iQ (f:=(fun _=>(h,(fJ l p).2++[k]))) 2 n (fun aE G=>?_) (hvs:=(cells_one (yu n (i:=0) rfl))) (h1:=(ic (yu n (i:=0) rfl) lB))
     refine fQ G 7 ?_
     refine tN (?_)
     have X:=St.Qj G o_
     have Y:=yg [1,0,2,3] X
     have Z:=yx 3 Y rfl (congrArg (fM fW rv 3 1) ((adW o_).symm))
     exact again ((k+1),fO l p (fun _=>(h,(fJ l p).2++[k])),rv) ⟨rfl,rfl,rfl,rfl,rfl,rfl,gr rO,trivial⟩ (⟨Z,(by rw[gC];exact aY),aaw aY hl a3 a4,o_⟩) (by show (ps.length-(k+1):Nat)<ps.length-k;omega)
 . have a8:k=ps.length:=by omega
   refine gH aS 17 ?_
   subst a8
   refine lp (α:=Nat×Value×List Nat×List Nat) (fun(i,ov,od,dp)=>[(4,(Za ps.length)),(5,b),(6,a),(7,ov),(10,(Za i))]) (fun(i,ov,od,dp) w1=>St [(w,[])] [fM kL b 65 1 l,(yA 3 l),fM fW a 3 1 dp,fM fW ov 3 1 od] w1/\Bf ps i 0 od dp) (fun(i,ov,od,dp)=>ps.length-i) (0,rv,(oh ps ps.length),(List.replicate ps.length 0)) ⟨rfl,rfl,rfl,rfl,gr rO,trivial⟩ (⟨aS,Bf.start⟩) ?_
   rintro⟨i,ov,od,dp⟩ aF aG ⟨aR,hB⟩
   have bi:=hB.Kl
   have be:=hB.len
   refine fR aR 5 ?_
   refine jm (m:=od.length) 3 rfl rfl yd aR rfl ?_
   by_cases aH:((i:Int):Int)<((od.length:Int):Int)
   . have hi:i<od.length:=by omega
     have a9:=zd (gz hi)
     have a2:=hB.lt _ a9
     have aa:=yg [1,0,2,3] aR
     have ab:=St.CD (fJ od i) aa o_
     have t:=yx 0 ab rfl (congrArg (fM fW ((fJ l (fJ od i)).1) 3 1) (hl _ a2))
     have a1:=Qg (ps:=ps) (k:=ps.length) (i:=fJ od i)
     refine fK aR 23 ?_
     refine jm (m:=(jJ ps ps.length (fJ od i)).length) 0 rfl rfl yd t rfl (gH t 4 ?_)
     refine lp (α:=Nat×Value×List Nat×List Nat) (fun(j,aW,T,F)=>[(4,(Za ps.length)),(5,b),(6,a),(7,aW),(10,(Za i)),(11,(Za (((fJ od i):Nat):Int))),(57,((fJ l (fJ od i)).1)),(58,(Za ((jJ ps ps.length (fJ od i)).length:Int))),(59,(Za j))]) (fun(j,aW,T,F) w1=>St [(w,[])] [fM fW ((fJ l (fJ od i)).1) 3 1 (jJ ps ps.length (fJ od i)),(yA 3 (l.eraseIdx (fJ od i))),fM kL b 65 1 l,fM fW a 3 1 F,fM fW aW 3 1 T] w1/\Bf ps i j T F/\i<T.length/\fJ T i=fJ od i/\j<=(jJ ps ps.length (fJ od i)).length) (fun(j,aW,T,F)=>(jJ ps ps.length (fJ od i)).length-j) (0,ov,od,dp) ⟨rfl,rfl,rfl,rfl,rfl,rfl,rfl,rfl,gr rO,trivial⟩ (⟨t,hB,hi,rfl,o_⟩) ?_
     rintro⟨j,aW,T,F⟩ aI aJ ⟨aV,aT,aU,aX,hj⟩
     have bj:=aT.Kl
     have bf:=aT.len
     refine fR aV 2 ?_
     by_cases aK:((j:Int):Int)<(((jJ ps ps.length (fJ od i)).length:Int):Int)
     . have a7:j<(jJ ps ps.length (fJ od i)).length:=by omega
       have a0:(jJ ps ps.length (fJ T i))[j]? = some (fJ (jJ ps ps.length (fJ od i)) j):=by rw[aX];exact gz a7
       obtain⟨bb,bc,bd⟩:=aT.new aU a0
       have bg:fJ F (fJ od i)<=ps.length:=by rw[<-aX,aT.dep _ (zd (gz aU))];exact lq IC (Nat.sub_le _ _)
       refine fK aV 24 ?_
       refine ar (e:=(((fJ F (fJ od i))+1:Nat):Int)) rfl rfl rfl rfl i7 (fK aV 1 ?_)
       refine iQ (f:=(fun _=>((fJ F (fJ od i))+1))) 3 aV (fun aL H=>?_)
       refine fK H 5 ?_
       refine kj (vs:=(Ze (((fJ (jJ ps ps.length (fJ od i)) j):Nat):Int))) (cs:=(Ze (((fJ (jJ ps ps.length (fJ od i)) j):Nat):Int))) rfl rfl yd gy rfl (by simp[Value.cells]) rfl rfl rfl H (fun ac aM aN aO I=>mW (cf:=fW) (ys:=T) (zs:=[(fJ (jJ ps ps.length (fJ od i)) j)]) (LL:=fun u=>(MY ac ([(((fJ (jJ ps ps.length (fJ od i)) j):Nat):Int)]) ((fJ l (fJ od i)).1) (jJ ps ps.length (fJ od i)) (yA 3 (l.eraseIdx (fJ od i))) (fM kL b 65 1 l) a (fO F (fJ (jJ ps ps.length (fJ od i)) j) (fun _=>((fJ F (fJ od i))+1))) u (T++[(fJ (jJ ps ps.length (fJ od i)) j)]))) 5 rfl rfl rfl yd gy rfl d_ I rfl (l7 I (i:=0) rfl) (fun x hx=>zt.1 (show List.all _ _=true from rfl) x hx) (by simp only[zh,zn];omega) (by simp only[zh,zn];omega) f_ ?_)
       intro u aP ad aQ
       have J:=yg [1,2,3,4,5] ad
       refine fQ J 8 ?_
       refine tN (?_)
       exact again ((j+1),u,T++[(fJ (jJ ps ps.length (fJ od i)) j)],fO F (fJ (jJ ps ps.length (fJ od i)) j) (fun _=>((fJ F (fJ od i))+1))) ⟨rfl,rfl,rfl,rfl,rfl,rfl,rfl,rfl,gr rO,trivial⟩ (⟨J,by have h9:=aT.wB hP aU a0;rw[aX]at h9;exact h9,by rw[zw];omega,(ij (by rw[zO aU];exact gz aU)).trans aX,o_⟩) (by show ((jJ ps ps.length (fJ od i)).length-(j+1):Nat)<(jJ ps ps.length (fJ od i)).length-j;omega)
     . refine fQ aV 16 ?_
       refine tN (?_)
       have ae:=yx 0 aV rfl (congrArg (fM fW ((fJ l (fJ od i)).1) 3 1) ((hl _ a2).symm))
       have af:=St.Jw ae o_
       have ag:=yg [1,0,2,3] af
       exact again ((i+1),aW,T,F) ⟨rfl,rfl,rfl,rfl,gr rO,trivial⟩ (⟨ag,aT.next aU (by rw[aX];omega)⟩) (by show (ps.length-(i+1):Nat)<ps.length-i;omega)
   . have a6:i=od.length:=by have:=hB.Jg;omega
     refine fK aR 1 ?_
     subst a6
     obtain⟨bh,a5⟩:=hB.fin hP
     refine fK aR 12 ?_
     refine jm (m:=od.length) 3 rfl rfl yd aR rfl (fK aR 1 ?_)
     refine cmp rfl rfl rfl (rR o_) (fQ aR 5 ?_)
     refine iH (v:=a) (v' := Zf) Tryz.results172 rfl rfl ?_
     have ah:=yg [2] aR
     have ai:=yx 0 ah rfl (congrArg (fM fW a 3 1) (a5))
     exact⟨a,rfl,St.eM ai⟩
end
section
open Go Go.Sx
structure Lt where
 dv:Value
 jl:List (Value×List Int)
structure Lt.ok (ps:List Int) (t:Lt):Prop where
 len:t.jl.length=13
 row:∀ q,q<13->(fJ t.jl q).2=jt ps q
def Lt.R(tb:Nat)(ps:List Int)(t:Lt):fS:=kE (t.ok ps) (gq [blk tb 247 (Zf :: t.dv :: (t.jl).flatMap kL),(lW gh 3 t.jl),fM fW t.dv 3 1 ((List.range ps.length).map (gj ps))])
abbrev M3 a b c (d e:Nat) (f:Int) g h i j k l m n o p (q:nW) r (s:Nat):=([fM jK.cells a 244 2 b,c,blk d 120 [.pointer (some ⟨e,0,none⟩),.int .i64 f,g,h,i,j,k,l,.map m],fM fW l 3 1 n,gY o .i64 (Prod.fst:Value×List jK->Value) p,Lt.R e q.p r,blk s 67 (Zx f g h i j k),fM gh g 3 1 q.l,fM gh h 3 1 q.r,fM gh i 3 1 q.p,fM gh j 2 1 q.h,fM fW k 3 1 q.s]:List fS)
abbrev MF a b c d (e f:Nat) (g:Int) h i j k l m n o p q (r:nW) s (t:Nat):=([a,fM jK.cells b 244 2 c,d,blk e 120 [.pointer (some ⟨f,0,none⟩),.int .i64 g,h,i,j,k,l,m,.map n],fM fW m 3 1 o,gY p .i64 (Prod.fst:Value×List jK->Value) q,Lt.R f r.p s,blk t 67 (Zx g h i j k l),fM gh h 3 1 r.l,fM gh i 3 1 r.r,fM gh j 3 1 r.p,fM gh k 2 1 r.h,fM fW l 3 1 r.s]:List fS)
theorem Qb(v:Value)(ps:List Int)(w:World)(hv:iz 1 gh (fun _=>True) w v ps)(hP:jV ps)(aR:∀ i,i<ps.length -> -1<=fJ ps i)(hn:ps.length<=8192) :
 CR ya 132 #[v] w (fun r w' => ∃ (tb:Nat) (t:Lt),r = .tuple (Z2 tb)/\fZ (gq []) w w' (Lt.R tb ps t)):=by
 refine enter (vs:=[v]) Tryz.func132 rfl Tryz.ntmps132 rfl ?_
 have aL:=yt w
 refine fR aL 9 ?_
 refine k6 (v:=v) rfl rfl yd hv (fK aL 7 ?_)
 refine cmp (a:=(ps.length:Int)) (b:=8192) rfl rfl rfl (pR o_) (fK aL 9 ?_)
 refine k6 (v:=v) rfl rfl yd hv (gH aL 4 ?_)
 refine lp (α:=Nat) (fun i=>[(0,v),(2,Zs),(3,Zc),(4,(Za ps.length)),(17,v),(18,(Za ps.length)),(19,(Za i))]) (fun i w1=>St [(w,[])] [] w1/\i<=ps.length) (fun i=>ps.length-i) 0 ⟨rfl,rfl,rfl,rfl,rfl,rfl,gr rO,trivial⟩ (⟨aL,o_⟩) ?_
 rintro i am D ⟨T,hi⟩
 refine fR T 2 ?_
 by_cases an:((i:Int):Int)<((ps.length:Int):Int)
 . have a3:=hP.up i o_
   refine fK T 19 ?_
   refine cmp (a:=(fJ ps i)) (b := -1) rfl rfl rfl (lC (by have h7:=aR i o_;omega)) (fK T 3 ?_)
   refine cmp (a:=(fJ ps i)) (b:=(ps.length:Int)) rfl rfl rfl (oG (by have h7:=aR i o_;omega)) (fQ T 11 ?_)
   refine tN (?_)
   exact again (i+1) ⟨rfl,rfl,rfl,rfl,rfl,rfl,gr rO,trivial⟩ (⟨T,o_⟩) (by show (ps.length-(i+1):Nat)<ps.length-i;omega)
 . refine fK T 13 ?_
   refine jM (vl:=[v]) rfl rfl Xm (Wp v ps D (yw T s_ d_ hv) hP hn) ?_
   rintro _ ao ⟨d,rfl,ht⟩
   have n:=(ki (R:=fM fW d 3 1 ((List.range ps.length).map (gj ps))) T ht)
   refine fK n 20 ?_
   refine ji (pvs:=[(0,Zf),(1,d)]) (v:=.agg #[Zf,d,Zg,Zg,Zg,Zg,Zg,Zg,Zg,Zg,Zg,Zg,Zg,Zg,Zg]) rfl rfl (jA [(0,[Zf]),(1,[d])] Tz acZ rfl ⟨rfl,rfl,rfl,(cells_one (yu n (i:=0) rfl)),trivial⟩ rfl) (iF n (fun h E ap aq u=>?_))
   have G:St _ [(lW gh 3 (List.replicate 13 ((.slice none 0 0,[]):Value×List Int))),blk h 247 [Zf,d,Zg,Zg,Zg,Zg,Zg,Zg,Zg,Zg,Zg,Zg,Zg,Zg,Zg],fM fW d 3 1 ((List.range ps.length).map (gj ps))] E:=St.Qi 13 u
   have H:=yg [1,0,2] G
   have I:=H
   refine gH u 10 ?_
   refine lp (α:=Nat×List (Value×List Int)) (fun(F,jl)=>[(0,v),(4,(Za ps.length)),(9,(Zb h)),(41,(Za F))]) (fun(F,jl) w1=>St [(w,[])] [blk h 247 (Zf :: d :: (jl).flatMap kL),(lW gh 3 jl),fM fW d 3 1 ((List.range ps.length).map (gj ps))] w1/\jl.length=13/\(∀ q,q<F->(fJ jl q).2=jt ps q)/\F<=13) (fun(F,jl)=>13-F) (0,(List.replicate 13 ((.slice none 0 0,[]):Value×List Int))) ⟨rfl,rfl,rfl,gr rO,trivial⟩ (⟨I,s_,fun q hq=>absurd hq (Nat.not_lt_zero _),o_⟩) ?_
   rintro⟨F,jl⟩ au av ⟨aM,aN,aO,a2⟩
   refine fR aM 2 ?_
   by_cases aw:((F:Int):Int)<(13:Int)
   . refine gO aM 20 fun ax J=>?_
     refine rZ (cf:=gh) (z0:=0) (m:=ps.length) (c:=ps.length) rfl rfl rfl yd gy rfl f_ d_ (zo _) o_ o_ J ?_
     intro y K ay az L
     have l:St _ [fM gh (.slice (some ⟨y,0,none⟩) ps.length ps.length) 3 1 (List.replicate ps.length 0),blk h 247 ((.bool true) :: d :: (jl).flatMap kL),(lW gh 3 jl),fM fW d 3 1 ((List.range ps.length).map (gj ps))] K:=mu (cf:=gh) L (i:=0) rfl f_ (zo _) (by simp only[maxLen];omega)
     generalize (Value.slice (some ⟨y,0,none⟩) ps.length ps.length)=g at l ⊢
     refine fK l 2 ?_
     refine jL (o:=2) (o' := 2+F) (i:=(F:Int)) rfl rfl rfl rC kg o_ (by first|omega|(simp only[nt];omega)) (Gf (v:=g) (vs:=[g]) (L' := [fM gh g 3 1 (List.replicate ps.length 0),blk h 247 (setAt (Zf :: d :: (jl).flatMap kL) (2+F) [g]),(lW gh 3 jl),fM fW d 3 1 ((List.range ps.length).map (gj ps))]) 1 rfl rfl rfl (cells_one (yu l (i:=0) rfl)) kg rfl (ic (yu l (i:=0) rfl) lB) l rfl (aaj o_) rfl rfl ?_)
     intro M z aA
     have N:=yg [1,0,2,3] z
     have O:St _ [blk h 247 (Zf :: d :: ((fO jl F (fun _=>(g,[])))).flatMap kL),fM gh g 3 1 (List.replicate ps.length 0),(lW gh 3 jl),fM fW d 3 1 ((List.range ps.length).map (gj ps))] M:=yx 0 N rfl (congrArg (blk h 247) (Ju o_))
     have P:=yx 1 O rfl (congrArg (fM gh g 3 1) (show _=oK (kn ps F) ps.length 0 from YN.symm))
     have Q:=yg [2,0,1,3] P
     have S:=St.CD F Q o_
     have U:=yg [2,3,1,4] S
     refine gH z 9 ?_
     refine lp (α:=Nat) (fun x=>[(0,v),(4,(Za ps.length)),(9,(Zb h)),(10,(Za F)),(41,(Za F)),(51,(Za ps.length)),(52,(Za x))]) (fun x w1=>St [(w,[])] [blk h 247 (Zf :: d :: ((fO jl F (fun _=>(g,[])))).flatMap kL),fM gh g 3 1 (oK (kn ps F) ps.length x),(lW gh 3 (jl.eraseIdx F)),fM fW d 3 1 ((List.range ps.length).map (gj ps))] w1/\x<=ps.length) (fun x=>ps.length-x) 0 ⟨rfl,rfl,rfl,rfl,rfl,rfl,gr rO,trivial⟩ (⟨U,o_⟩) ?_
     rintro x aB V ⟨aJ,aV⟩
     have aX:=YL (f:=kn ps F) aV
     refine fR aJ 2 ?_
     by_cases aC:((x:Int):Int)<((ps.length:Int):Int)
     . have aK:x<ps.length:=by omega
       refine fK aJ 19 ?_
       by_cases aD:((F:Int):Int)=(0:Int)
       . have aS:F=0:=by omega
         refine gO aJ 10 fun aE s=>?_
         refine jL (o:=2) (o' := 2+F) (i:=(F:Int)) rfl rfl rfl rC kg o_ (by first|omega|(simp only[nt];omega)) (ld (a:=⟨h,2+F,none⟩) (v:=g) rfl rfl yd rfl (St.rQ s (i:=0) rfl (wA (by first|omega|(rw[gC];omega)) (by rw[jU o_]))) (fK s 6 ?_))
         refine iQ (f:=(fun _=>(fJ ps x))) 1 s (fun aF A=>?_)
         refine fQ A 10 ?_
         refine tN (?_)
         have W:=yx 1 A rfl (congrArg (fM gh g 3 1) (show _=oK (kn ps F) ps.length (x+1) from I2 aK (by rw[aS];rfl)))
         exact again (x+1) ⟨rfl,rfl,rfl,rfl,rfl,rfl,gr rO,trivial⟩ (⟨W,o_⟩) (by show (ps.length-(x+1):Nat)<ps.length-x;omega)
       . obtain⟨q,hq⟩:∃ q,F=q+1:=⟨F-1,o_⟩
         have aQ:fJ (jl.eraseIdx F) q=fJ jl q:=Yy o_
         have aP:(fJ (jl.eraseIdx F) q).2=jt ps q:=by rw[aQ];exact aO q o_
         have aW:(jl.eraseIdx F).length=12:=by rw[List.length_eraseIdx,if_pos o_];omega
         have a0:=Jq hP (k:=q) aK
         have aZ:=uQ (k:=q) aK
         have aY:=AL (ps:=ps) (k:=q)
         have X:=yg [2,0,1,3] aJ
         have Y:=St.CD q X o_
         have j:=yx 0 Y rfl (congrArg (fM gh ((fJ (jl.eraseIdx F) q).1) 3 1) (aP))
         refine fK aJ 10 ?_
         refine ar (a:=(F:Int)) (b:=1) (c:=(F:Int)-1) (e:=((q:Nat):Int)) rfl rfl rfl rfl i7 (fK j 2 ?_)
         refine jL (o:=2) (o' := 2+q) (i:=((q:Nat):Int)) rfl rfl rfl rC kg o_ (by first|omega|(simp only[nt];omega)) (ld (a:=⟨h,2+q,none⟩) (v:=((fJ (jl.eraseIdx F) q).1)) rfl rfl yd rfl (St.rQ j (i:=2) rfl (wA (by first|omega|(rw[gC];omega)) (by rw[jQ o_,aQ]))) (fK j 10 ?_))
         by_cases aG:((fJ (jt ps q) x):Int)≥(0:Int)
         . refine fK j 7 ?_
           refine ar (a:=(F:Int)) (b:=1) (c:=(F:Int)-1) (e:=((q:Nat):Int)) rfl rfl rfl rfl i7 (fK j 2 ?_)
           refine jL (o:=2) (o' := 2+q) (i:=((q:Nat):Int)) rfl rfl rfl rC kg o_ (by first|omega|(simp only[nt];omega)) (ld (a:=⟨h,2+q,none⟩) (v:=((fJ (jl.eraseIdx F) q).1)) rfl rfl yd rfl (St.rQ j (i:=2) rfl (wA (by first|omega|(rw[gC];omega)) (by rw[jQ o_,aQ]))) (fK j 1 ?_))
           refine iP (cf:=gh) (k:=(fJ (jt ps q) x).toNat) (i:=(fJ (jt ps q) x)) rfl rfl rfl yd gy (iO j 0 rfl) o_ o_ (gz om) (fK j 9 ?_)
           refine jL (o:=2) (o' := 2+F) (i:=(F:Int)) rfl rfl rfl rC kg o_ (by first|omega|(simp only[nt];omega)) (ld (a:=⟨h,2+F,none⟩) (v:=g) rfl rfl yd rfl (St.rQ j (i:=2) rfl (wA (by first|omega|(rw[gC];omega)) (by rw[jU o_]))) (fK j 3 ?_))
           refine iQ (f:=(fun _=>(fJ (jt ps q) ((fJ (jt ps q) x).toNat)))) 3 j (fun aH B=>?_)
           refine fQ B 7 ?_
           refine tN (?_)
           have Z:=yx 0 B rfl (congrArg (fM gh ((fJ (jl.eraseIdx F) q).1) 3 1) (aP.symm))
           have aa:=St.Jw Z o_
           have ab:=yg [1,2,0,3] aa
           have ac:=yx 1 ab rfl (congrArg (fM gh g 3 1) (show _=oK (kn ps F) ps.length (x+1) from I2 aK (by rw[hq];exact aan hP aK o_)))
           exact again (x+1) ⟨rfl,rfl,rfl,rfl,rfl,rfl,gr rO,trivial⟩ (⟨ac,o_⟩) (by show (ps.length-(x+1):Nat)<ps.length-x;omega)
         . refine fK j 11 ?_
           refine jL (o:=2) (o' := 2+F) (i:=(F:Int)) rfl rfl rfl rC kg o_ (by first|omega|(simp only[nt];omega)) (ld (a:=⟨h,2+F,none⟩) (v:=g) rfl rfl yd rfl (St.rQ j (i:=2) rfl (wA (by first|omega|(rw[gC];omega)) (by rw[jU o_]))) (fK j 3 ?_))
           refine iQ (f:=(fun _=>(fJ (jt ps q) x))) 3 j (fun aI C=>?_)
           refine fQ C 7 ?_
           refine tN (?_)
           have ad:=yx 0 C rfl (congrArg (fM gh ((fJ (jl.eraseIdx F) q).1) 3 1) (aP.symm))
           have ae:=St.Jw ad o_
           have af:=yg [1,2,0,3] ae
           have ag:=yx 1 af rfl (congrArg (fM gh g 3 1) (show _=oK (kn ps F) ps.length (x+1) from I2 aK (by rw[hq];exact aam aK o_)))
           exact again (x+1) ⟨rfl,rfl,rfl,rfl,rfl,rfl,gr rO,trivial⟩ (⟨ag,o_⟩) (by show (ps.length-(x+1):Nat)<ps.length-x;omega)
     . refine fQ aJ 15 ?_
       refine tN (?_)
       have aU:x=ps.length:=by omega
       have ah:=yx 1 aJ rfl (congrArg (fM gh g 3 1) (show _=(jt ps F) from(congrArg (oK (kn ps F) ps.length) aU).trans YK))
       have ai:=yg [1,2,0,3] ah
       have aj:=St.Qj ai o_
       have ak:=yg [1,0,2] aj
       have al:St _ [blk h 247 (Zf :: d :: ((fO jl F (fun _=>(g,jt ps F)))).flatMap kL),(lW gh 3 (fO jl F (fun _=>(g,jt ps F)))),fM fW d 3 1 ((List.range ps.length).map (gj ps))] V:=yx 0 ak rfl (congrArg (blk h 247) ((Ju o_).symm.trans (Ju o_)))
       exact again ((F+1),(fO jl F (fun _=>(g,jt ps F)))) ⟨rfl,rfl,rfl,gr rO,trivial⟩ (⟨al,by rw[gC];exact aN,aak aN o_ aO,o_⟩) (by show (13-(F+1):Nat)<13-F;omega)
   . refine fQ aM 18 ?_
     refine iH (v:=(Zb h)) (v' := Zc) Tryz.results132 rfl rfl ?_
     have a1:F=13:=by omega
     have aT:Lt.ok ps (⟨d,jl⟩:Lt):=⟨aN,fun q hq=>aO q o_⟩
     exact⟨h,(⟨d,jl⟩:Lt),rfl,vq (yp (p:=Lt.ok ps (⟨d,jl⟩:Lt)) (yc [_,_,_] _ aM) aT) s_⟩
end
section
open Go Go.Sx
structure ny (w:World) (tb:Nat) (ps:List Int) (t:Lt):Prop where
 ok:t.ok ps
 b:(blk tb 247 [.bool true,t.dv,(fJ t.jl 0).1,(fJ t.jl 1).1,(fJ t.jl 2).1,(fJ t.jl 3).1,(fJ t.jl 4).1,(fJ t.jl 5).1,(fJ t.jl 6).1,(fJ t.jl 7).1,(fJ t.jl 8).1,(fJ t.jl 9).1,(fJ t.jl 10).1,(fJ t.jl 11).1,(fJ t.jl 12).1]).holds w
 d:iz 1 fW (fun _=>True) w t.dv ((List.range ps.length).map (gj ps))
 r:∀ q,q<13->iz 1 gh (fun _=>True) w (fJ t.jl q).1 (jt ps q)
theorem ny.of{w:World}{tb:Nat}{ps:List Int}{t:Lt}(d:Own (Lt.R tb ps t) w):ny w tb ps t:=by
 have h:=Own.of d.un
 have a:t.ok ps:=d.fact
 refine⟨a,?_,(iO h 2 rfl).any,fun q e=>?_⟩
 . have b:=St.at h (i:=0) rfl
   rw[P5 a.len]at b
   exact b
 . have f:=St.CD q (h.perm (List.Perm.swap _ _ _)) (by rw[a.len];exact e)
   have c:=(iO f 0 rfl).any
   rw[a.row q e]at c
   exact c
theorem ny.to{bs:List (World×List Nat)}{L:List fS}{w w0:World}{tb:Nat}{ps:List Int}{t:Lt}(h:ny w0 tb ps t)(hs:St bs L w)(hb:(w0,[])∈bs):ny w tb ps t :=
 ⟨h.ok,St.x9 hs hb h.b,yw hs hb d_ h.d,fun q a=>yw hs hb d_ (h.r q a)⟩
theorem ny.p{w:World}{tb:Nat}{ps:List Int}{t:Lt}(h:ny w tb ps t):iz 1 gh (fun _=>True) w (fJ t.jl 0).1 ps:=by
 have:=h.r 0 o_
 rw[aal]at this
 exact this
theorem P6(tb:Nat)(ps:List Int)(t:Lt)(w:World)(f:ny w tb ps t)(h:jV ps)(i:ps.length<=8192) :
 CR ya 139 (Zh tb) w (fun r w' => r = .int .i64 (ps.length:Int)/\gA [] w w'):=by
 have g:((List.range ps.length).map (gj ps)).length=ps.length:=by simp
 refine en Tryz.func139 Tryz.ntmps139 ?_
 have e:=yt w
 refine fR e 9 ?_
 refine uL (a:=some ⟨tb,0,none⟩) (c:=false) rfl rfl rfl zH rfl (fK e 4 ?_)
 refine ld rfl rfl nr rfl (kC e s_ f.b rfl) (fK e 12 ?_)
 refine ld rfl rfl yd rfl (kC e s_ f.b rfl) (k6 (v:=t.dv) rfl rfl yd f.d (fQ e 4 ?_))
 refine gp (v:=(Za (((List.range ps.length).map (gj ps)).length:Int))) Tryz.results139 rfl ?_
 exact⟨by rw[g],e.gD s_⟩
theorem Ff(tb:Nat)(ps:List Int)(t:Lt)(w:World)(f:ny w tb ps t)(e:jV ps)(g:ps.length<=8192)(x:Nat)(i:x<ps.length) :
 CR ya 133 (Zm tb x) w (fun r w' => r = .bool true/\gA [] w w'):=by
 have h:((List.range ps.length).map (gj ps)).length=ps.length:=by simp
 refine en Tryz.func133 Tryz.ntmps133 ?_
 have d:=yt w
 refine fR d 8 ?_
 refine cmp rfl rfl rfl (nY o_) (fK d 3 ?_)
 refine cl Oy (P6 tb ps t w f e g) ?_
 rintro _ c ⟨rfl,b⟩
 have a:=yq d b
 refine cmp rfl rfl rfl (qo o_) (fQ a 5 ?_)
 refine gp (v:=Zf) Tryz.results133 rfl ?_
 exact⟨rfl,a.gD s_⟩
theorem VD(tb:Nat)(ps:List Int)(t:Lt)(w:World)(h:ny w tb ps t)(n:jV ps)(A:ps.length<=8192)(hv:Value)(hs:List Int)(q:iz 1 gh (fun _=>True) w hv hs)(C:hs.length=ps.length)(T:Int)(j l m:Nat)(h1:(blk j 117 (Zi tb)).holds w)(u:(blk l 40 [hv]).holds w)(y:(blk m 2 (Ze T)).holds w)(x:Nat)(s:x<ps.length) :
 CR ya 140 #[(Za x),(Zb j),(Zb l),(Zb m)] w (fun r w' => ∃ B:Bool,r = .bool B/\(B=true↔0<=fJ ps x/\fJ hs (fJ ps x).toNat<=T)/\gA [] w w'):=by
 have z:((List.range ps.length).map (gj ps)).length=ps.length:=by simp
 refine en Tryz.func140 Tryz.ntmps140 ?_
 have g:=yt w
 have D:=n.up x s
 refine fR g 10 ?_
 refine jL (o:=2) (o' := 2) (i:=0) rfl rfl rfl rC kg d_ rfl (ld rfl rfl yd rfl (kC g s_ h.b rfl) (fK g 1 ?_))
 refine iP (k:=x) (i:=(x:Int)) rfl rfl rfl yd gy h.p o_ o_ (gz o_) (jq rfl rfl yf rfl h.p (gz o_) rfl (gO g 6 fun c a=>?_))
 by_cases d:((fJ ps x):Int)≥(0:Int)
 . refine fK a 4 ?_
   refine iP (k:=(fJ ps x).toNat) (i:=(fJ ps x)) rfl rfl rfl y0 ti2 q o_ o_ (gz o_) (fK a 2 ?_)
   by_cases e:((fJ hs (fJ ps x).toNat):Int)<=(T:Int)
   . refine fQ a 6 ?_
     refine gp (v:=Zf) Tryz.results140 rfl ?_
     exact⟨true,rfl,⟨fun f=>by first|omega|(cases f),fun f=>by first|rfl|(exfalso;omega)⟩,a.gD s_⟩
   . refine fQ a 6 ?_
     refine gp (v:=Zn) Tryz.results140 rfl ?_
     exact⟨false,rfl,⟨fun f=>by first|omega|(cases f),fun f=>by first|rfl|(exfalso;omega)⟩,a.gD s_⟩
 . refine fQ a 13 ?_
   refine gp (v:=Zn) Tryz.results140 rfl ?_
   exact⟨false,rfl,⟨fun f=>by first|omega|(cases f),fun f=>by first|rfl|(exfalso;omega)⟩,a.gD s_⟩
theorem VF(tb:Nat)(ps:List Int)(t:Lt)(w:World)(F:ny w tb ps t)(W:jV ps)(Y:ps.length<=8192)(hv:Value)(hs:List Int)(X:iz 1 gh (fun _=>True) w hv hs)(ad:hs.length=ps.length)(T:Int)(V:Nat)(ae:V<ps.length) :
 CR ya 95 #[(Zb tb),(Za V),hv,(Za T)] w (fun r w' => r = .tuple (xH ((jc ps hs T V:Nat):Int))/\gA [] w w'):=by
 have af:((List.range ps.length).map (gj ps)).length=ps.length:=by simp
 refine en Tryz.func95 Tryz.ntmps95 ?_
 have ab:=yt w
 refine fR ab 2 ?_
 refine iF ab (fun e H I J s=>?_)
 refine iF s (fun g K L M u=>?_) (hcs:=(cells_one (Sl.Rt X)))
 refine iF u (fun h y N O f=>?_)
 refine fK f 8 ?_
 refine uL (a:=some ⟨tb,0,none⟩) (c:=false) rfl rfl rfl zH rfl (fK f 4 ?_)
 refine ld rfl rfl nr rfl (kC f s_ F.b rfl) (fK f 12 ?_)
 refine cl EK (Ff tb ps t y (F.to f s_) W Y V o_) ?_
 rintro _ P ⟨rfl,z⟩
 have m:=yq f z
 refine gH m 8 ?_
 refine kO mixed [([0,1,2,3],[0,1])] [4] m (fun A j=>jR ?_)
 refine fK j 1 ?_
 refine k6 (v:=hv) rfl rfl y0 X (fK j 1 ?_)
 refine cl Oy (P6 tb ps t A (F.to j s_) W Y) ?_
 rintro _ Q ⟨rfl,B⟩
 have l:=yq j B
 refine fQ l 1 ?_
 refine vi (lN rfl pX (lN rfl (qY (JL (v:=hv) rfl y0 X) rfl rfl) (trivial))) (kU ?_)
 refine cmp rfl rfl rfl (oW o_) (fK l 7 ?_)
 refine oc (vf:=[]) (vc:=(Ai e g h)) rfl rfl rfl (gH l 5 ?_)
 refine lp (α:=Nat) (fun x=>[(1,(Za x)),(4,(Zb e)),(10,(.func (.func 140) #[] (MB e g h)))]) (fun x w1=>St [(w,[])] [blk h 2 (Ze T),blk g 40 [hv],blk e 117 (Zi tb)] w1/\x<ps.length/\jc ps hs T x=jc ps hs T V) (fun x=>ps.length-x) V ⟨gr rO,rfl,rfl,trivial⟩ (⟨l,ae,rfl⟩) ?_
 rintro x R C ⟨U,Z,hc⟩
 have ag:=W.up x Z
 refine fR U 5 ?_
 refine qp (fi:=[]) (ca:=(Ai e g h)) rfl rfl rfl W3 (VD tb ps t C (F.to U s_) W Y hv hs (yw U s_ d_ X) ad T e g h (St.at U (i:=2) rfl) (St.at U (i:=1) rfl) (St.at U (i:=0) rfl) x Z) ?_
 rintro _ S ⟨D,rfl,n,E⟩
 have d:=yq U E
 refine gH d 2 ?_
 cases q:(D:Bool)
 . skip
   subst q
   refine iS d 14 ?_
   refine iH (v:=(Za x)) (v' := Zc) Tryz.results95 rfl rfl ?_
   have G:=yg [] d
   have ac:¬ (0<=fJ ps x/\fJ hs (fJ ps x).toNat<=T):=fun h9=>(by have h8:=n.2 h9;cases h8)
   exact⟨by rw[<-hc,Ci ac],G.gD s_⟩
 . skip
   subst q
   refine fR d 8 ?_
   refine jL (o:=2) (o' := 2) (i:=0) rfl rfl rfl rC kg d_ rfl (ld rfl rfl yd rfl (kC d s_ F.b rfl) (fK d 1 ?_))
   refine iP (k:=x) (i:=(x:Int)) rfl rfl rfl yd gy F.p o_ o_ (gz o_) (jq rfl rfl yf rfl (yw d s_ d_ F.p) (gz o_) rfl (fQ d 3 ?_))
   refine tN (?_)
   have aa:=n.1 rfl
   exact again ((fJ ps x).toNat) ⟨gr rO,rfl,rfl,trivial⟩ (⟨d,o_,(xR W Z aa.1 aa.2).symm.trans hc⟩) (by show (ps.length-((fJ ps x).toNat):Nat)<ps.length-x;omega)
end
end Go.Proofs.YthpnckhjmbbalaaGreatDoor
