/- Proved: for every input the Go function seepagelaw46.JudgeRooms returns true and its arguments read behind the call as they read before (with a configuration of fewer edges just the edges behind them, or in slots not below them, have the flaw FlawCount; with one of fewer vertices the edge with which there are too many). No conditions beyond those of the given statement. -/
import Derived.Test.YtdopagghhibopaaGreatFc
import Derived.Test.YtdopagghhibopaaGreatVa
import Derived.Test.YtdopagghhibopaaGreatFa
import Derived.Test.YtdopagghhibopaaGreatVc
set_option linter.unusedVariables false
set_option linter.unusedSimpArgs false
set_option maxRecDepth 100000
set_option maxHeartbeats 4000000
namespace Go.Proofs.YtdopagghhibopaaGreat
open Go Go.Sx Go.ChangeShapes Go.WideShapes Go.ChangeAt Go.RowKit
set_option maxRecDepth 100000 in
theorem RT(os:Os)(started:os.Started)(H:Type)(enc:TypeId×Value→H) :
 ReturnsInHanded {} Tryz.checked os 5 .any (Rows.judgeRoomsSpec.pre6 enc Tryz.prog Tryz.f5 Rows.judgeRoomsRow.domain false) (Rows.judgeRoomsSpec.post enc Tryz.prog Tryz.f5 false true false false):=by
 refine returnsInHanded_of_change (C:=Tryz.checked) aaD started (by kernel_rfl) Tryz.func5
  (ChangeSpec.witness6 (enc:=enc) (C:=Tryz.checked) false ⟨#[],#[.slice none 0 0,.int .u8 0,.int .u8 0],[]⟩ 8 (by kernel_rfl) (by kernel_rfl) (by kernel_rfl) (by kernel_rfl)) ?_
 intro W base args ds gs before hval0 hW hcnd _
 have hval:∀ (j:Nat) t v,Tryz.f5.params[j]? = some t→args[j]? = some v→Value.okWide Tryz.prog W .any base t v:=hval0
 have hW' := hW
 obtain⟨p,q,hA0,hV,rfl,hfz,hnd⟩:=hW
 have hA:DataW.TrodAll enc Tryz.prog W 0 (fun _=>true) true Tryz.f5.params.toList args.toList ds p:=hA0
 rw[Tryz.params5]at hA hval
 obtain⟨v0,v1,v2,d0,d1,d2,p0,p1,p2,rfl,rfl,rfl,h0,h1,h2⟩:=trodAll_three hA
 obtain⟨rfl,rfl⟩:=trodVars_none hV
 clear hA0 hval0
 simp only[List.append_nil]at hW'
 have h0k:=h0
 have h1k:=h1
 have h2k:=h2
 obtain⟨a0,len0,cap0,rfl⟩:=okWide_slice Tryz.underlying22 (hval 0 22 v0 rfl rfl)
 obtain⟨fu,hf⟩:=h0
 obtain⟨vv,xs,ev,hI,hxs⟩:=V2 (show DataW.trod enc Tryz.prog W 0 _ _ fu 22 [_]=some _ by simpa[Value.cells]using hf)
 simp at ev
 subst ev
 obtain⟨x1,e1,-,-,wf1⟩:=open_int Tryz.underlying5 (hval 1 5 v1 rfl rfl) h1
 subst e1
 obtain⟨x2,e2,-,-,wf2⟩:=open_int Tryz.underlying5 (hval 2 5 v2 rfl rfl) h2
 subst e2
 refine Calls.mono (TD _ xs W hI hxs x1 x2 (ij.JS wf1) (ij.JS wf2)) fun e W' hr=>?_
 obtain⟨r,rfl,rfl,hch⟩:=hr
 have hbe:=hch.below
 exact⟨_,rfl,_,_,_,[],(p0++(p1++p2)),[],hW', trodAll_mk1 (shut_bool Tryz.underlying4 true),trodAll_mk3 (Below.trod Jv (by kernel_rfl) (of_decide_eq_true (by kernel_rfl)) h0k hbe (fun x hx=>by have h9:=hW'.lt x (by simp[hx]);simpa using h9)) (Below.trod Jv (by kernel_rfl) (of_decide_eq_true (by kernel_rfl)) h1k hbe (fun x hx=>by have h9:=hW'.lt x (by simp[hx]);simpa using h9)) (Below.trod Jv (by kernel_rfl) (of_decide_eq_true (by kernel_rfl)) h2k hbe (fun x hx=>by have h9:=hW'.lt x (by simp[hx]);simpa using h9)),rfl,hbe.frame _,fun h=>by cases h⟩
theorem rooms_holds:Rows.JudgeRoomsSaid :=
 OpenClaim.holds_of_wide 5 Tryz.f5 rfl rfl rfl rfl rfl rfl rfl ⟨rfl,rfl,rfl,rfl,rfl⟩ rfl rfl rfl rfl rfl (by kernel_rfl) Tryz.func5 (by kernel_rfl)
  (of_decide_eq_true (by kernel_rfl)) (by unfold Func.isWrapper;first|(rw[if_pos (by decide +kernel)];kernel_rfl)|(rw[if_neg (by decide +kernel)];exact⟨rfl,rfl⟩))
  (fun os started H enc _=>RT os started H enc)
end Go.Proofs.YtdopagghhibopaaGreat
