/- Proved: for every input the Go function seepagelaw46.JudgeClean returns true and its arguments read behind the call as they read before (the live edges of a window have no flaws at its time; later, those that have expired by then have the flaw FlawExpired, and there is no other one). No conditions beyond those of the given statement. -/
import Derived.Test.YtdopagghhibopaaGreatFc
import Derived.Test.YtdopagghhibopaaGreatVa
import Derived.Test.YtdopagghhibopaaGreatFa
import Derived.Test.YtdopagghhibopaaGreatVc
import Derived.Test.YtdopagghhibopaaGreatFd
import Derived.Test.YtdopagghhibopaaGreatRows
set_option linter.unusedVariables false
set_option linter.unusedSimpArgs false
set_option maxRecDepth 100000
set_option maxHeartbeats 4000000
namespace Go.Proofs.YtdopagghhibopaaGreat
open Go Go.Sx Go.ChangeShapes Go.WideShapes Go.ChangeAt Go.RowKit
theorem own0:ownKnob Tryz.prog.godebug=none:=by kernel_rfl
theorem laid0:laidOutB Tryz.prog=true:=by kernel_rfl
theorem cells5:Tryz.prog.cellsOf 5=1:=by kernel_rfl
theorem cells50:Tryz.prog.cellsOf 50=1:=by kernel_rfl
theorem cells52:Tryz.prog.cellsOf 52=4:=by kernel_rfl
theorem trod_mv{H:Type}{enc:TypeId×Value→H}{w:World}{sp:Nat→Bool}{hd:Bool}{fuel:Nat}{cs:List Value}{x:DataW H×List MemPlace}(h:DataW.trod enc Tryz.prog w 0 sp hd fuel 52 cs=some x):∃ c:Mv,cs=c.cells∧c.ok:=by
 obtain⟨hl,hf⟩:=fields_of_trod Tryz.underlying52 h
 rw[cells52]at hl
 match cs,hl with
 | [a0,a1,a2,a3],_ =>
  obtain⟨n0,y0,h0⟩:=hf _ (List.mem_of_getElem? (i:=0) rfl)
  obtain⟨n1,y1,h1⟩:=hf _ (List.mem_of_getElem? (i:=1) rfl)
  obtain⟨n2,y2,h2⟩:=hf _ (List.mem_of_getElem? (i:=2) rfl)
  obtain⟨n3,y3,h3⟩:=hf _ (List.mem_of_getElem? (i:=3) rfl)
  simp only[cells5,cells50]at h0 h1 h2 h3
  obtain⟨x0,e0,q0⟩:=int_of_trod Tryz.underlying5 h0
  obtain⟨x1,e1,q1⟩:=int_of_trod Tryz.underlying5 h1
  obtain⟨x2,e2,q2⟩:=int_of_trod Tryz.underlying50 h2
  obtain⟨x3,e3,q3⟩:=int_of_trod Tryz.underlying5 h3
  simp at e0 e1 e2 e3
  subst e0 e1 e2 e3
  exact⟨⟨x0,x1,x2,x3⟩,rfl,⟨q0,q1,q2,q3⟩⟩
theorem trod_mvs{H:Type}{enc:TypeId×Value→H}{w:World}{sp:Nat→Bool}{hd:Bool}{fuel:Nat}{cs:List Value}{x:DataW H×List MemPlace}(h:DataW.trod enc Tryz.prog w 0 sp hd fuel 22 cs=some x):∃ v l,cs=[v]∧Recs 4 Mv.cells (fun _=>True) w v l∧∀ x∈l,x.ok:=by
 obtain⟨v,l,e,hI⟩:=Sl.of_trod (α:=Mv) (E:=fun _ c vs=>vs=c.cells∧c.ok) Tryz.underlying22 cells52 (by decide) (fun n cs y hy=>trod_mv hy) h
 obtain⟨a,cp,rfl,h1,h2,h3⟩:=hI
 refine⟨_,l,e,⟨a,cp,rfl,h1,h2,fun i y hy=>?_⟩,fun y hy=>?_⟩
 · obtain⟨b,o,vs,r1,r2,r3,r4,r5⟩:=h3 i y hy
   exact⟨b,o,vs,r1,r2,r3,r4.1,r5⟩
 · obtain⟨i,hi⟩:=List.getElem?_of_mem hy
   obtain⟨b,o,vs,r1,r2,r3,r4,r5⟩:=h3 i y hi
   exact r4.2
set_option maxRecDepth 100000 in
theorem clean_lifted(os:Os)(started:os.Started)(H:Type)(enc:TypeId×Value→H) :
 ReturnsInHanded {} Tryz.checked os 3 .any (Rows.judgeCleanSpec.pre6 enc Tryz.prog Tryz.f3 Rows.judgeCleanRow.domain false) (Rows.judgeCleanSpec.post enc Tryz.prog Tryz.f3 false true false false):=by
 refine returnsInHanded_of_change (C:=Tryz.checked) own0 started (by kernel_rfl) Tryz.func3
  (ChangeSpec.witness6 (enc:=enc) (C:=Tryz.checked) false ⟨#[],#[.slice none 0 0,.int .u8 0],[]⟩ 8 (by kernel_rfl) (by kernel_rfl) (by kernel_rfl) (by kernel_rfl)) ?_
 intro W base args ds gs before hval0 hW hcnd _
 have hval:∀ (j:Nat) t v,Tryz.f3.params[j]? = some t→args[j]? = some v→Value.okWide Tryz.prog W .any base t v:=hval0
 have hW' := hW
 obtain⟨p,q,hA0,hV,rfl,hfz,hnd⟩:=hW
 have hA:DataW.TrodAll enc Tryz.prog W 0 (fun _=>true) true Tryz.f3.params.toList args.toList ds p:=hA0
 rw[Tryz.params3]at hA hval
 obtain⟨v0,v1,d0,d1,p0,p1,rfl,rfl,rfl,h0,h1⟩:=trodAll_two hA
 obtain⟨rfl,rfl⟩:=trodVars_none hV
 clear hA0 hval0
 simp only[List.append_nil]at hW'
 have h0k:=h0
 have h1k:=h1
 obtain⟨a0,len0,cap0,rfl⟩:=okWide_slice Tryz.underlying22 (hval 0 22 v0 rfl rfl)
 obtain⟨fu,hf⟩:=h0
 obtain⟨vv,xs,ev,hI,hxs⟩:=trod_mvs (show DataW.trod enc Tryz.prog W 0 _ _ fu 22 [_]=some _ by simpa[Value.cells]using hf)
 simp at ev
 subst ev
 obtain⟨x1,e1,-,-,wf1⟩:=open_int Tryz.underlying5 (hval 1 5 v1 rfl rfl) h1
 subst e1
 refine Calls.mono (clean_law _ xs W hI hxs x1 (InK.of_wf wf1)) fun e W' hr=>?_
 obtain⟨r,rfl,rfl,hch⟩:=hr
 have hbe:=hch.below
 exact⟨_,rfl,_,_,_,[],(p0++p1),[],hW', trodAll_mk1 (shut_bool Tryz.underlying4 true),trodAll_mk2 (Below.trod laid0 (by kernel_rfl) (of_decide_eq_true (by kernel_rfl)) h0k hbe (fun x hx=>by have h9:=hW'.lt x (by simp[hx]);simpa using h9)) (Below.trod laid0 (by kernel_rfl) (of_decide_eq_true (by kernel_rfl)) h1k hbe (fun x hx=>by have h9:=hW'.lt x (by simp[hx]);simpa using h9)),rfl,hbe.frame _,fun h=>by cases h⟩
theorem clean_holds:Rows.JudgeCleanSaid :=
 OpenClaim.holds_of_wide 3 Tryz.f3 rfl rfl rfl rfl rfl rfl rfl ⟨rfl,rfl,rfl,rfl,rfl⟩ rfl rfl rfl rfl rfl (by kernel_rfl) Tryz.func3 (by kernel_rfl)
  (of_decide_eq_true (by kernel_rfl)) (by unfold Func.isWrapper;first|(rw[if_pos (by decide +kernel)];kernel_rfl)|(rw[if_neg (by decide +kernel)];exact⟨rfl,rfl⟩))
  (fun os started H enc _=>clean_lifted os started H enc)
end Go.Proofs.YtdopagghhibopaaGreat
