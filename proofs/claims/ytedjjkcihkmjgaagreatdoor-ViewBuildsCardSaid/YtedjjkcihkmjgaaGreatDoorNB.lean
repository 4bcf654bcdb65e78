/- Proved: for every input the Go function seepagelaw38.ViewBuilds returns true and its arguments read behind the call as they read before. No conditions beyond those of the given card: the two package variables that it lists hold what the text of the program lays. -/
import Derived.Test.YtedjjkcihkmjgaaGreatDoorVi
import Derived.Test.YtedjjkcihkmjgaaGreatDoorG
import Derived.Test.YtedjjkcihkmjgaaGreatDoorXB
import Derived.Test.YtedjjkcihkmjgaaGreatDoorTie
import Derived.Test.YtedjjkcihkmjgaaGreatDoorCards
import Derived.SevenTiedAt
set_option maxRecDepth 100000
set_option linter.unusedVariables false
namespace Go.Proofs.YtedjjkcihkmjgaaGreatDoor
open Go Go.Sx Go.ChangeShapes Go.WideShapes Go.ChangeAt Go.RowKit
theorem JD:Tryz.prog.cellsOf 4=1:=by kernel_rfl
theorem JE:Tryz.prog.cellsOf 5=1:=by kernel_rfl
theorem JF:Tryz.prog.cellsOf 68=1:=by kernel_rfl
theorem Dw:Tryz.prog.cellsOf 70=5:=by kernel_rfl
theorem Eg{H:Type}{enc:TypeId×Value→H}{w:World}{sp:Nat→Bool}{hd:Bool}{fuel:Nat}{cs:List Value}{x:DataW H×List MemPlace}(h:DataW.trod enc Tryz.prog w 0 sp hd fuel 70 cs=some x):∃ c:Mw,cs=c.cells∧c.mv.ok:=by
  obtain⟨hl,hf⟩:=Qw Tryz.underlying70 h
  rw[Dw]at hl
  match cs,hl with
  | [a0,a1,a2,a3,a4],_ =>
    obtain⟨n0,y0,h0⟩:=hf _ (List.mem_of_getElem? (i:=0) rfl)
    obtain⟨n1,y1,h1⟩:=hf _ (List.mem_of_getElem? (i:=1) rfl)
    obtain⟨n2,y2,h2⟩:=hf _ (List.mem_of_getElem? (i:=2) rfl)
    obtain⟨n3,y3,h3⟩:=hf _ (List.mem_of_getElem? (i:=3) rfl)
    obtain⟨n4,y4,h4⟩:=hf _ (List.mem_of_getElem? (i:=4) rfl)
    simp only[JD,JE,JF]at h0 h1 h2 h3 h4
    obtain⟨x0,e0,_⟩:=DataW.trod_bool Tryz.underlying4 h0
    obtain⟨x1,e1,q1⟩:=xg Tryz.underlying5 h1
    obtain⟨x2,e2,q2⟩:=xg Tryz.underlying5 h2
    obtain⟨x3,e3,q3⟩:=xg Tryz.underlying68 h3
    obtain⟨x4,e4,q4⟩:=xg Tryz.underlying5 h4
    simp at e0 e1 e2 e3 e4
    subst e0 e1 e2 e3 e4
    exact⟨⟨x0,x1,x2,x3,x4⟩,rfl,⟨q1,q2,q3,q4⟩⟩
theorem MX{H:Type}{enc:TypeId×Value→H}{w:World}{sp:Nat→Bool}{hd:Bool}{fuel:Nat}{cs:List Value}{x:DataW H×List MemPlace}(h:DataW.trod enc Tryz.prog w 0 sp hd fuel 22 cs=some x):∃ v l,cs=[v]∧gV 5 Mw.cells (fun _=>True) w v l∧∀ x∈l,x.mv.ok:=by
  obtain⟨v,l,e,hI⟩:=Sl.Ss (α:=Mw) (E:=fun _ c vs=>vs=c.cells∧c.mv.ok) Tryz.underlying22 Dw (by decide) (fun n cs y hy=>Eg hy) h
  obtain⟨a,cp,rfl,h1,h2,h3⟩:=hI
  refine⟨_,l,e,⟨a,cp,rfl,h1,h2,fun i y hy=>?_⟩,fun y hy=>?_⟩
  · obtain⟨b,o,vs,r1,r2,r3,r4,r5⟩:=h3 i y hy
    exact⟨b,o,vs,r1,r2,r3,r4.1,r5⟩
  · obtain⟨i,hi⟩:=List.getElem?_of_mem hy
    obtain⟨b,o,vs,r1,r2,r3,r4,r5⟩:=h3 i y hi
    exact r4.2
theorem Ji{v:Value}{c:Mw}(h:v.cells.toList=c.cells):v = .agg #[.bool c.wa,.int .u8 c.u,.int .u8 c.v,.int .i8 c.wt,.int .u8 c.af]:=by
  cases v<;>simp[Value.cells,Mw.cells]at h
  rename_i xs
  obtain⟨l⟩:=xs
  have h2:l=[.bool c.wa,.int .u8 c.u,.int .u8 c.v,.int .i8 c.wt,.int .u8 c.af]:=by simpa using h
  rw[h2]
set_option maxRecDepth 100000 in
theorem Jx(os:Os)(started:os.Started)(H:Type)(enc:TypeId×Value→H) :
    ReturnsInHanded {} Tryz.checked os 5 .any (fun w args=>(Rows.viewBuildsSpec.pre enc Tryz.prog Tryz.f5 [] false w args∧laidMetH Tryz.prog xo w)∧sizedMet enc Tryz.prog Tryz.f5 (OpenSpec.ofChange Rows.viewBuildsSpec) false w args)
      (Rows.viewBuildsSpec.post enc Tryz.prog Tryz.f5 false true false false):=by
  refine returnsInHanded_of_change_and (C:=Tryz.checked) (X:=fun w _=>laidMetH Tryz.prog xo w) (fun _ _ _ hh h=>h.of_heap hh) SD started (by kernel_rfl) Tryz.func5
    (ChangeSpec.witness_shaped (enc:=enc) (C:=Tryz.checked) (os:=os) (X:=fun w _=>laidMetH Tryz.prog xo w) false (World.doorLaid Tryz.prog 400 os) #[.slice none 0 0,.int .i64 0,.agg #[.bool false,.int .u8 0,.int .u8 0,.int .i8 0,.int .u8 0]] 8 rfl (World.shaped_of_RefB (by kernel_rfl) (by kernel_rfl)) (by kernel_rfl) (by kernel_rfl) (by kernel_rfl) (Qf os _)) ?_
  intro W base args ds gs before hval0 hW _ _ hL _
  have hval:∀ (j:Nat) t v,Tryz.f5.params[j]? = some t→args[j]? = some v→Value.okWide Tryz.prog W .any base t v:=hval0
  have hW' := hW
  obtain⟨p,q,hA0,hV,rfl,hfz,hnd⟩:=hW
  have hA:DataW.TrodAll enc Tryz.prog W 0 (fun _=>true) true Tryz.f5.params.toList args.toList ds p:=hA0
  rw[Tryz.params5]at hA hval
  obtain⟨v0,v1,v2,d0,d1,d2,p0,p1,p2,rfl,rfl,rfl,h0,h1,h2⟩:=trodAll_three hA
  obtain⟨rfl,rfl⟩:=trodVars_none hV
  clear hA0 hval0
  simp only[List.append_nil,List.append_assoc]at hW'
  have h0k:=h0
  have h1k:=h1
  have h2k:=h2
  obtain⟨a0,len0,cap0,rfl⟩:=okWide_slice Tryz.underlying22 (hval 0 22 v0 rfl rfl)
  obtain⟨T,e1,-,-,wf1⟩:=open_int Tryz.underlying2 (hval 1 2 v1 rfl rfl) h1
  subst e1
  obtain⟨fm,hg⟩:=h2
  obtain⟨c,hc,hcm⟩:=Eg hg
  have e2:=Ji hc
  subst e2
  obtain⟨fu,hf⟩:=h0
  obtain⟨vv,xs,ev,hI,hxs⟩:=MX (show DataW.trod enc Tryz.prog W 0 _ _ fu 22 [_]=some _ by simpa[Value.cells]using hf)
  simp at ev
  subst ev
  obtain⟨o,hT⟩:=Sr hL
  refine Calls.mono (Pn _ xs T c W hI hxs hcm hT) fun e W' hr=>?_
  obtain⟨r,rfl,rfl,hch⟩:=hr
  have hbe:=hch.below
  exact⟨_,rfl,_,_,_,[],(p0++(p1++p2)),[],hW', trodAll_mk1 (shut_bool Tryz.underlying4 true),
    trodAll_mk3 (Below.trod BV (by kernel_rfl) (of_decide_eq_true (by kernel_rfl)) h0k hbe (fun x hx=>by have h9:=hW'.lt x (by simp[hx]);simpa using h9)) (Below.trod BV (by kernel_rfl) (of_decide_eq_true (by kernel_rfl)) h1k hbe (fun x hx=>by have h9:=hW'.lt x (by simp[hx]);simpa using h9)) (Below.trod BV (by kernel_rfl) (of_decide_eq_true (by kernel_rfl)) h2k hbe (fun x hx=>by have h9:=hW'.lt x (by simp[hx]);simpa using h9)),
    rfl,hbe.frame _,fun h=>by cases h⟩
theorem Jy:Rows.ViewBuildsSaid :=
  OpenClaim.holds_of_wide 5 Tryz.f5 rfl rfl rfl rfl rfl rfl rfl ⟨rfl,rfl,rfl,rfl,rfl⟩ rfl rfl rfl rfl rfl FN Tryz.func5 Pj Pm Pv
    (fun os started H enc _=>Jx os started H enc)
theorem builds_holds:Rows.ViewBuildsCardSaid :=
  Claim7.holds_tied_plain_at .later [] [.data, .data] true (true, "0e35c6e2253602773a318414b9fc8288622da8abae735fbd432c94871db9d85b") true
    Jy (fun _ h=>by cases h) Pu (fun _ h=>by cases h) viewBuilds_row_tie rfl ⟨rfl,rfl⟩ Pp rfl
    (fun f fn hf hfn=>by
      obtain rfl:f=5:=(Option.some.inj (FN.symm.trans hf)).symm
      obtain rfl:fn=Tryz.f5:=(Option.some.inj (Tryz.func5.symm.trans hfn)).symm
      exact⟨Po,fun j t ht=>by
        rw[Tryz.params5]at ht
        match j,ht with
        | 0,ht=>cases ht;exact Pq
        | 1,ht=>cases ht;exact Pr
        | 2,ht=>cases ht;exact Pt
        | (j+3),ht=>simp at ht⟩)
    Pk
end Go.Proofs.YtedjjkcihkmjgaaGreatDoor
