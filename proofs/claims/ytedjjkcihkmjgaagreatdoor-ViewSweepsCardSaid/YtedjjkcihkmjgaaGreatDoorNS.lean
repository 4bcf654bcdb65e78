/- Proved: for every input the Go function seepagelaw38.ViewSweeps returns true and its arguments read behind the call as they read before. No conditions beyond those of the given card: the two package variables that it lists hold what the text of the program lays. -/
import Derived.Test.YtedjjkcihkmjgaaGreatDoorVi
import Derived.Test.YtedjjkcihkmjgaaGreatDoorG
import Derived.Test.YtedjjkcihkmjgaaGreatDoorXS
import Derived.Test.YtedjjkcihkmjgaaGreatDoorTie
import Derived.Test.YtedjjkcihkmjgaaGreatDoorCards
import Derived.Test.YtedjjkcihkmjgaaGreatDoorFd
import Derived.SevenTiedAt
set_option maxRecDepth 100000
set_option linter.unusedVariables false
namespace Go.Proofs.YtedjjkcihkmjgaaGreatDoor
open Go Go.Sx Go.ChangeShapes Go.WideShapes Go.ChangeAt Go.RowKit
theorem IF:Tryz.prog.cellsOf 4=1:=by kernel_rfl
theorem IG:Tryz.prog.cellsOf 5=1:=by kernel_rfl
theorem IE:Tryz.prog.cellsOf 39=1:=by kernel_rfl
theorem II:Tryz.prog.cellsOf 68=1:=by kernel_rfl
theorem Cw:Tryz.prog.cellsOf 70=5:=by kernel_rfl
theorem LJ{H:Type}{enc:TypeId×Value→H}{w:World}{sp:Nat→Bool}{hd:Bool}{fuel:Nat}{cs:List Value}{x:DataW H×List MemPlace}(h:DataW.trod enc Tryz.prog w 0 sp hd fuel 70 cs=some x):∃ c:Mw,cs=c.cells∧c.mv.ok:=by
  obtain⟨hl,hf⟩:=OI Tryz.underlying70 h
  rw[Cw]at hl
  match cs,hl with
  | [a0,a1,a2,a3,a4],_ =>
    obtain⟨n0,y0,h0⟩:=hf _ (List.mem_of_getElem? (i:=0) rfl)
    obtain⟨n1,y1,h1⟩:=hf _ (List.mem_of_getElem? (i:=1) rfl)
    obtain⟨n2,y2,h2⟩:=hf _ (List.mem_of_getElem? (i:=2) rfl)
    obtain⟨n3,y3,h3⟩:=hf _ (List.mem_of_getElem? (i:=3) rfl)
    obtain⟨n4,y4,h4⟩:=hf _ (List.mem_of_getElem? (i:=4) rfl)
    simp only[IF,IG,II]at h0 h1 h2 h3 h4
    obtain⟨x0,e0,_⟩:=DataW.trod_bool Tryz.underlying4 h0
    obtain⟨x1,e1,q1⟩:=ue Tryz.underlying5 h1
    obtain⟨x2,e2,q2⟩:=ue Tryz.underlying5 h2
    obtain⟨x3,e3,q3⟩:=ue Tryz.underlying68 h3
    obtain⟨x4,e4,q4⟩:=ue Tryz.underlying5 h4
    simp at e0 e1 e2 e3 e4
    subst e0 e1 e2 e3 e4
    exact⟨⟨x0,x1,x2,x3,x4⟩,rfl,⟨q1,q2,q3,q4⟩⟩
theorem LK{H:Type}{enc:TypeId×Value→H}{w:World}{sp:Nat→Bool}{hd:Bool}{fuel:Nat}{cs:List Value}{x:DataW H×List MemPlace}(h:DataW.trod enc Tryz.prog w 0 sp hd fuel 22 cs=some x):∃ v l,cs=[v]∧gY 5 Mw.cells (fun _=>True) w v l∧∀ x∈l,x.mv.ok:=by
  obtain⟨v,l,e,hI⟩:=Sl.F5 (α:=Mw) (E:=fun _ c vs=>vs=c.cells∧c.mv.ok) Tryz.underlying22 Cw (by decide) (fun n cs y hy=>LJ hy) h
  obtain⟨a,cp,rfl,h1,h2,h3⟩:=hI
  refine⟨_,l,e,⟨a,cp,rfl,h1,h2,fun i y hy=>?_⟩,fun y hy=>?_⟩
  · obtain⟨b,o,vs,r1,r2,r3,r4,r5⟩:=h3 i y hy
    exact⟨b,o,vs,r1,r2,r3,r4.1,r5⟩
  · obtain⟨i,hi⟩:=List.getElem?_of_mem hy
    obtain⟨b,o,vs,r1,r2,r3,r4,r5⟩:=h3 i y hi
    exact r4.2
theorem LM{H:Type}{enc:TypeId×Value→H}{w:World}{sp:Nat→Bool}{hd:Bool}{fuel:Nat}{cs:List Value}{x:DataW H×List MemPlace}(h:DataW.trod enc Tryz.prog w 0 sp hd fuel 27 cs=some x):∃ v l,cs=[v]∧gY 1 gQ (fun _=>True) w v l∧∀ x∈l,gU .u64 x:=by
  obtain⟨v,l,e,hI⟩:=Sl.F5 (α:=Int) (E:=fun _ c vs=>vs=gQ c∧gU .u64 c) Tryz.underlying27 IE (by decide) (fun n cs y hy=>by
    obtain⟨a,e,q⟩:=ue Tryz.underlying39 hy
    exact⟨a,e,q⟩) h
  obtain⟨a,cp,rfl,h1,h2,h3⟩:=hI
  refine⟨_,l,e,⟨a,cp,rfl,h1,h2,fun i y hy=>?_⟩,fun y hy=>?_⟩
  · obtain⟨b,o,vs,r1,r2,r3,r4,r5⟩:=h3 i y hy
    exact⟨b,o,vs,r1,r2,r3,r4.1,r5⟩
  · obtain⟨i,hi⟩:=List.getElem?_of_mem hy
    obtain⟨b,o,vs,r1,r2,r3,r4,r5⟩:=h3 i y hi
    exact r4.2
set_option maxRecDepth 100000 in
theorem Ld(os:Os)(started:os.Started)(H:Type)(enc:TypeId×Value→H) :
    ReturnsInHanded {} Tryz.checked os 4 .any (fun w args=>(Rows.viewSweepsSpec.pre enc Tryz.prog Tryz.f4 [] false w args∧laidMetH Tryz.prog wC w)∧sizedMet enc Tryz.prog Tryz.f4 (OpenSpec.ofChange Rows.viewSweepsSpec) false w args)
      (Rows.viewSweepsSpec.post enc Tryz.prog Tryz.f4 false true false false):=by
  refine returnsInHanded_of_change_and (C:=Tryz.checked) (X:=fun w _=>laidMetH Tryz.prog wC w) (fun _ _ _ hh h=>h.of_heap hh) QB started (by kernel_rfl) Tryz.func4
    (ChangeSpec.witness_shaped (enc:=enc) (C:=Tryz.checked) (os:=os) (X:=fun w _=>laidMetH Tryz.prog wC w) false (World.doorLaid Tryz.prog 400 os) #[.slice none 0 0,.slice none 0 0] 8 rfl (World.shaped_of_RefB (by kernel_rfl) (by kernel_rfl)) (by kernel_rfl) (by kernel_rfl) (by kernel_rfl) (Om os _)) ?_
  intro W base args ds gs before hval0 hW _ _ hL _
  have hval:∀ (j:Nat) t v,Tryz.f4.params[j]? = some t→args[j]? = some v→Value.okWide Tryz.prog W .any base t v:=hval0
  have hW' := hW
  obtain⟨p,q,hA0,hV,rfl,hfz,hnd⟩:=hW
  have hA:DataW.TrodAll enc Tryz.prog W 0 (fun _=>true) true Tryz.f4.params.toList args.toList ds p:=hA0
  rw[Tryz.params4]at hA hval
  obtain⟨v0,v1,d0,d1,p0,p1,rfl,rfl,rfl,h0,h1⟩:=trodAll_two hA
  obtain⟨rfl,rfl⟩:=trodVars_none hV
  clear hA0 hval0
  simp only[List.append_nil]at hW'
  have h0k:=h0
  have h1k:=h1
  obtain⟨a0,len0,cap0,rfl⟩:=okWide_slice Tryz.underlying22 (hval 0 22 v0 rfl rfl)
  obtain⟨a1,len1,cap1,rfl⟩:=okWide_slice Tryz.underlying27 (hval 1 27 v1 rfl rfl)
  obtain⟨fu,hf⟩:=h0
  obtain⟨vv,xs,ev,hI,hxs⟩:=LK (show DataW.trod enc Tryz.prog W 0 _ _ fu 22 [_]=some _ by simpa[Value.cells]using hf)
  simp at ev
  subst ev
  obtain⟨fv,hg⟩:=h1
  obtain⟨vd,dl,eu,hJ,hds⟩:=LM (show DataW.trod enc Tryz.prog W 0 _ _ fv 27 [_]=some _ by simpa[Value.cells]using hg)
  simp at eu
  subst eu
  obtain⟨o,hT⟩:=Qt hL
  refine Calls.mono (R6 _ xs _ dl W hI hxs hJ hds hT) fun e W' hr=>?_
  obtain⟨r,rfl,rfl,hch⟩:=hr
  have hbe:=hch.below
  exact⟨_,rfl,_,_,_,[],(p0++p1),[],hW', trodAll_mk1 (shut_bool Tryz.underlying4 true),
    trodAll_mk2 (Below.trod Fy (by kernel_rfl) (of_decide_eq_true (by kernel_rfl)) h0k hbe (fun x hx=>by have h9:=hW'.lt x (by simp[hx]);simpa using h9)) (Below.trod Fy (by kernel_rfl) (of_decide_eq_true (by kernel_rfl)) h1k hbe (fun x hx=>by have h9:=hW'.lt x (by simp[hx]);simpa using h9)),
    rfl,hbe.frame _,fun h=>by cases h⟩
theorem Le:Rows.ViewSweepsSaid :=
  OpenClaim.holds_of_wide 4 Tryz.f4 rfl rfl rfl rfl rfl rfl rfl ⟨rfl,rfl,rfl,rfl,rfl⟩ rfl rfl rfl rfl rfl GB Tryz.func4 R1 R5 Sd
    (fun os started H enc _=>Ld os started H enc)
theorem sweeps_holds:Rows.ViewSweepsCardSaid :=
  Claim7.holds_tied_plain_at .later [] [.data, .data] true (true, "0e35c6e2253602773a318414b9fc8288622da8abae735fbd432c94871db9d85b") true
    Le (fun _ h=>by cases h) Sc (fun _ h=>by cases h) viewSweeps_row_tie rfl ⟨rfl,rfl⟩ R8 rfl
    (fun f fn hf hfn=>by
      obtain rfl:f=4:=(Option.some.inj (GB.symm.trans hf)).symm
      obtain rfl:fn=Tryz.f4:=(Option.some.inj (Tryz.func4.symm.trans hfn)).symm
      exact⟨R7,fun j t ht=>by
        rw[Tryz.params4]at ht
        match j,ht with
        | 0,ht=>cases ht;exact Sa
        | 1,ht=>cases ht;exact Sb
        | (j+2),ht=>simp at ht⟩)
    R4
end Go.Proofs.YtedjjkcihkmjgaaGreatDoor
