/- Proved: for every input the Go function seepagelaw38.ViewClusters returns true and its arguments read behind the call as they read before (the clusters at a threshold partition the vertices into the components of the graph at this threshold, in the order of their least ids; each vertex is in the one that Cluster returns). No conditions beyond those of the given card: the two package variables that it lists hold what the text of the program lays. -/
import Derived.Test.YtoceanggliccgaaGreatDoorVh
import Derived.Test.YtoceanggliccgaaGreatDoorGU
import Derived.Test.YtoceanggliccgaaGreatDoorXC
import Derived.Test.YtoceanggliccgaaGreatDoorTie
import Derived.Test.YtoceanggliccgaaGreatDoorCards
import Derived.Test.YtoceanggliccgaaGreatDoorFd
import Derived.SevenTiedAt
set_option maxRecDepth 100000
set_option linter.unusedVariables false
namespace Go.Proofs.YtoceanggliccgaaGreatDoor
open Go Go.Sx Go.ChangeShapes Go.WideShapes Go.ChangeAt Go.RowKit
theorem HT:Tryz.prog.cellsOf 4=1:=by kernel_rfl
theorem HU:Tryz.prog.cellsOf 5=1:=by kernel_rfl
theorem HV:Tryz.prog.cellsOf 73=1:=by kernel_rfl
theorem B1:Tryz.prog.cellsOf 75=5:=by kernel_rfl
theorem Lh{H:Type}{enc:TypeId×Value→H}{w:World}{sp:Nat→Bool}{hd:Bool}{fuel:Nat}{cs:List Value}{x:DataW H×List MemPlace}(h:DataW.trod enc Tryz.prog w 0 sp hd fuel 75 cs=some x):∃ c:Mw,cs=c.cells∧c.mv.ok:=by
  obtain⟨hl,hf⟩:=Pr Tryz.underlying75 h
  rw[B1]at hl
  match cs,hl with
  | [a0,a1,a2,a3,a4],_ =>
    obtain⟨n0,y0,h0⟩:=hf _ (List.mem_of_getElem? (i:=0) rfl)
    obtain⟨n1,y1,h1⟩:=hf _ (List.mem_of_getElem? (i:=1) rfl)
    obtain⟨n2,y2,h2⟩:=hf _ (List.mem_of_getElem? (i:=2) rfl)
    obtain⟨n3,y3,h3⟩:=hf _ (List.mem_of_getElem? (i:=3) rfl)
    obtain⟨n4,y4,h4⟩:=hf _ (List.mem_of_getElem? (i:=4) rfl)
    simp only[HT,HU,HV]at h0 h1 h2 h3 h4
    obtain⟨x0,e0,_⟩:=DataW.trod_bool Tryz.underlying4 h0
    obtain⟨x1,e1,q1⟩:=vZ Tryz.underlying5 h1
    obtain⟨x2,e2,q2⟩:=vZ Tryz.underlying5 h2
    obtain⟨x3,e3,q3⟩:=vZ Tryz.underlying73 h3
    obtain⟨x4,e4,q4⟩:=vZ Tryz.underlying5 h4
    simp at e0 e1 e2 e3 e4
    subst e0 e1 e2 e3 e4
    exact⟨⟨x0,x1,x2,x3,x4⟩,rfl,⟨q1,q2,q3,q4⟩⟩
theorem Li{H:Type}{enc:TypeId×Value→H}{w:World}{sp:Nat→Bool}{hd:Bool}{fuel:Nat}{cs:List Value}{x:DataW H×List MemPlace}(h:DataW.trod enc Tryz.prog w 0 sp hd fuel 22 cs=some x):∃ v l,cs=[v]∧iw 5 Mw.cells (fun _=>True) w v l∧∀ x∈l,x.mv.ok:=by
  obtain⟨v,l,e,hI⟩:=Sl.Rb (α:=Mw) (E:=fun _ c vs=>vs=c.cells∧c.mv.ok) Tryz.underlying22 B1 (by decide) (fun n cs y hy=>Lh hy) h
  obtain⟨a,cp,rfl,h1,h2,h3⟩:=hI
  refine⟨_,l,e,⟨a,cp,rfl,h1,h2,fun i y hy=>?_⟩,fun y hy=>?_⟩
  · obtain⟨b,o,vs,r1,r2,r3,r4,r5⟩:=h3 i y hy
    exact⟨b,o,vs,r1,r2,r3,r4.1,r5⟩
  · obtain⟨i,hi⟩:=List.getElem?_of_mem hy
    obtain⟨b,o,vs,r1,r2,r3,r4,r5⟩:=h3 i y hi
    exact r4.2
set_option maxRecDepth 100000 in
theorem H8(os:Os)(started:os.Started)(H:Type)(enc:TypeId×Value→H) :
    ReturnsInHanded {} Tryz.checked os 3 .any (fun w args=>(Rows.viewClustersSpec.pre enc Tryz.prog Tryz.f3 [] false w args∧laidMetH Tryz.prog we w)∧sizedMet enc Tryz.prog Tryz.f3 (OpenSpec.ofChange Rows.viewClustersSpec) false w args)
      (Rows.viewClustersSpec.post enc Tryz.prog Tryz.f3 false true false false):=by
  refine returnsInHanded_of_change_and (C:=Tryz.checked) (X:=fun w _=>laidMetH Tryz.prog we w) (fun _ _ _ hh h=>h.of_heap hh) Rm started (by kernel_rfl) Tryz.func3
    (ChangeSpec.witness_shaped (enc:=enc) (C:=Tryz.checked) (os:=os) (X:=fun w _=>laidMetH Tryz.prog we w) false (World.doorLaid Tryz.prog 400 os) #[.slice none 0 0,.int .i64 0] 8 rfl (World.shaped_of_RefB (by kernel_rfl) (by kernel_rfl)) (by kernel_rfl) (by kernel_rfl) (by kernel_rfl) (Oa os _)) ?_
  intro W base args ds gs before hval0 hW _ _ hL _
  have hval:∀ (j:Nat) t v,Tryz.f3.params[j]? = some t→args[j]? = some v→Value.okWide Tryz.prog W .any base t v:=hval0
  have hW' := hW
  obtain⟨p,q,hA0,hV,rfl,hfz,hnd⟩:=hW
  have hA:DataW.TrodAll enc Tryz.prog W 0 (fun _=>true) true Tryz.f3.params.toList args.toList ds p:=hA0
  rw[Tryz.params3]at hA hval
  obtain⟨v0,v1,d0,d1,p0,p1,rfl,rfl,rfl,h0,h1⟩:=trodAll_two hA
  obtain⟨rfl,rfl⟩:=trodVars_none hV
  clear hA0 hval0
  simp only[List.append_nil]at hW'
  have h0k:=h0
  have h1k:=h1
  obtain⟨a0,len0,cap0,rfl⟩:=okWide_slice Tryz.underlying22 (hval 0 22 v0 rfl rfl)
  obtain⟨T,e1,-,-,wf1⟩:=open_int Tryz.underlying2 (hval 1 2 v1 rfl rfl) h1
  subst e1
  obtain⟨fu,hf⟩:=h0
  obtain⟨vv,xs,ev,hI,hxs⟩:=Li (show DataW.trod enc Tryz.prog W 0 _ _ fu 22 [_]=some _ by simpa[Value.cells]using hf)
  simp at ev
  subst ev
  obtain⟨o,hT⟩:=Ra hL
  refine Calls.mono (NO _ xs T W hI hxs hT) fun e W' hr=>?_
  obtain⟨r,rfl,rfl,hch⟩:=hr
  have hbe:=hch.below
  exact⟨_,rfl,_,_,_,[],(p0++p1),[],hW', trodAll_mk1 (shut_bool Tryz.underlying4 true),
    trodAll_mk2 (Below.trod E6 (by kernel_rfl) (of_decide_eq_true (by kernel_rfl)) h0k hbe (fun x hx=>by have h9:=hW'.lt x (by simp[hx]);simpa using h9)) (Below.trod E6 (by kernel_rfl) (of_decide_eq_true (by kernel_rfl)) h1k hbe (fun x hx=>by have h9:=hW'.lt x (by simp[hx]);simpa using h9)),
    rfl,hbe.frame _,fun h=>by cases h⟩
theorem H9:Rows.ViewClustersSaid :=
  OpenClaim.holds_of_wide 3 Tryz.f3 rfl rfl rfl rfl rfl rfl rfl ⟨rfl,rfl,rfl,rfl,rfl⟩ rfl rfl rfl rfl rfl Es Tryz.func3 NL NN NV
    (fun os started H enc _=>H8 os started H enc)
theorem clusters_holds:Rows.ViewClustersCardSaid :=
  Claim7.holds_tied_plain_at .later [] [.data, .data] true (true, "ed780c8116b1c2cdc0d5ff4c0a2ca769eca6bd3b8827af12e0f8024af27b70bd") true
    H9 (fun _ h=>by cases h) NU (fun _ h=>by cases h) viewClusters_row_tie rfl ⟨rfl,rfl⟩ NR rfl
    (fun f fn hf hfn=>by
      obtain rfl:f=3:=(Option.some.inj (Es.symm.trans hf)).symm
      obtain rfl:fn=Tryz.f3:=(Option.some.inj (Tryz.func3.symm.trans hfn)).symm
      exact⟨NQ,fun j t ht=>by
        rw[Tryz.params3]at ht
        match j,ht with
        | 0,ht=>cases ht;exact NS
        | 1,ht=>cases ht;exact NT
        | (j+2),ht=>simp at ht⟩)
    NM
end Go.Proofs.YtoceanggliccgaaGreatDoor
