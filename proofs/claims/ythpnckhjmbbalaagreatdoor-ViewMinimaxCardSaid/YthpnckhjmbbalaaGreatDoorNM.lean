/- Proved: for every input the Go function seepagelaw38.ViewMinimax returns true and its arguments read behind the call as they read before (Minimax of two ids is the smallest threshold at which their clusters are one, and there is one just where the window connects them). No conditions beyond those of the given card: the two package variables that it lists hold what the text of the program lays. -/
import Derived.Test.YthpnckhjmbbalaaGreatDoorVh
import Derived.Test.YthpnckhjmbbalaaGreatDoorG
import Derived.Test.YthpnckhjmbbalaaGreatDoorXM
import Derived.Test.YthpnckhjmbbalaaGreatDoorTie
import Derived.Test.YthpnckhjmbbalaaGreatDoorCards
import Derived.Test.YthpnckhjmbbalaaGreatDoorFd
import Derived.SevenTiedAt
set_option maxRecDepth 100000
set_option linter.unusedVariables false
namespace Go.Proofs.YthpnckhjmbbalaaGreatDoor
open Go Go.Sx Go.ChangeShapes Go.WideShapes Go.ChangeAt Go.RowKit
theorem Im:Tryz.prog.cellsOf 4=1:=by kernel_rfl
theorem Io:Tryz.prog.cellsOf 5=1:=by kernel_rfl
theorem Ip:Tryz.prog.cellsOf 55=1:=by kernel_rfl
theorem Ci:Tryz.prog.cellsOf 57=5:=by kernel_rfl
theorem Lq{H:Type}{enc:TypeId×Value→H}{w:World}{sp:Nat→Bool}{hd:Bool}{fuel:Nat}{cs:List Value}{x:DataW H×List MemPlace}(h:DataW.trod enc Tryz.prog w 0 sp hd fuel 57 cs=some x):∃ c:Mw,cs=c.cells∧c.mv.ok:=by
  obtain⟨hl,hf⟩:=Pz Tryz.underlying57 h
  rw[Ci]at hl
  match cs,hl with
  | [a0,a1,a2,a3,a4],_ =>
    obtain⟨n0,y0,h0⟩:=hf _ (List.mem_of_getElem? (i:=0) rfl)
    obtain⟨n1,y1,h1⟩:=hf _ (List.mem_of_getElem? (i:=1) rfl)
    obtain⟨n2,y2,h2⟩:=hf _ (List.mem_of_getElem? (i:=2) rfl)
    obtain⟨n3,y3,h3⟩:=hf _ (List.mem_of_getElem? (i:=3) rfl)
    obtain⟨n4,y4,h4⟩:=hf _ (List.mem_of_getElem? (i:=4) rfl)
    simp only[Im,Io,Ip]at h0 h1 h2 h3 h4
    obtain⟨x0,e0,_⟩:=DataW.trod_bool Tryz.underlying4 h0
    obtain⟨x1,e1,q1⟩:=wj Tryz.underlying5 h1
    obtain⟨x2,e2,q2⟩:=wj Tryz.underlying5 h2
    obtain⟨x3,e3,q3⟩:=wj Tryz.underlying55 h3
    obtain⟨x4,e4,q4⟩:=wj Tryz.underlying5 h4
    simp at e0 e1 e2 e3 e4
    subst e0 e1 e2 e3 e4
    exact⟨⟨x0,x1,x2,x3,x4⟩,rfl,⟨q1,q2,q3,q4⟩⟩
theorem Lr{H:Type}{enc:TypeId×Value→H}{w:World}{sp:Nat→Bool}{hd:Bool}{fuel:Nat}{cs:List Value}{x:DataW H×List MemPlace}(h:DataW.trod enc Tryz.prog w 0 sp hd fuel 22 cs=some x):∃ v l,cs=[v]∧ir 5 Mw.cells (fun _=>True) w v l∧∀ x∈l,x.mv.ok:=by
  obtain⟨v,l,e,hI⟩:=Sl.Rw (α:=Mw) (E:=fun _ c vs=>vs=c.cells∧c.mv.ok) Tryz.underlying22 Ci (by decide) (fun n cs y hy=>Lq hy) h
  obtain⟨a,cp,rfl,h1,h2,h3⟩:=hI
  refine⟨_,l,e,⟨a,cp,rfl,h1,h2,fun i y hy=>?_⟩,fun y hy=>?_⟩
  · obtain⟨b,o,vs,r1,r2,r3,r4,r5⟩:=h3 i y hy
    exact⟨b,o,vs,r1,r2,r3,r4.1,r5⟩
  · obtain⟨i,hi⟩:=List.getElem?_of_mem hy
    obtain⟨b,o,vs,r1,r2,r3,r4,r5⟩:=h3 i y hi
    exact r4.2
set_option maxRecDepth 100000 in
theorem JY(os:Os)(started:os.Started)(H:Type)(enc:TypeId×Value→H) :
    ReturnsInHanded {} Tryz.checked os 3 .any (fun w args=>(Rows.viewMinimaxSpec.pre enc Tryz.prog Tryz.f3 [] false w args∧laidMetH Tryz.prog wv w)∧sizedMet enc Tryz.prog Tryz.f3 (OpenSpec.ofChange Rows.viewMinimaxSpec) false w args)
      (Rows.viewMinimaxSpec.post enc Tryz.prog Tryz.f3 false true false false):=by
  refine returnsInHanded_of_change_and (C:=Tryz.checked) (X:=fun w _=>laidMetH Tryz.prog wv w) (fun _ _ _ hh h=>h.of_heap hh) RE started (by kernel_rfl) Tryz.func3
    (ChangeSpec.witness_shaped (enc:=enc) (C:=Tryz.checked) (os:=os) (X:=fun w _=>laidMetH Tryz.prog wv w) false (World.doorLaid Tryz.prog 400 os) #[.slice none 0 0,.int .u8 0,.int .u8 0] 8 rfl (World.shaped_of_RefB (by kernel_rfl) (by kernel_rfl)) (by kernel_rfl) (by kernel_rfl) (by kernel_rfl) (Oa os _)) ?_
  intro W base args ds gs before hval0 hW _ _ hL _
  have hval:∀ (j:Nat) t v,Tryz.f3.params[j]? = some t→args[j]? = some v→Value.okWide Tryz.prog W .any base t v:=hval0
  have hW' := hW
  obtain⟨p,q,hA0,hV,rfl,hfz,hnd⟩:=hW
  have hA:DataW.TrodAll enc Tryz.prog W 0 (fun _=>true) true Tryz.f3.params.toList args.toList ds p:=hA0
  rw[Tryz.params3]at hA hval
  obtain⟨v0,v1,v2,d0,d1,d2,p0,p1,p2,rfl,rfl,rfl,h0,h1,h2⟩:=trodAll_three hA
  obtain⟨rfl,rfl⟩:=trodVars_none hV
  clear hA0 hval0
  simp only[List.append_nil]at hW'
  have h0k:=h0
  have h1k:=h1
  have h2k:=h2
  obtain⟨a0,len0,cap0,rfl⟩:=okWide_slice Tryz.underlying22 (hval 0 22 v0 rfl rfl)
  obtain⟨x1,e1,-,-,wf1⟩:=open_int Tryz.underlying5 (hval 1 5 v1 rfl rfl) h1
  subst e1
  obtain⟨x2,e2,-,-,wf2⟩:=open_int Tryz.underlying5 (hval 2 5 v2 rfl rfl) h2
  subst e2
  obtain⟨fu,hf⟩:=h0
  obtain⟨vv,xs,ev,hI,hxs⟩:=Lr (show DataW.trod enc Tryz.prog W 0 _ _ fu 22 [_]=some _ by simpa[Value.cells]using hf)
  simp at ev
  subst ev
  obtain⟨o,hT⟩:=Rv hL
  refine Calls.mono (QX _ xs x1 x2 W hI hxs (gV.C9 wf1) (gV.C9 wf2) hT) fun e W' hr=>?_
  obtain⟨r,rfl,rfl,hch⟩:=hr
  have hbe:=hch.below
  exact⟨_,rfl,_,_,_,[],(p0++(p1++p2)),[],hW', trodAll_mk1 (shut_bool Tryz.underlying4 true),
    trodAll_mk3 (Below.trod AH (by kernel_rfl) (of_decide_eq_true (by kernel_rfl)) h0k hbe (fun x hx=>by have h9:=hW'.lt x (by simp[hx]);simpa using h9)) (Below.trod AH (by kernel_rfl) (of_decide_eq_true (by kernel_rfl)) h1k hbe (fun x hx=>by have h9:=hW'.lt x (by simp[hx]);simpa using h9)) (Below.trod AH (by kernel_rfl) (of_decide_eq_true (by kernel_rfl)) h2k hbe (fun x hx=>by have h9:=hW'.lt x (by simp[hx]);simpa using h9)),
    rfl,hbe.frame _,fun h=>by cases h⟩
theorem JZ:Rows.ViewMinimaxSaid :=
  OpenClaim.holds_of_wide 3 Tryz.f3 rfl rfl rfl rfl rfl rfl rfl ⟨rfl,rfl,rfl,rfl,rfl⟩ rfl rfl rfl rfl rfl FK Tryz.func3 QU QW Q2
    (fun os started H enc _=>JY os started H enc)
theorem minimax_holds:Rows.ViewMinimaxCardSaid :=
  Claim7.holds_tied_plain_at .later [] [.data, .data] true (true, "d28ffc5f31970c8f07d53b38de231648328090caabaabe1fde131c23091ef2ac") true
    JZ (fun _ h=>by cases h) Q1 (fun _ h=>by cases h) viewMinimax_row_tie rfl ⟨rfl,rfl⟩ QZ rfl
    (fun f fn hf hfn=>by
      obtain rfl:f=3:=(Option.some.inj (FK.symm.trans hf)).symm
      obtain rfl:fn=Tryz.f3:=(Option.some.inj (Tryz.func3.symm.trans hfn)).symm
      exact⟨QY,fun j t ht=>by
        rw[Tryz.params3]at ht
        match j,ht with
        | 0,ht=>cases ht;exact Q0
        | 1,ht=>cases ht;exact FL
        | 2,ht=>cases ht;exact FL
        | (j+3),ht=>simp at ht⟩)
    QV
end Go.Proofs.YthpnckhjmbbalaaGreatDoor
