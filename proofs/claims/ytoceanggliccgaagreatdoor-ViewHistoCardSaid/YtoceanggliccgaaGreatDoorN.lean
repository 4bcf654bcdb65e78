/- Proved: for every input the Go function seepagelaw38.ViewHisto returns true and its arguments read behind the call as they read before (the histogram of a threshold counts, in every bucket, the clusters of that threshold whose sizes lie there; bounds that do not increase are refused). No conditions beyond those of the given card: the two package variables that it lists hold what the text of the program lays. -/
import Derived.Test.YtoceanggliccgaaGreatDoorVh
import Derived.Test.YtoceanggliccgaaGreatDoorG
import Derived.Test.YtoceanggliccgaaGreatDoorXN
import Derived.Test.YtoceanggliccgaaGreatDoorTie
import Derived.Test.YtoceanggliccgaaGreatDoorCards
import Derived.Test.YtoceanggliccgaaGreatDoorFd
import Derived.SevenTiedAt
set_option maxRecDepth 100000
set_option linter.unusedVariables false
namespace Go.Proofs.YtoceanggliccgaaGreatDoor
open Go Go.Sx Go.ChangeShapes Go.WideShapes Go.ChangeAt Go.RowKit
theorem HI:Tryz.prog.cellsOf 4=1:=by kernel_rfl
theorem HJ:Tryz.prog.cellsOf 5=1:=by kernel_rfl
theorem HK:Tryz.prog.cellsOf 73=1:=by kernel_rfl
theorem B6:Tryz.prog.cellsOf 75=5:=by kernel_rfl
theorem Lb{H:Type}{enc:TypeId×Value→H}{w:World}{sp:Nat→Bool}{hd:Bool}{fuel:Nat}{cs:List Value}{x:DataW H×List MemPlace}(h:DataW.trod enc Tryz.prog w 0 sp hd fuel 75 cs=some x):∃ c:Mw,cs=c.cells∧c.mv.ok:=by
  obtain⟨hl,hf⟩:=Pj Tryz.underlying75 h
  rw[B6]at hl
  match cs,hl with
  | [a0,a1,a2,a3,a4],_ =>
    obtain⟨n0,y0,h0⟩:=hf _ (List.mem_of_getElem? (i:=0) rfl)
    obtain⟨n1,y1,h1⟩:=hf _ (List.mem_of_getElem? (i:=1) rfl)
    obtain⟨n2,y2,h2⟩:=hf _ (List.mem_of_getElem? (i:=2) rfl)
    obtain⟨n3,y3,h3⟩:=hf _ (List.mem_of_getElem? (i:=3) rfl)
    obtain⟨n4,y4,h4⟩:=hf _ (List.mem_of_getElem? (i:=4) rfl)
    simp only[HI,HJ,HK]at h0 h1 h2 h3 h4
    obtain⟨x0,e0,_⟩:=DataW.trod_bool Tryz.underlying4 h0
    obtain⟨x1,e1,q1⟩:=vN Tryz.underlying5 h1
    obtain⟨x2,e2,q2⟩:=vN Tryz.underlying5 h2
    obtain⟨x3,e3,q3⟩:=vN Tryz.underlying73 h3
    obtain⟨x4,e4,q4⟩:=vN Tryz.underlying5 h4
    simp at e0 e1 e2 e3 e4
    subst e0 e1 e2 e3 e4
    exact⟨⟨x0,x1,x2,x3,x4⟩,rfl,⟨q1,q2,q3,q4⟩⟩
theorem Lc{H:Type}{enc:TypeId×Value→H}{w:World}{sp:Nat→Bool}{hd:Bool}{fuel:Nat}{cs:List Value}{x:DataW H×List MemPlace}(h:DataW.trod enc Tryz.prog w 0 sp hd fuel 22 cs=some x):∃ v l,cs=[v]∧gU 5 Mw.cells (fun _=>True) w v l∧∀ x∈l,x.mv.ok:=by
  obtain⟨v,l,e,hI⟩:=Sl.Q7 (α:=Mw) (E:=fun _ c vs=>vs=c.cells∧c.mv.ok) Tryz.underlying22 B6 (by decide) (fun n cs y hy=>Lb hy) h
  obtain⟨a,cp,rfl,h1,h2,h3⟩:=hI
  refine⟨_,l,e,⟨a,cp,rfl,h1,h2,fun i y hy=>?_⟩,fun y hy=>?_⟩
  · obtain⟨b,o,vs,r1,r2,r3,r4,r5⟩:=h3 i y hy
    exact⟨b,o,vs,r1,r2,r3,r4.1,r5⟩
  · obtain⟨i,hi⟩:=List.getElem?_of_mem hy
    obtain⟨b,o,vs,r1,r2,r3,r4,r5⟩:=h3 i y hi
    exact r4.2
theorem K9{H:Type}{enc:TypeId×Value→H}{P:Program}{w:World}{base:Nat}{spare:Nat→Bool}{held:Bool}{t0 t1 t2 t3 t4:TypeId}{args:Array Value}{ds:List (DataW H)}{ps:List MemPlace}(h:DataW.TrodAll enc P w base spare held [t0,t1,t2,t3,t4] args.toList ds ps) :
    ∃ v0 v1 v2 v3 v4 d0 d1 d2 d3 d4 p0 p1 p2 p3 p4,args = #[v0,v1,v2,v3,v4]∧ds=[d0,d1,d2,d3,d4]∧ps=p0++(p1++(p2++(p3++p4)))∧DataW.Trod enc P w base spare held t0 v0 d0 p0∧DataW.Trod enc P w base spare held t1 v1 d1 p1∧DataW.Trod enc P w base spare held t2 v2 d2 p2∧DataW.Trod enc P w base spare held t3 v3 d3 p3∧DataW.Trod enc P w base spare held t4 v4 d4 p4:=by
  obtain⟨v,vs,d,ds', p,q,hargs,rfl,rfl,hd,hrest⟩:=trodAll_cons h
  obtain⟨v', vs', d', ds'', p', q', rfl,rfl,rfl,hd', hrest'⟩:=trodAll_cons hrest
  obtain⟨v'', vs'', d'', ds''', p'', q'', rfl,rfl,rfl,hd'', hrest''⟩:=trodAll_cons hrest'
  obtain⟨v3,vs3,d3,ds3,p3,q3,rfl,rfl,rfl,hd3,hrest3⟩:=trodAll_cons hrest''
  obtain⟨v4,vs4,d4,ds4,p4,q4,rfl,rfl,rfl,hd4,hrest4⟩:=trodAll_cons hrest3
  obtain⟨rfl,rfl,rfl⟩:=trodAll_nil hrest4
  exact⟨v,v', v'', v3,v4,d,d', d'', d3,d4,p,p', p'', p3,p4,by cases args;simp_all,rfl,by simp,hd,hd', hd'', hd3,hd4⟩
theorem La{H:Type}{enc:TypeId×Value→H}{P:Program}{w:World}{base:Nat}{spare:Nat→Bool}{held:Bool}{t0 t1 t2 t3 t4:TypeId}{v0 v1 v2 v3 v4:Value}{d0 d1 d2 d3 d4:DataW H}{p0 p1 p2 p3 p4:List MemPlace}(h0:DataW.Trod enc P w base spare held t0 v0 d0 p0)(h1:DataW.Trod enc P w base spare held t1 v1 d1 p1)
    (h2:DataW.Trod enc P w base spare held t2 v2 d2 p2) (h3:DataW.Trod enc P w base spare held t3 v3 d3 p3) (h4:DataW.Trod enc P w base spare held t4 v4 d4 p4):DataW.TrodAll enc P w base spare held [t0,t1,t2,t3,t4] [v0,v1,v2,v3,v4] [d0,d1,d2,d3,d4] (p0++(p1++(p2++(p3++p4)))) :=
  ⟨p0,p1++(p2++(p3++p4)),h0,trodAll_mk4 h1 h2 h3 h4,rfl⟩
set_option maxRecDepth 100000 in
theorem IT(os:Os)(started:os.Started)(H:Type)(enc:TypeId×Value→H) :
    ReturnsInHanded {} Tryz.checked os 4 .any (fun w args=>(Rows.viewHistoSpec.pre enc Tryz.prog Tryz.f4 [] false w args∧laidMetH Tryz.prog vQ w)∧sizedMet enc Tryz.prog Tryz.f4 (OpenSpec.ofChange Rows.viewHistoSpec) false w args)
      (Rows.viewHistoSpec.post enc Tryz.prog Tryz.f4 false true false false):=by
  refine returnsInHanded_of_change_and (C:=Tryz.checked) (X:=fun w _=>laidMetH Tryz.prog vQ w) (fun _ _ _ hh h=>h.of_heap hh) Rh started (by kernel_rfl) Tryz.func4
    (ChangeSpec.witness_shaped (enc:=enc) (C:=Tryz.checked) (os:=os) (X:=fun w _=>laidMetH Tryz.prog vQ w) false (World.doorLaid Tryz.prog 400 os) #[.slice none 0 0,.int .i64 0,.int .u8 0,.int .u8 0,.int .u8 0] 8 rfl (World.shaped_of_RefB (by kernel_rfl) (by kernel_rfl)) (by kernel_rfl) (by kernel_rfl) (by kernel_rfl) (N1 os _)) ?_
  intro W base args ds gs before hval0 hW _ _ hL _
  have hval:∀ (j:Nat) t v,Tryz.f4.params[j]? = some t→args[j]? = some v→Value.okWide Tryz.prog W .any base t v:=hval0
  have hW' := hW
  obtain⟨p,q,hA0,hV,rfl,hfz,hnd⟩:=hW
  have hA:DataW.TrodAll enc Tryz.prog W 0 (fun _=>true) true Tryz.f4.params.toList args.toList ds p:=hA0
  rw[Tryz.params4]at hA hval
  obtain⟨v0,v1,v2,v3,v4,d0,d1,d2,d3,d4,p0,p1,p2,p3,p4,rfl,rfl,rfl,h0,h1,h2,h3,h4⟩:=K9 hA
  obtain⟨rfl,rfl⟩:=trodVars_none hV
  clear hA0 hval0
  simp only[List.append_nil]at hW'
  have h0k:=h0
  have h1k:=h1
  have h2k:=h2
  have h3k:=h3
  have h4k:=h4
  obtain⟨a0,len0,cap0,rfl⟩:=okWide_slice Tryz.underlying22 (hval 0 22 v0 rfl rfl)
  obtain⟨T,e1,-,-,wf1⟩:=open_int Tryz.underlying2 (hval 1 2 v1 rfl rfl) h1
  subst e1
  obtain⟨a,e2,-,-,wf2⟩:=open_int Tryz.underlying5 (hval 2 5 v2 rfl rfl) h2
  subst e2
  obtain⟨b,e3,-,-,wf3⟩:=open_int Tryz.underlying5 (hval 3 5 v3 rfl rfl) h3
  subst e3
  obtain⟨c,e4,-,-,wf4⟩:=open_int Tryz.underlying5 (hval 4 5 v4 rfl rfl) h4
  subst e4
  obtain⟨fu,hf⟩:=h0
  obtain⟨vv,xs,ev,hI,hxs⟩:=Lc (show DataW.trod enc Tryz.prog W 0 _ _ fu 22 [_]=some _ by simpa[Value.cells]using hf)
  simp at ev
  subst ev
  obtain⟨o,hT⟩:=Q6 hL
  refine Calls.mono (PI _ xs T a b c W hI hxs (gR.xO wf2) (gR.xO wf3) (gR.xO wf4) hT) fun e W' hr=>?_
  obtain⟨r,rfl,rfl,hch⟩:=hr
  have hbe:=hch.below
  exact⟨_,rfl,_,_,_,[],(p0++(p1++(p2++(p3++p4)))),[],hW', trodAll_mk1 (shut_bool Tryz.underlying4 true),
    La (Below.trod tg (by kernel_rfl) (of_decide_eq_true (by kernel_rfl)) h0k hbe (fun x hx=>by have h9:=hW'.lt x (by simp[hx]);simpa using h9)) (Below.trod tg (by kernel_rfl) (of_decide_eq_true (by kernel_rfl)) h1k hbe (fun x hx=>by have h9:=hW'.lt x (by simp[hx]);simpa using h9)) (Below.trod tg (by kernel_rfl) (of_decide_eq_true (by kernel_rfl)) h2k hbe (fun x hx=>by have h9:=hW'.lt x (by simp[hx]);simpa using h9)) (Below.trod tg (by kernel_rfl) (of_decide_eq_true (by kernel_rfl)) h3k hbe (fun x hx=>by have h9:=hW'.lt x (by simp[hx]);simpa using h9)) (Below.trod tg (by kernel_rfl) (of_decide_eq_true (by kernel_rfl)) h4k hbe (fun x hx=>by have h9:=hW'.lt x (by simp[hx]);simpa using h9)),
    rfl,hbe.frame _,fun h=>by cases h⟩
theorem IU:Rows.ViewHistoSaid :=
  OpenClaim.holds_of_wide 4 Tryz.f4 rfl rfl rfl rfl rfl rfl rfl ⟨rfl,rfl,rfl,rfl,rfl⟩ rfl rfl rfl rfl rfl EP Tryz.func4 PE PG PO
    (fun os started H enc _=>IT os started H enc)
theorem histo_holds:Rows.ViewHistoCardSaid :=
  Claim7.holds_tied_plain_at .later [] [.data, .data] true (true, "ed780c8116b1c2cdc0d5ff4c0a2ca769eca6bd3b8827af12e0f8024af27b70bd") true
    IU (fun _ h=>by cases h) PN (fun _ h=>by cases h) viewHisto_row_tie rfl ⟨rfl,rfl⟩ PK rfl
    (fun f fn hf hfn=>by
      obtain rfl:f=4:=(Option.some.inj (EP.symm.trans hf)).symm
      obtain rfl:fn=Tryz.f4:=(Option.some.inj (Tryz.func4.symm.trans hfn)).symm
      exact⟨PJ,fun j t ht=>by
        rw[Tryz.params4]at ht
        match j,ht with
        | 0,ht=>cases ht;exact PL
        | 1,ht=>cases ht;exact PM
        | 2,ht=>cases ht;exact AD
        | 3,ht=>cases ht;exact AD
        | 4,ht=>cases ht;exact AD
        | (j+5),ht=>simp at ht⟩)
    PF
end Go.Proofs.YtoceanggliccgaaGreatDoor
