/- Plain lemmas: rules for walking through code, one for each operation, over any program; an evaluator of closed calls with its soundness; and plain mathematics. No conditions. -/
import Derived.Test.YtdopagghhibopaaGreatFa
import Derived.Laws.Externs
import Derived.Laws.BytesString
import Derived.Deep.AppendSrc
import Derived.ControlIn
import Derived.KernelRfl
set_option linter.unusedVariables false
set_option linter.unusedSectionVars false
set_option linter.unusedSimpArgs false
namespace Go.Ex
open Go Go.Sx
def XR.next(E:Env):XR->Next
 | .val v=>.value (fT E v)
 | .unit=>.skip
 | .enter f args=>.enter f (args.map (fT E)).toArray
 | .yield _ _=>.skip
def XR.Wf(k:Nat):XR->Prop
 | .val v=>nm v<=k
 | .unit=>True
 | .enter _ args=>gW args<=k
 | .yield l args=>l<k/\gW args<=k
def Ak(E:Env)(k:Nat)(ρ:jk)(n:Nat)(s:List (Nat×Value)):Prop:=∀ x v,ρ x=some v->ev n s x=fT E v/\nm v<=k
def iC(P:Program)(E:Env)(A:AH)(w:World)(s:Sem Next)(A' : AH):XR->Prop
 | .yield l args=>A' = A/\l<A.nf/\gW args<=A.nf/\s.run P w=(Instr.yield (E l).blk (args.map (fT E)).toArray).run P w
 | r=>∃ E' w', s.run P w = .ok (r.next E') w' /\ Rel E' A' w' /\ To E A w E' A' w' /\ r.Wf A'.nf
section
variable {P:Program} {E:Env} {A A' : AH} {w:World} {s:Sem Next} {v:Value} {b o n:Nat} {cs l:List Value}
theorem iC.val(h:Rel E A w)(hr:s.run P w = .ok (.value (fT E v)) w)(hn:nm v<=A.nf):iC P E A w s A (.val v):=⟨E,w,hr,h,To.refl E A w,hn⟩
theorem wX(h:qt cs o n=some l):l=(cs.drop o).take n/\l.length=n:=by
 unfold qt at h
 simp only[oO]at h
 by_cases hb:((cs.drop o).take n).length=n
 . rw[decide_eq_true hb]at h;simp only[cond_true,Option.some.injEq]at h;subst h;exact⟨rfl,hb⟩
 . rw[decide_eq_false hb]at h;simp at h
theorem S2(h:qt cs o n=some l)(j:Nat)(u:Value)(hj:l[j]? = some u):cs[o+j]? = some u:=by
 obtain⟨rfl,_⟩:=wX h
 rw[qN]at hj
 split at hj
 . simpa using hj
 . cases hj
theorem HN(base:List Value)(d:Value)(t:Tr Value):∀ (n o:Nat),Aj base d t n o=(List.range' o n).map (rowAt base d t)
 | 0,o=>rfl
 | n+1,o=>by
  rw[List.range'_succ,zy,<-HN base d t n (o+1)];rfl
theorem LK(m:Nat)(base:List Value)(d:Value)(t:Tr Value)(o n:Nat):qt (oV m base d t) o n=bif Nat.ble (o+n) m||Nat.beq n 0 then some (Aj base d t n o)else none:=by
 have hl:(((oV m base d t).drop o).take n).length=min n (m-o):=by simp[zD]
 unfold qt
 simp only[hl,oO]
 by_cases h0:n=0
 . subst h0;simp[Aj];rfl
 . by_cases h:o+n<=m
   . rw[decide_eq_true o_,C9 h]
     simp only[cond_true,Bool.true_or,Option.some.injEq]
     rw[HN]
     refine nE fun i=>?_
     rw[qN,kX]
     by_cases hi:i<n
     . rw[if_pos hi,Bk,xm,if_pos o_,List.getElem?_range' hi];simp
     . rw[if_neg hi,nk (by simp;omega)];rfl
   . rw[decide_eq_false o_,decide_eq_false h0]
     have:Nat.ble (o+n) m=false:=by
      cases hb:Nat.ble (o+n) m with
      | false=>rfl
      | true=>exact absurd (za hb) h
     rw[this];rfl
theorem Mr(A:AH)(b o n:Nat):s9 A b o n=match A.get b with
 | some (.cells cs _ _ _)=>qt cs o n
 | _=>none:=by
 unfold s9 AH.get
 cases hp:A.h.get b with
 | none=>rfl
 | some p =>
  cases p with
  | ao ob=>cases ob<;>rfl
  | row m base d t T op ro=>simp only[PO.to];rw[LK]
theorem Sr(h:s9 A b o n=some l):∃ cs T op ro,A.get b=some (.cells cs T op ro)/\qt cs o n=some l:=by
 rw[Mr]at h
 split at h
 . rename_i cs T op ro hg;exact⟨cs,T,op,ro,hg,h⟩
 . cases h
theorem Uz{m:Nat}{base:List Value}{d:Value}{t:Tr Value}{vs:List Value}(h:o+vs.length<=m):oV m base d (xF vs o t)=setAt (oV m base d t) o vs:=by
 refine nE fun i=>?_
 rw[xm]
 unfold setAt
 simp only[lH]
 by_cases h1:i<o
 . rw[tS (by simp[zD];omega),qN,if_pos h1,xm]
   unfold rowAt
   rw[xg,if_neg (show ¬ (o<=i/\i<o+vs.length) by omega)]
 . rw[wE (by simp[zD];omega)]
   have e1:((oV m base d t).take o).length=o:=by simp[zD];omega
   rw[e1]
   by_cases h2:i<o+vs.length
   . rw[tS o_,if_pos o_]
     unfold rowAt
     rw[xg,if_pos (show o<=i/\i<o+vs.length by omega)]
     have:vs[i-o]? = some vs[i-o]:=zo o_
     rw[this]
   . rw[wE o_,Bk,show o+vs.length+(i-o-vs.length)=i by omega,xm]
     unfold rowAt
     rw[xg,if_neg (show ¬ (o<=i/\i<o+vs.length) by omega)]
theorem R6{vs:List Value}(h:BR A b o vs=some A'):∃ cs T op,A.get b=some (.cells cs T op false)/\o+vs.length<=cs.length/\vs.all one=true/\mg A' (A.set b (.cells (setAt cs o vs) T op false)):=by
 unfold BR at h
 split at h
 . rename_i m base d t T op hg
   cases hb:(Nat.ble (o+vs.length) m&&vs.all one)with
   | false=>rw[hb]at h;cases h
   | true =>
    rw[hb]at h
    simp only[cond_true,Option.some.injEq]at h
    subst h
    rw[zt]at hb
    have hfit:=za hb.1
    refine⟨oV m base d t,T,op,by unfold AH.get;rw[hg];rfl,by rw[zD];exact hfit,hb.2,rfl,fun b' => ?_⟩
    rw[xw,AH.En (n' := A.nf)]
    simp only[PO.to,Uz hfit]
 . cases h
theorem Rel.cell(h:Rel E A w){T:TypeId}{op:Option Nat}{ro:Bool}(hb:A.get b=some (.cells cs T op ro)){u:Value}(hu:cs[o]? = some u):w.cell? ⟨(E b).blk,(E b).sh+o,none⟩=some (fT E u):=by
 obtain⟨c,hc,hlies⟩:=h.obj b _ hb
 cases ro with
 | true =>
  obtain⟨arr,T', mk,rfl,h1⟩:=hlies
  rw[cell_of_row w _ _ _ T' mk hc]
  exact h1 o u hu
 | false =>
  obtain⟨pre,post,rfl,hl,_⟩:=hlies
  rw[cell_of_row w _ _ _ T (0,0) hc]
  have hlt:=(zb.1 hu).1
  simp only[rH,lH]
  rw[wE o_,<-hl,Ks,tS (by simpa using hlt)]
  simp[hu]
theorem Rel.read(h:Rel E A w)(hr:s9 A b o n=some l):l.length=n/\gW l<=A.nf/\∀ j u,(l.map (fT E))[j]? = some u->w.cell? ⟨(E b).blk,(E b).sh+o+j,none⟩=some u:=by
 obtain⟨cs,T,op,ro,hg,ht⟩:=Sr hr
 refine⟨(wX ht).2,?_,fun j u hj=>?_⟩
 . refine lq.2 fun v hv=>?_
   rw[(wX ht).1]at hv
   exact lq.1 (h.wf b _ hg).2 v (Kv (Gq hv))
 . rw[kX]at hj
   cases hlj:l[j]? with
   | none=>rw[hlj]at hj;cases hj
   | some u' =>
    rw[hlj]at hj
    simp only[oE,Option.some.injEq]at hj
    subst hj
    rw[ko]
    exact h.cell hg (S2 ht j u' hlj)
theorem Ig{t:TypeId}(h:mH P t=some n):∃ i,P.info? t=some i/\i.size=n:=by
 unfold mH at h
 cases hi:P.info? t with
 | none=>rw[hi]at h;cases h
 | some i=>rw[hi]at h;simp at h;exact⟨i,rfl,h⟩
theorem run_sizeOf{t:TypeId}(h:mH P t=some n)(w:World):(sizeOf t).run P w = .ok n w:=by
 obtain⟨i,hi,rfl⟩:=Ig h
 simp[sizeOf,typeInfo,hi]
theorem qZ{t:TypeId}{z:Value}(h:tz P t=some z):∃ i,P.info? t=some i/\i.zero=some z/\nm z=0/\z.cells.toList.length=i.size:=by
 unfold tz at h
 cases hi:P.info? t with
 | none=>rw[hi]at h;cases h
 | some i =>
  rw[hi]at h
  simp only at h
  cases hz:i.zero with
  | none=>rw[hz]at h;cases h
  | some z' =>
   rw[hz]at h
   simp only[oO]at h
   by_cases h0:nm z' = 0
   . by_cases h1:z'.cells.toList.length=i.size
     . rw[decide_eq_true h0,decide_eq_true h1]at h
       simp only[Bool.and_self,cond_true,Option.some.injEq]at h
       subst h
       exact⟨i,rfl,hz,h0,h1⟩
     . rw[decide_eq_false h1]at h;simp at h
   . rw[decide_eq_false h0]at h;simp at h
theorem DV{t:TypeId}{z:Value}(h:tz P t=some z)(w:World):(zeroValue t).run P w = .ok z w:=by
 obtain⟨i,hi,hz,_,_⟩:=qZ h
 simp[zeroValue,typeInfo,hi,hz]
theorem zO(d:TypeDesc):xO d=lK d:=by cases d<;>rfl
section
variable {ρ:jk} {m:Nat} {sl:List (Nat×Value)} {t:TypeId} {x y:Operand} {dd:Option Nat} {ty:TypeId} {pos:String} {af:Array Edge} {g:Option (Nat×Bool)}
theorem S1(h:Rel E A w)(hx:ev m sl x=fT E v){r:XR}(he:Am P A t v=some r):iC P E A w (execOp (ev m sl) ⟨dd,.load t x,ty,pos,af,g⟩) A r:=by
 unfold Am at he
 split at he
 . rename_i b o
   split at he
   . rename_i d hd
     cases ha:xO d with
     | true =>
      rw[ha]at he
      simp only[cond_true]at he
      split at he
      . rename_i n hn
        split at he
        . rename_i l hl
          simp only[Option.some.injEq]at he
          subst he
          obtain⟨h1,h2,h3⟩:=h.read hl
          refine iC.val h ?_ (by simp only[nm,jL];exact h2)
          have:=run_loadCells_list (P:=P) w ⟨(E b).blk,(E b).sh+o,none⟩ (l.map (fT E)) (fun j u hj=>by rw[Addr.add_lit];exact h3 j u hj)
          rw[zu,h1]at this
          simp only[execOp,hx,fT,jd,Instr.loadAt,Instr.sureAddr,loadVar,zj,zm,zd,qU hd,<-zO,ha,run_sizeOf hn,this,if_true,vE]
        . cases he
      . cases he
     | false =>
      rw[ha]at he
      simp only[cond_false]at he
      split at he
      . rename_i u hu
        simp only[Option.some.injEq]at he
        subst he
        obtain⟨h1,h2,h3⟩:=h.read hu
        refine iC.val h ?_ (by simp only[gW]at h2;omega)
        exact gU (a:=⟨(E b).blk,(E b).sh+o,none⟩) (by rw[hx];rfl) hd (by rw[<-zO];exact ha) (h3 0 (fT E u) s_)
      . cases he
   . cases he
 . cases he
theorem Oq(v:Value):one v=v.oneCell' := by cases v<;>rfl
theorem N7(E:Env)(v:Value):(fT E v).oneCell' = v.oneCell' := by
 cases v<;>first
  | rfl
  | (rename_i o;cases o<;>rfl)
  | (rename_i o _ _;cases o<;>rfl)
theorem L5(f:Value->Value)(cs vs:List Value)(o:Nat):(setAt cs o vs).map f=setAt (cs.map f) o (vs.map f):=by simp[setAt]
theorem ML{k:Nat}{vs:List Value}(h:gW cs<=k)(hv:gW vs<=k):gW (setAt cs o vs)<=k:=by
 rw[lq]at *
 intro v hm
 simp only[setAt,zr]at hm
 rcases hm with (hm|hm)|hm
 . exact h v (Gq hm)
 . exact hv v hm
 . exact h v (Kv hm)
theorem Lt{vs:List Value}(h:Rel E A w)(hn:gW vs<=A.nf)(he:BR A b o vs=some A') :
 ∃ w', (storeCells ⟨(E b).blk,(E b).sh+o,none⟩ (vs.map (fT E))).run P w = .ok () w' /\ Rel E A' w' /\ To E A w E A' w' /\ A'.nf=A.nf:=by
 obtain⟨cs,T,op,hg,hfit,hall,hsm⟩:=R6 he
 obtain⟨c,hc,pre,post,rfl,hl,hop⟩:=h.obj b _ hg
 have h1:∀ u∈vs.map (fT E),u.oneCell' = true:=by
  intro u hu
  obtain⟨v,hv,rfl⟩:=jW.1 hu
  rw[N7,<-Oq]
  exact zz.1 hall v hv
 have hrun:=run_storeCells_at P (E b).blk ((E b).sh+o) T (vs.map (fT E)) 0 _ w hc (by simp;omega) h1
 have hrow:setAt (pre++cs.map (fT E)++post) ((E b).sh+o) (vs.map (fT E))=pre++(setAt cs o vs).map (fT E)++post:=by
  rw[L5]
  simp only[setAt,<-hl,lH]
  rw[Bi,C2]
  simp only[Ks,zu]
  rw[sL o_,Bi,List.drop_eq_nil_of_le o_,show pre.length+o+vs.length-pre.length=o+vs.length by omega,C2]
  simp only[zu,nC,lH]
  rw[show o-cs.length=0 by omega,show o+vs.length-cs.length=0 by omega]
  simp
 refine⟨_,hrun,?_⟩
 have hset:(w.setRow (E b).blk (List.toArray (setAt (pre++cs.map (fT E)++post) ((E b).sh+o) (vs.map (fT E))))).heap[(E b).blk]? = some (.cells (pre++(setAt cs o vs).map (fT E)++post).toArray T (0,0)):=by
  rw[<-hrow];exact setRow_heap w _ _ _ T (0,0) hc
 have:=h.iF (b:=b) (o' := .cells (setAt cs o vs) T op false) (w' := w.setRow (E b).blk (List.toArray (setAt (pre++cs.map (fT E)++post) ((E b).sh+o) (vs.map (fT E))))) hg rfl rfl hset ⟨pre,post,rfl,hl,hop⟩ (ML (h.wf b _ hg).2 hn) (gB.setRow w _ _)
 have e2:(List.take ((E b).sh+o+0) (pre++cs.map (fT E)++post)++vs.map (fT E)++List.drop ((E b).sh+o+0+(vs.map (fT E)).length) (pre++cs.map (fT E)++post))=setAt (pre++cs.map (fT E)++post) ((E b).sh+o) (vs.map (fT E)):=by simp[setAt]
 simp only at this ⊢
 refine⟨?_,?_,hsm.1⟩
 . refine Rel.same ?_ hsm
   simpa[setAt]using this.1
 . refine To.same ?_ hsm
   simpa[setAt]using this.2
end
end
end Go.Ex
namespace Go.Ex
open Go Go.Sx
section
variable {P:Program} {E:Env} {A A' : AH} {w:World} {v:Value} {b o n:Nat} {cs l:List Value} {r:XR}
variable {ρ:jk} {m:Nat} {sl:List (Nat×Value)} {t:TypeId} {x y:Operand} {dd:Option Nat} {ty:TypeId} {pos:String} {af:Array Edge} {g:Option (Nat×Bool)}
abbrev kK(P:Program)(op:Op):Prop:=∀ (E:Env) (A A' : AH) (w:World) (ρ:jk) (m:Nat) (sl:List (Nat×Value)) (r:XR) (dd:Option Nat) (ty:TypeId) (pos:String) (af:Array Edge) (g:Option (Nat×Bool)),
 Rel E A w->Ak E A.nf ρ m sl->jt P ty op ρ A=some (r,A')->iC P E A w (execOp (ev m sl) ⟨dd,op,ty,pos,af,g⟩) A' r
theorem map_some{α β:Type}{f:α->β}{o:Option α}{y:β}(h:o.map f=some y):∃ x,o=some x/\f x=y:=by
 cases o with
 | none=>cases h
 | some x=>exact⟨x,rfl,by simpa using h⟩
theorem XL(x:Operand):kK P (.move x):=by
 intro E A A' w ρ m sl r dd ty pos af g h hρ he
 obtain⟨v,hv,e⟩:=map_some he
 cases e
 exact iC.val h (iy (hρ x v hv).1) (hρ x v hv).2
theorem VS(x:Operand):kK P (.assign x):=by
 intro E A A' w ρ m sl r dd ty pos af g h hρ he
 obtain⟨v,hv,e⟩:=map_some he
 cases e
 exact iC.val h (pV (hρ x v hv).1) (hρ x v hv).2
theorem YE(c x y:Operand):kK P (.pick c x y):=by
 intro E A A' w ρ m sl r dd ty pos af g h hρ he
 simp only[jt,Iz]at he
 split at he
 . rename_i hc
   obtain⟨v,hv,e⟩:=map_some he
   cases e
   exact iC.val h (JL (hρ c _ hc).1 (hρ x v hv).1) (hρ x v hv).2
 . rename_i hc
   obtain⟨v,hv,e⟩:=map_some he
   cases e
   exact iC.val h (JG (hρ c _ hc).1 (hρ y v hv).1) (hρ y v hv).2
 . cases he
theorem X7(t:TypeId)(a:Operand):kK P (.load t a):=by
 intro E A A' w ρ m sl r dd ty pos af g h hρ he
 simp only[jt,IN]at he
 split at he
 . rename_i v hv
   obtain⟨r', hr,e⟩:=map_some he
   cases e
   exact S1 h (hρ a v hv).1 hr
 . cases he
theorem Xt(t:TypeId)(a x:Operand):kK P (.store t a x):=by
 intro E A A' w ρ m sl r dd ty pos af g h hρ he
 simp only[jt,Na]at he
 split at he
 . rename_i p v hp hv
   obtain⟨A1,hr,e⟩:=map_some he
   cases e
   unfold OB at hr
   split at hr
   . rename_i b o
     split at hr
     . rename_i n hn
       cases hb:Nat.beq v.cells.toList.length n with
       | false=>rw[hb]at hr;cases hr
       | true =>
        rw[hb]at hr
        simp only[cond_true]at hr
        have hnv:gW v.cells.toList<=A.nf:=by
         have h1:=(hρ x v hv).2
         rw[<-BK]at h1
         cases hc:v.cells with|mk l=>rw[hc]at h1;exact h1
        obtain⟨w', h1,h2,h3,h4⟩:=Lt (P:=P) h hnv hr
        refine⟨E,w', ?_,h2,h3,trivial⟩
        have hsz:(fT E v).cells.size=n:=by rw[Dy];simpa using z7 hb
        have hl:(fT E v).cells.toList=v.cells.toList.map (fT E):=by rw[Dy];simp
        simp only[execOp,(hρ a _ hp).1,(hρ x v hv).1,fT,jd,Instr.storeAt,Instr.sureAddr,storeVar,zj,zm,zd,run_sizeOf hn,hsz,ne_eq,not_true,if_false,hl,h1,XR.next]
     . cases hr
   . cases hr
 . cases he
theorem DE{P:Program}{T:TypeId}{vs:List Value}{s:Sem Next}{v:Value}(h:Rel E A w)(hn:gW vs<=A.nf)(op:Option Nat)(hop:∀ sz,op=some sz->False)
 (hs:s.run P w = .ok (.value (fT (lD E A.nf ⟨w.heap.size,0,0⟩) v)) (w.alloc (.cells (vs.map (fT E)).toArray T))) (hv:nm v<=A.nf+1):iC P E A w s (A.add (.cells vs T op false)) (.val v):=by
 have:=h.new (o:=.cells vs T op false) (x:=⟨w.heap.size,0,0⟩) (w' := w.alloc (.cells (vs.map (fT E)).toArray T)) (c:=.cells (vs.map (fT E)).toArray T) (heap_alloc_new w _) (zp _)
  ⟨[],[],s_,rfl,fun sz e=>(hop sz e).elim⟩ hn (gB.alloc [] w _)
 exact⟨_,_,hs,this.1,this.2,hv⟩
theorem Xa(t:TypeId):kK P (.alloc t):=by
 intro E A A' w ρ m sl r dd ty pos af g h hρ he
 obtain⟨z,hz,e⟩:=map_some he
 cases e
 obtain⟨i,_,_,h0,_⟩:=qZ hz
 have hn:gW z.cells.toList=0:=by
  rw[<-BK]at h0
  cases hc:z.cells with|mk l=>rw[hc]at h0;exact h0
 refine DE (vs:=z.cells.toList) h o_ none (fun sz e=>by cases e) ?_ (by simp[ptr,nm])
 have hid:z.cells.toList.map (fT E)=z.cells.toList:=by rw[<-rX,D1 _ hn]
 rw[hid]
 simp only[execOp,Instr.alloc,zj,DV hz,zd,ptr,fT,jd,lg]
 rfl
theorem YY(t:TypeId)(x:Operand):kK P (.box t x):=by
 intro E A A' w ρ m sl r dd ty pos af g h hρ he
 obtain⟨v,hv,e⟩:=map_some he
 cases e
 have hn:gW v.cells.toList<=A.nf:=by
  have h1:=(hρ x v hv).2
  rw[<-BK]at h1
  cases hc:v.cells with|mk l=>rw[hc]at h1;exact h1
 refine DE (vs:=v.cells.toList) h hn none (fun sz e=>by cases e) ?_ (by simp[ptr,nm])
 have hl:(v.cells.toList.map (fT E)).toArray=(fT E v).cells:=by rw[Dy];apply Array.ext'; simp
 rw[hl]
 simp only[execOp,(hρ x v hv).1,Instr.box,ptr,fT,jd,lg]
 rfl
theorem TE(x:Operand)(i:Nat):kK P (.extract x i):=by
 intro E A A' w ρ m sl r dd ty pos af g h hρ he
 simp only[jt,G9]at he
 split at he
 . rename_i vs hv
   obtain⟨u,hu,e⟩:=map_some he
   cases e
   have h1:=(hρ x _ hv).2
   simp only[nm]at h1
   refine iC.val h (xS (vs:=vs.map (fT E)) (by rw[(hρ x _ hv).1];simp only[fT,BJ]) (by simp only[Array.getElem?_map];rw[<-sJ,hu];rfl)) (X8.1 h1 u ?_)
   rw[sJ]at hu
   exact Array.mem_of_getElem? hu
 . cases he
theorem aau(op:UnOp)(t:TypeId)(x:Operand):kK P (.unOp op t x):=by
 intro E A A' w ρ m sl r dd ty pos af g h hρ he
 simp only[jt,IQ]at he
 split at he
 . rename_i u hu
   obtain⟨v,hv,e⟩:=map_some he
   cases e
   unfold Rm at hv
   split at hv
   . rename_i k a
     split at hv
     . cases hv;exact iC.val h (ZA (hρ x _ hu).1 rfl) (by simp[nm])
     . obtain⟨c,hc,e⟩:=map_some hv
       cases e
       exact iC.val h (ZW (hρ x _ hu).1 hc) (by simp[nm])
     . cases hv
   . rename_i b
     split at hv
     . cases hv;exact iC.val h (JJ (hρ x _ hu).1 rfl) (by simp[nm])
     . cases hv
   . cases hv
 . cases he
theorem Sn(T:TypeId)(x:Operand)(f:Nat):kK P (.fieldAddr T x f):=by
 intro E A A' w ρ m sl r dd ty pos af g h hρ he
 simp only[jt,GG]at he
 split at he
 . rename_i b o fs hx hT
   split at he
   . rename_i fl hf
     split at he
     . rename_i k hk
       cases he
       have h1:=hρ x _ hx
       refine iC.val h ?_ (by have:=h1.2;simpa[ptr,nm]using this)
       rw[sJ]at hf
       simp only[execOp,h1.1,fT,jd,Instr.fieldAt,run_underlying hT,hf,Instr.sureAddr,fieldPlace,zj,zm,zd,run_sizeOf hk,Addr.add_lit,ptr]
       simp[ko]
     . cases he
   . cases he
 . cases he
theorem vJ{v:Value}{i:Nat}(h:tI v=some i):∃ k,v = .int k (i:Int):=by
 unfold tI at h
 split at h
 . cases h;exact⟨_,rfl⟩
 . cases h
theorem Sm(T:TypeId)(x y:Operand):kK P (.indexAddr T x y):=by
 intro E A A' w ρ m sl r dd ty pos af g h hρ he
 simp only[jt,GJ]at he
 split at he
 . rename_i b o n c vi e hx hy hT
   split at he
   . rename_i i sz hi hsz
     cases hb:Nat.blt i n with
     | false=>rw[hb]at he;cases he
     | true =>
      rw[hb]at he
      cases he
      obtain⟨k,rfl⟩:=vJ hi
      have h1:=hρ x _ hx
      have h2:=hρ y _ hy
      have hlt:i<n:=by simpa[Nat.blt,uV]using hb
      refine iC.val h ?_ (by have:=h1.2;simpa[ptr,nm]using this)
      simp only[execOp,h1.1,h2.1,fT,jd,Instr.indexAt,run_underlying hT,asIntOf,zj,zm,zd]
      have:(0:Int)<=(i:Int)/\(i:Int)<(n:Int):=by omega
      simp[this,run_sizeOf hsz,Addr.add_lit,ptr,fT,jd,ko]
   . cases he
 . rename_i b o vi n e hx hy hT
   split at he
   . rename_i i sz hi hsz
     cases hb:Nat.blt i n with
     | false=>rw[hb]at he;cases he
     | true =>
      rw[hb]at he
      cases he
      obtain⟨k,rfl⟩:=vJ hi
      have h1:=hρ x _ hx
      have h2:=hρ y _ hy
      have hlt:i<n:=by simpa[Nat.blt,uV]using hb
      refine iC.val h ?_ (by have:=h1.2;simpa[ptr,nm]using this)
      simp only[execOp,h1.1,h2.1,fT,jd,Instr.indexAt,run_underlying hT,asIntOf,Instr.sureAddr,zj,zm,zd]
      have:(0:Int)<=(i:Int)/\(i:Int)<(n:Int):=by omega
      simp[this,run_sizeOf hsz,Addr.add_lit,ptr,fT,jd,ko]
   . cases he
 . cases he
end
end Go.Ex
namespace Go.Ex
open Go Go.Sx
section
variable {P:Program} {E:Env} {A A' : AH} {w:World} {v:Value} {b o n:Nat} {cs l:List Value} {r:XR}
theorem uq{ρ:jk}{m k:Nat}{sl:List (Nat×Value)}(hρ:Ak E k ρ m sl):∀ {az:List Operand} {vs:List Value},mapM' ρ az=some vs->az.map (ev m sl)=vs.map (fT E)/\gW vs<=k
 | [],vs,h=>by cases h;exact⟨rfl,by simp[gW]⟩
 | x :: az,vs,h=>by
  simp only[mapM']at h
  split at h
  . rename_i y hy
    split at h
    . rename_i r' hr
      cases h
      obtain⟨h1,h2⟩:=uq hρ hr
      have:=hρ x y hy
      exact⟨by simp only[zy,this.1,h1],by simp only[gW,oL];exact⟨this.2,h2⟩⟩
    . cases h
  . cases h
theorem Rv(t:TypeId)(x:Operand):kK P (.makeInterface t x):=by
 intro E A A' w ρ m sl r dd ty pos af g h hρ he
 simp only[jt,Gz]at he
 split at he
 . rename_i v d hv hd
   have h1:=hρ x v hv
   split at he
   . cases he
   . rename_i hni
     cases he
     refine iC.val h (aac (v:=fT E v) h1.1 hd ?_) (by simpa[nm]using h1.2)
     cases d<;>first|rfl|(exact absurd rfl (hni _))
 . cases he
theorem Ti(fn:Fn)(fi ca:Array Operand):kK P (.makeFunc fn fi ca):=by
 intro E A A' w ρ m sl r dd ty pos af g h hρ he
 simp only[jt,GP]at he
 split at he
 . rename_i u v hu hv
   have h1:=uq hρ hu
   have h2:=uq hρ hv
   split at he
   . cases he
   . rename_i hny
     cases he
     have hfn:nK E fn=fn:=by cases fn<;>first|rfl|(exact absurd rfl (hny _))
     refine iC.val h ?_ ?_
     . have e1:fi.map (ev m sl)=(u.map (fT E)).toArray:=by apply Array.ext'; simp[h1.1]
       have e2:ca.map (ev m sl)=(v.map (fT E)).toArray:=by apply Array.ext'; simp[h2.1]
       simp only[execOp,Instr.makeFunc,e1,e2,zj,zm,zd,fT,hfn,vE]
     . simp only[nm,jL,oL]
       refine⟨?_,h1.2,h2.2⟩
       cases fn<;>first|exact oG _|(exact absurd rfl (hny _))
 . cases he
theorem Mw{t:TypeId}{name:String}{f:FuncId}(h:xM P t name=some f):∃ i mt,P.info? t=some i/\i.methods.find? (fun m=>m.name==name)=some mt/\mt.path = #[]/\mt.func=some (f,true)/\∃ e,P.underlying t=some (.pointer e):=by
 unfold xM at h
 split at h
 . rename_i i hi
   split at h
   . rename_i mt hm
     cases hp:mt.path.isEmpty with
     | false=>rw[hp]at h;cases h
     | true =>
      rw[hp]at h
      simp only[cond_true]at h
      split at h
      . rename_i f' e hf hu
        cases h
        exact⟨i,mt,hi,hm,by simpa using hp,hf,e,hu⟩
      . cases h
   . cases h
 . cases h
theorem Hh{t:TypeId}{name:String}{f:FuncId}(h:xM P t name=some f)(k:Nat)(v:Value)(w:World):(method (k+1) t v name).run P w = .ok (f,v) w:=by
 obtain⟨i,mt,hi,hm,hp,hf,e,hu⟩:=Mw h
 simp[run_underlying hu,Place.get,method,typeInfo,hi,hm,hp,hf,follow,receiverAt]
theorem RS{t:TypeId}{name:String}{f:FuncId}(h:xM P t name=some f)(k:Nat)(v:Value)(w:World):(nilAhead (k+1) t v name).run P w = .ok (some false) w:=by
 obtain⟨i,mt,hi,hm,hp,hf,_⟩:=Mw h
 simp[nilAhead,typeInfo,hi,hm,hp,hf,followBlind]
theorem Th(x:Operand):kK P (.nilCheck x):=by
 intro E A A' w ρ m sl r dd ty pos af g h hρ he
 simp only[jt,GX]at he
 split at he
 . rename_i a hx
   cases he
   have h1:=hρ x _ hx
   exact iC.val h (j6 (a:=jd E a) h1.1) h1.2
 . rename_i f fi ca hx
   cases he
   have h1:=hρ x _ hx
   refine iC.val h ?_ h1.2
   simp only[execOp,h1.1,fT,nK,zm]
 . rename_i name t a fi ca hx
   split at he
   . rename_i f hm
     cases he
     have h1:=hρ x _ hx
     refine iC.val h ?_ h1.2
     have:=RS hm (P.types.size+(Made.depth-1)) (.pointer (some (jd E a))) w
     simp only[execOp,h1.1,fT,nK,kP,lW]
     rw[show P.types.size+(Made.depth-1)+1=P.types.size+Made.depth from rfl]at this
     simp[this]
   . cases he
 . cases he
theorem sQ{t:TypeId}{u:Value}(h:uH P t cs o=some u){k:Nat}(hk:gW cs<=k)(w:World):(part t (cs.map (fT E)).toArray o).run P w = .ok (fT E u) w/\nm u<=k:=by
 unfold uH at h
 split at h
 . rename_i d hd
   cases ha:xO d with
   | true =>
    rw[ha]at h
    simp only[cond_true]at h
    split at h
    . rename_i n hn
      split at h
      . rename_i l hl
        cases h
        obtain⟨rfl,h2⟩:=wX hl
        constructor
        . simp only[part,zj,qU hd,<-zO,ha,zd,if_true,run_sizeOf hn,zm,fT,vE]
          congr 3
          apply Array.ext'
          simp[List.extract_eq_take_drop]
        . simp only[nm,jL]
          refine lq.2 fun v hv=>lq.1 hk v (Kv (Gq hv))
      . cases h
    . cases h
   | false =>
    rw[ha]at h
    simp only[cond_false]at h
    constructor
    . simp only[part,zj,qU hd,<-zO,ha,zd]
      simp[h]
    . exact lq.1 hk u (ze h)
 . cases h
theorem Wi(t:TypeId)(x:Operand)(f:Nat):kK P (.field t x f):=by
 intro E A A' w ρ m sl r dd ty pos af g h hρ he
 simp only[jt,HL]at he
 split at he
 . rename_i cs fs hx hT
   split at he
   . rename_i fl hf
     obtain⟨u,hu,e⟩:=map_some he
     cases e
     have h1:=hρ x _ hx
     obtain⟨cs⟩:=cs
     have h2:=sQ (E:=E) hu (k:=A.nf) (by have:=h1.2;simpa[nm,jL]using this) w
     rw[sJ]at hf
     refine iC.val h ?_ h2.2
     simp only[execOp,h1.1,fT,BJ,Instr.field,run_underlying hT,hf,asAgg,zj,zm,zd]
     have e:(Array.map (fT E) ⟨cs⟩)=(cs.map (fT E)).toArray:=by simp
     rw[e,h2.1]
     rfl
   . cases he
 . cases he
theorem X4(s:ByteArray)(i:Nat):s[i]? = s.data.toList[i]? := by
 rw[sJ]
 by_cases h:i<s.size
 . rw[getElem?_pos s i h,getElem?_pos s.data i h];rfl
 . rw[getElem?_neg s i h,getElem?_neg s.data i h]
theorem Xv(t:TypeId)(x y:Operand):kK P (.index t x y):=by
 intro E A A' w ρ m sl r dd ty pos af g h hρ he
 simp only[jt,HY]at he
 split at he
 . rename_i cs vi n e hx hy hT
   split at he
   . rename_i i sz hi hsz
     cases hb:Nat.blt i n with
     | false=>rw[hb]at he;cases he
     | true =>
      rw[hb]at he
      simp only[cond_true]at he
      obtain⟨u,hu,e⟩:=map_some he
      cases e
      obtain⟨k,rfl⟩:=vJ hi
      have h1:=hρ x _ hx
      have h2:=hρ y _ hy
      obtain⟨cs⟩:=cs
      have h3:=sQ (E:=E) hu (k:=A.nf) (by have:=h1.2;simpa[nm,jL]using this) w
      have hlt:i<n:=by simpa[Nat.blt,uV]using hb
      refine iC.val h ?_ h3.2
      have e:(Array.map (fT E) ⟨cs⟩)=(cs.map (fT E)).toArray:=by simp
      simp only[execOp,h1.1,h2.1,fT,BJ,e,Instr.index,run_underlying hT,asIntOf,zj,zm,zd]
      have:(0:Int)<=(i:Int)/\(i:Int)<(n:Int):=by omega
      simp[this,run_sizeOf hsz,h3.1]
   . cases he
 . rename_i s vi hx hy hT
   split at he
   . rename_i i hi
     obtain⟨u,hu,e⟩:=map_some he
     cases e
     obtain⟨k,rfl⟩:=vJ hi
     have h1:=hρ x _ hx
     have h2:=hρ y _ hy
     refine iC.val h (UT h1.1 h2.1 hT o_ ?_) (by simp[nm])
     rw[X4];exact hu
   . cases he
 . cases he
end
end Go.Ex
namespace Go.Ex
open Go Go.Sx
section
variable {P:Program} {E:Env} {w:World} {t t' : TypeId} {m:Nat} {sl:List (Nat×Value)} {x y:Operand} {dd:Option Nat} {ty:TypeId} {pos:String} {af:Array Edge} {g:Option (Nat×Bool)} {k:IntKind} {a b:Int} {u:Value}
theorem Tt{op:BinOp}(hx:ev m sl x = .int k a)(hy:ev m sl y = .int k b)(h:Qc op k a b=some u)(hs:op ≠ .shl/\op ≠ .shr) :
 (execOp (ev m sl) ⟨dd,.binOp op t x y t', ty,pos,af,g⟩).run P w = .ok (.value u) w/\(nm u=0/\∀ E,fT E u=u):=by
 have dec:∀ (c:Int->Value),(bif decide (b=0)then none else some (c b))=some u->b≠0/\c b=u:=by
  intro c h
  by_cases hb:b=0
  . simp[hb]at h
  . simp[hb]at h;exact⟨hb,h⟩
 cases op with
 | add=>cases h;exact⟨kV hx hy rfl rfl,rfl,fun _=>rfl⟩
 | sub=>cases h;exact⟨kV hx hy rfl rfl,rfl,fun _=>rfl⟩
 | mul=>cases h;exact⟨kV hx hy rfl rfl,rfl,fun _=>rfl⟩
 | quo=>obtain⟨h0,rfl⟩:=dec (fun b=>.int k (k.wrap (a.tdiv b))) h;exact⟨PF hx hy h0 rfl,rfl,fun _=>rfl⟩
 | rem=>obtain⟨h0,rfl⟩:=dec (fun b=>.int k (a.tmod b)) h;exact⟨Ch hx hy h0 rfl,rfl,fun _=>rfl⟩
 | and=>obtain⟨c,hc,rfl⟩:=map_some (f:=Value.int k) (o:=nS .and k a b) h;exact⟨Cr hx hy hc,rfl,fun _=>rfl⟩
 | or=>obtain⟨c,hc,rfl⟩:=map_some (f:=Value.int k) (o:=nS .or k a b) h;exact⟨Cr hx hy hc,rfl,fun _=>rfl⟩
 | xor=>obtain⟨c,hc,rfl⟩:=map_some (f:=Value.int k) (o:=nS .xor k a b) h;exact⟨Cr hx hy hc,rfl,fun _=>rfl⟩
 | andNot=>obtain⟨c,hc,rfl⟩:=map_some (f:=Value.int k) (o:=nS .andNot k a b) h;exact⟨Cr hx hy hc,rfl,fun _=>rfl⟩
 | shl=>exact absurd rfl hs.1
 | shr=>exact absurd rfl hs.2
 | eql=>obtain⟨c,hc,rfl⟩:=map_some (f:=Value.bool) (o:=j9 .eql a b) h;exact⟨rA hx hy hc,rfl,fun _=>rfl⟩
 | neq=>obtain⟨c,hc,rfl⟩:=map_some (f:=Value.bool) (o:=j9 .neq a b) h;exact⟨rA hx hy hc,rfl,fun _=>rfl⟩
 | lss=>obtain⟨c,hc,rfl⟩:=map_some (f:=Value.bool) (o:=j9 .lss a b) h;exact⟨rA hx hy hc,rfl,fun _=>rfl⟩
 | leq=>obtain⟨c,hc,rfl⟩:=map_some (f:=Value.bool) (o:=j9 .leq a b) h;exact⟨rA hx hy hc,rfl,fun _=>rfl⟩
 | gtr=>obtain⟨c,hc,rfl⟩:=map_some (f:=Value.bool) (o:=j9 .gtr a b) h;exact⟨rA hx hy hc,rfl,fun _=>rfl⟩
 | geq=>obtain⟨c,hc,rfl⟩:=map_some (f:=Value.bool) (o:=j9 .geq a b) h;exact⟨rA hx hy hc,rfl,fun _=>rfl⟩
theorem WI(s:ByteArray):∀ (k i:Nat) (acc:List UInt8),s.size-i=k->ByteArray.toList.loop s i acc=acc.reverse++s.data.toList.drop i:=by
 intro k
 induction k with
 | zero =>
  intro i acc h
  unfold ByteArray.toList.loop
  have:¬ i<s.size:=by omega
  rw[if_neg this]
  rw[List.drop_eq_nil_of_le (by show s.data.size<=i;have:s.data.size=s.size:=rfl;omega),mD]
 | succ k ih =>
  intro i acc h
  unfold ByteArray.toList.loop
  have hi:i<s.size:=by omega
  rw[if_pos hi,ih (i+1) _ o_]
  have hi' : i<s.data.toList.length:=hi
  rw[x8 hi']
  simp only[List.reverse_cons,lH,List.singleton_append]
  congr 2
  have:s.get! i=s.data[i]! := rfl
  rw[this]
  exact getElem!_pos s.data i hi
theorem UI(s:ByteArray):s.toList=s.data.toList:=by
 unfold ByteArray.toList
 rw[WI s s.size 0 [] o_]
 simp
theorem BZ(a b:ByteArray):(a==b)=(a.data.toList==b.data.toList):=by
 have h1:(a==b)=(a.data==b.data):=by cases a;cases b;rfl
 rw[h1,Bool.eq_iff_iff]
 simp only[beq_iff_eq,Array.toList_inj]
theorem Tp{op:BinOp}{p q:ByteArray}(hx:ev m sl x = .string p)(hy:ev m sl y = .string q)(h:JY op p q=some u) :
 (execOp (ev m sl) ⟨dd,.binOp op t x y t', ty,pos,af,g⟩).run P w = .ok (.value u) w/\(nm u=0/\∀ E,fT E u=u):=by
 have hg:(eqGuard op t x y (.string p) (.string q)).run P w = .ok () w:=by unfold eqGuard;cases op<;>simp
 unfold JY at h
 cases op<;>simp only at h<;>first
  | (cases h;refine⟨?_,rfl,fun _=>rfl⟩;simp only[execOp,hx,hy,zj,hg,zd,binOp,Op.stringOp,zm,UI];done)
  | (
   cases hb:Nat.ble (p.size+q.size) 9223372036854775807 with
   | false=>rw[hb]at h;cases h
   | true =>
    rw[hb]at h
    cases h
    have:=za hb
    have h2:¬ (((p.size+q.size:Nat):Int)>IntKind.i64.max):=by
     have:IntKind.i64.max=9223372036854775807:=rfl
     rw[this];omega
    refine⟨?_,rfl,fun _=>rfl⟩
    simp only[execOp,hx,hy,zj,hg,zd,binOp,Op.stringOp,if_neg h2,zm])
  | cases h
end
end Go.Ex
namespace Go.Ex
open Go Go.Sx
section
variable {P:Program} {E:Env} {w:World}
theorem M0{β:Type}(f:β->Option Bool)(B:β->Option Bool×Unit->Sem (ForInStep (Option Bool×Unit))):∀ (l:List β) (r:Bool),
 (∀ x∈l,f x=some true->(B x (none,())).run P w = .ok (.yield (none,())) w)->(∀ x∈l,f x=some false->(B x (none,())).run P w = .ok (.done (some false,())) w) ->
 allM f l=some r->(forIn l ((none,()):Option Bool×Unit) B).run P w = .ok (bif r then none else some false,()) w:=by
 intro l
 induction l with
 | nil=>intro r _ _ h;cases h;simp
 | cons x l ih =>
  intro r h1 h2 h
  simp only[allM]at h
  rw[List.forIn_cons]
  split at h
  . rename_i hx
    simp only[zj,h1 x s_ hx,zd]
    exact ih r (fun y hy=>h1 y (by simp[hy])) (fun y hy=>h2 y (by simp[hy])) h
  . rename_i hx
    cases h
    simp[zj,h2 x s_ hx,zd]
  . cases h
theorem RG(f:Nat->Option Bool)(n:Nat):allM f (List.range n)=allM f (List.range' 0 n):=by rw[List.range_eq_range']
theorem Vz(a b:Addr)(h:a.block=b.block):(jd E a==jd E b)=(a==b):=by
 rw[Bool.eq_iff_iff]
 simp only[beq_iff_eq]
 constructor
 . intro e
   simp only[jd,Addr.mk.injEq]at e
   obtain⟨_,e2,e3⟩:=e
   rw[h]at e2
   cases a;cases b
   simp only at h e2 e3
   simp only[Addr.mk.injEq]
   exact⟨h,o_,e3⟩
 . rintro rfl;rfl
theorem Mx:∀ (k k' : Nat) (t:TypeId) (x y:Value) (r:Bool),k<=k' -> rP P k t x y=some r->(Op.equalIn k' t (fT E x) (fT E y)).run P w = .ok r w:=by
 intro k
 induction k with
 | zero=>intro k' t x y r _ h;cases h
 | succ k ih =>
  intro k' t x y r hk h
  obtain⟨d,rfl⟩:∃ d,k' = d+1:=⟨k' - 1,o_⟩
  unfold rP at h
  split at h
  . rename_i a b hu;cases h;simp[Op.equalIn,run_underlying hu,fT]
  . rename_i _ j a k2 b hu
    by_cases e:j=k2
    . subst e;simp at h;subst h;simp[Op.equalIn,run_underlying hu,fT]
    . simp[e]at h
  . rename_i a b hu;cases h;simp[Op.equalIn,run_underlying hu,fT,BZ]
  . rename_i _ hu;cases h;simp[Op.equalIn,run_underlying hu,fT]
  . rename_i _ _ hu;cases h;simp[Op.equalIn,run_underlying hu,fT]
  . rename_i _ _ hu;cases h;simp[Op.equalIn,run_underlying hu,fT]
  . rename_i e a b hu
    split at h
    . rename_i n hn
      by_cases hb:a.block=b.block
      . simp[oO,hb]at h
        subst h
        simp[Op.equalIn,run_underlying hu,fT,run_sizeOf hn,sameAddr,show (jd E a).block=(jd E b).block by simp[jd,hb],Vz a b hb]
      . simp[oO,hb]at h
    . cases h
  . rename_i b _ _ hu;cases h;cases b<;>simp[Op.equalIn,run_underlying hu,fT]
  . rename_i a _ _ _ _ hu;cases h;simp[Op.equalIn,run_underlying hu,fT]
  . rename_i b hu;cases h;cases b<;>simp[Op.equalIn,run_underlying hu,fT]
  . rename_i a hu;cases h;simp[Op.equalIn,run_underlying hu,fT]
  . rename_i hu;cases h;simp[Op.equalIn,run_underlying hu,fT]
  . rename_i hu;cases h;simp[Op.equalIn,run_underlying hu,fT]
  . rename_i hu;cases h;simp[Op.equalIn,run_underlying hu,fT]
  . rename_i hu;cases h;simp[Op.equalIn,run_underlying hu,fT]
  . rename_i hu;cases h;simp[Op.equalIn,run_underlying hu,fT]
  . rename_i fs xs ys hu
    cases hs:(P.stoodInHeld t||P.eqGuardType P.depth t)with
    | true=>rw[hs]at h;cases h
    | false =>
     rw[hs]at h
     simp only[cond_false]at h
     have hs1:P.stoodInHeld t=false:=by rw[Bool.or_eq_false_iff]at hs;exact hs.1
     obtain⟨xs⟩:=xs
     obtain⟨ys⟩:=ys
     simp[Op.equalIn,run_underlying hu,fT,hs1,vE]
     rw[<-Array.forIn_toList]
     rw[M0 _ _ fs.toList r ?_ ?_ h]
     . cases r<;>simp
     . intro f hf hx
       by_cases hn : f.name = "_"
       . simp[hn]
       . have hn' : (f.name == "_") = false := by simpa using hn
         rw[hn']at hx
         simp only[cond_false]at hx
         split at hx
         . rename_i u v hu1 hv1
           have p1:=(sQ (E:=E) hu1 (zp _) w).1
           have p2:=(sQ (E:=E) hv1 (zp _) w).1
           simp[hn,p1,p2,ih d f.type u v true o_ hx]
         . cases hx
     . intro f hf hx
       by_cases hn : f.name = "_"
       . simp[hn]at hx
       . have hn' : (f.name == "_") = false := by simpa using hn
         rw[hn']at hx
         simp only[cond_false]at hx
         split at hx
         . rename_i u v hu1 hv1
           have p1:=(sQ (E:=E) hu1 (zp _) w).1
           have p2:=(sQ (E:=E) hv1 (zp _) w).1
           simp[hn,p1,p2,ih d f.type u v false o_ hx]
         . cases hx
  . rename_i n e xs ys hu
    cases hs:P.eqGuardType P.depth t with
    | true=>rw[hs]at h;cases h
    | false =>
     rw[hs]at h
     simp only[cond_false]at h
     split at h
     . rename_i sz hsz
       obtain⟨xs⟩:=xs
       obtain⟨ys⟩:=ys
       rw[RG]at h
       simp[Op.equalIn,run_underlying hu,fT,vE,run_sizeOf hsz]
       rw[M0 _ _ (List.range' 0 n) r ?_ ?_ h]
       . cases r<;>simp
       . intro i hi hx
         split at hx
         . rename_i u v hu1 hv1
           have p1:=(sQ (E:=E) hu1 (zp _) w).1
           have p2:=(sQ (E:=E) hv1 (zp _) w).1
           simp[p1,p2,ih d e u v true o_ hx]
         . cases hx
       . intro i hi hx
         split at hx
         . rename_i u v hu1 hv1
           have p1:=(sQ (E:=E) hu1 (zp _) w).1
           have p2:=(sQ (E:=E) hv1 (zp _) w).1
           simp[p1,p2,ih d e u v false o_ hx]
         . cases hx
     . cases h
  . cases h
end
end Go.Ex
namespace Go.Ex
open Go Go.Sx
section
variable {P:Program}
theorem binOp_eql{t:TypeId}{x y:Value}{E:Env}{w:World}{r:Bool}(h:rP P 100 t x y=some r)(hi:∀ k a k' b,¬ (x = .int k a/\y = .int k' b))(hs:∀ a b,¬ (x = .string a/\y = .string b)) :
 (binOp .eql t (fT E x) (fT E y)).run P w = .ok (.bool r) w/\(binOp .neq t (fT E x) (fT E y)).run P w = .ok (.bool !r) w:=by
 have he:(Op.equal t (fT E x) (fT E y)).run P w = .ok r w:=Mx 100 10000 t x y r d_ h
 have e1:binOp .eql t (fT E x) (fT E y)=(do pure (.bool (<- Op.equal t (fT E x) (fT E y))))/\binOp .neq t (fT E x) (fT E y)=(do pure (.bool (!(<- Op.equal t (fT E x) (fT E y))))):=by
  unfold rP at h
  split at h<;>first
   | (exact absurd ⟨rfl,rfl⟩ (hi _ _ _ _))
   | (exact absurd ⟨rfl,rfl⟩ (hs _ _))
   | (cases h;done)
   | (constructor<;>simp only[fT,binOp])
   | (rename_i o _ _ _;cases o<;>constructor<;>simp only[fT,binOp])
   | (rename_i o _;cases o<;>constructor<;>simp only[fT,binOp])
 rw[e1.1,e1.2]
 simp[he]
theorem Nk{t:TypeId}{x y:Value}{X Y:Operand}{E:Env}{w:World}{r:Bool}{op:BinOp}(h:rP P 100 t x y=some r):(eqGuard op t X Y (fT E x) (fT E y)).run P w = .ok () w:=by
 unfold eqGuard
 unfold rP at h
 split at h<;>first
  | (cases h;done)
  | (cases op<;>simp[fT];done)
  | (rename_i o _ _ _;cases o<;>cases op<;>simp[fT];done)
  | (rename_i o _;cases o<;>cases op<;>simp[fT];done)
  | skip
 . rename_i fs xs ys hu
   cases hs:(P.stoodInHeld t||P.eqGuardType P.depth t)with
   | true=>rw[hs]at h;cases h
   | false =>
    rw[Bool.or_eq_false_iff]at hs
    cases op<;>simp[fT,hs.2]
 . rename_i n e xs ys hu
   cases hs:P.eqGuardType P.depth t with
   | true=>rw[hs]at h;cases h
   | false=>cases op<;>simp[fT,hs]
theorem Y9(op:BinOp)(t:TypeId)(x y:Operand)(t' : TypeId):kK P (.binOp op t x y t'):=by
 intro E A A' w ρ m sl r dd ty pos af g h hρ he
 simp only[jt,HR]at he
 split at he
 . rename_i u v hu hv
   obtain⟨c,hc,e⟩:=map_some he
   cases e
   have h1:=hρ x u hu
   have h2:=hρ y v hv
   unfold PV at hc
   split at hc
   . rename_i k a k' b
     have i1:ev m sl x = .int k a:=h1.1
     have i2:ev m sl y = .int k' b:=h2.1
     split at hc
     . by_cases hb:0<=b
       . simp[hb]at hc
         subst hc
         exact iC.val h (ZI i1 i2 hb rfl) (by simp[nm])
       . simp[hb]at hc
     . by_cases hb:0<=b
       . simp[hb]at hc
         subst hc
         exact iC.val h (Pg i1 i2 hb rfl) (by simp[nm])
       . simp[hb]at hc
     . rename_i n1 n2
       by_cases hk:k=k'
       . subst hk
         simp at hc
         obtain⟨r1,r2,r3⟩:=Tt (P:=P) (w:=w) (t:=t) (t' := t') (dd:=dd) (ty:=ty) (pos:=pos) (af:=af) (g:=g) i1 i2 hc ⟨fun e=>n1 e,fun e=>n2 e⟩
         exact iC.val h (by rw[r3 E];exact r1) o_
       . simp[hk]at hc
   . rename_i a b
     obtain⟨r1,r2,r3⟩:=Tp (P:=P) (w:=w) (t:=t) (t' := t') (dd:=dd) (ty:=ty) (pos:=pos) (af:=af) (g:=g) (show ev m sl x = .string a from h1.1) (show ev m sl y = .string b from h2.1) hc
     exact iC.val h (by rw[r3 E];exact r1) o_
   . rename_i hni hns
     split at hc
     . obtain⟨b,hb,e⟩:=map_some hc
       cases e
       have:=(binOp_eql (E:=E) (w:=w) hb (fun k a k' b ⟨e1,e2⟩=>hni k a k' b e1 e2) (fun a b ⟨e1,e2⟩=>hns a b e1 e2)).1
       refine iC.val h ?_ (by simp[nm])
       simp only[execOp,h1.1,h2.1,zj,Nk hb,zd,this,zm,fT]
     . obtain⟨b,hb,e⟩:=map_some hc
       cases e
       have:=(binOp_eql (E:=E) (w:=w) hb (fun k a k' b ⟨e1,e2⟩=>hni k a k' b e1 e2) (fun a b ⟨e1,e2⟩=>hns a b e1 e2)).2
       refine iC.val h ?_ (by simp[nm])
       simp only[execOp,h1.1,h2.1,zj,Nk hb,zd,this,zm,fT]
     . cases hc
 . cases he
end
end Go.Ex
namespace Go.Ex
open Go Go.Sx
section
variable {P:Program}
theorem Xm(zs:List Value):∀ (c i:Nat),(rep zs c)[i]? = if i<c*zs.length then zs[i%zs.length]? else none:=by
 intro c
 induction c with
 | zero=>intro i;simp[rep]
 | succ c ih =>
  intro i
  rw[rep,ot,Nat.one_mul]
  by_cases h:i<zs.length
  . rw[tS h,if_pos o_,Nat.mod_eq_of_lt h]
  . rw[wE o_,ih]
    by_cases h2:i<c*zs.length+zs.length
    . rw[if_pos h2,if_pos o_]
      congr 1
      exact(Nat.mod_eq_sub_mod o_).symm
    . rw[if_neg h2,if_neg o_]
theorem LF(zs:List Value)(c:Nat):(rep zs c).length=c*zs.length:=by
 induction c with
 | zero=>simp[rep]
 | succ c ih=>rw[rep,zn,ih,ot];omega
theorem MW(z:Value)(c:Nat):(Array.range (c*z.cells.toList.length)).map (z.cells[· % z.cells.size]!)=(rep z.cells.toList c).toArray:=by
 apply Array.ext
 . simp[LF]
 . intro i h1 h2
   have h3:i<c*z.cells.toList.length:=by simpa[LF]using h2
   have hp:0<z.cells.size:=by
    rcases wK z.cells.size with h|h
    . simp[h]at h3
    . exact h
   have:=Xm z.cells.toList c i
   rw[if_pos h3]at this
   have e:(rep z.cells.toList c).toArray[i]=z.cells[i%z.cells.size]'(vh _ hp):=by
    apply Option.some.inj
    rw[<-Bn h2,rH,this]
    simp[vh _ hp]
   rw[e]
   simp[vh _ hp]
theorem G2{zs:List Value}(h:gW zs=0)(c:Nat):gW (rep zs c)=0:=by
 induction c with
 | zero=>rfl
 | succ c ih =>
  have:gW (zs++rep zs c)<=0:=lq.2 fun v hv=>by
   rcases zr.1 hv with h1|h1
   . exact lq.1 (by omega:gW zs<=0) v h1
   . exact lq.1 (by omega:gW (rep zs c)<=0) v h1
  rw[rep];omega
theorem zI{z:Value}(h:nm z=0):gW z.cells.toList=0:=by
 rw[<-BK]at h
 cases hc:z.cells with|mk l=>rw[hc]at h;exact h
theorem Dp{l:List Value}(h:gW l=0)(E:Env):l.map (fT E)=l:=by rw[<-rX,D1 _ h]
theorem Uu(t:TypeId)(x:Option Operand):kK P (.makeMap t x):=by
 intro E A A' w ρ m sl r dd ty pos af g h hρ he
 simp only[jt,Hg]at he
 split at he
 . rename_i k e q hu hq
   cases he
   have hn:=h.new (o:=.map [] 0) (x:=⟨w.heap.size,0,0⟩) (w' := w.alloc (.map #[] 0)) (c:=.map #[] 0) (heap_alloc_new w _) (zp _) (by simp[oU]) (fun e he=>by simp at he) (gB.alloc [] w _)
   refine⟨_,_,?_,hn.1,hn.2,by simp[XR.Wf,nm,AH.add]⟩
   simp only[XR.next,fT,lg]
   cases x with
   | none=>simp[execOp,Instr.makeMap]
   | some x =>
    simp only at hq
    split at hq
    . rename_i v hv
      obtain⟨k', rfl⟩:=vJ hq
      have:=(hρ x _ hv).1
      simp only[fT]at this
      simp[execOp,Instr.makeMap,this,run_underlying hu,asInt,asIntOf]
    . cases hq
 . cases he
theorem Sc(t:TypeId)(x y:Operand):kK P (.makeSlice t x y):=by
 intro E A A' w ρ m sl r dd ty pos af g h hρ he
 simp only[jt,GF]at he
 split at he
 . rename_i e vl vc hu hl hc
   split at he
   . rename_i l c sz by_ z h1 h2 h3 h4 h5
     cases hb:(Nat.ble l c&&Nat.ble (c*by_) 140737488355328&&Nat.ble c 9223372036854775807)with
     | false=>rw[hb]at he;cases he
     | true =>
      rw[hb]at he
      cases he
      simp only[zt]at hb
      obtain⟨⟨b1,b2⟩,b3⟩:=hb
      have b1:=za b1
      have b2:=za b2
      have b3:=za b3
      obtain⟨k1,rfl⟩:=vJ h1
      obtain⟨k2,rfl⟩:=vJ h2
      obtain⟨i,hi,hz,h0,hlen⟩:=qZ h5
      have hby:i.bytes=by_:=by
       unfold Dc at h4;rw[hi]at h4;simpa using h4
      subst hby
      have hcl:=G2 (zI h0) c
      refine DE (vs:=rep z.cells.toList c) h o_ none (fun sz e=>by cases e) ?_ (by simp[nm])
      rw[Dp hcl]
      have hr:=run_make (P:=P) w t e i z hu hi hz k1 k2 l c o_ o_ (by rw[<-Int.natCast_mul,Nat.mul_comm];omega) o_
      simp only[ua,<-hlen]at hr
      rw[show madeCells z.cells (c*z.cells.toList.length)=(rep z.cells.toList c).toArray from MW z c]at hr
      simp only[execOp,(hρ x _ hl).1,(hρ y _ hc).1,fT,zj,hr,zd,zm,jd,lg,kn,if_neg (show ¬ iY<=c by simp[iY];omega)]
   . cases he
 . cases he
end
end Go.Ex
namespace Go.Ex
open Go Go.Sx
section
variable {P:Program}
theorem HA(f:Value->Value)(pl:List (Nat×Nat)):∀ (qs:List (Nat×List Value)) (cs out:List Value),n9 pl cs qs=some out->n9 pl (cs.map f) (qs.map fun q=>(q.1,q.2.map f))=some (out.map f):=by
 intro qs
 induction qs with
 | nil=>intro cs out h;cases h;rfl
 | cons q qs ih =>
  intro cs out h
  obtain⟨i,vs⟩:=q
  simp only[n9]at h
  simp only[zy,n9,zu]
  cases hp:pl[i]? with
  | none=>rw[hp]at h;cases h
  | some p =>
   obtain⟨off,sz⟩:=p
   rw[hp]at h
   simp only at h ⊢
   cases hb:(Nat.beq vs.length sz&&Nat.ble (off+vs.length) cs.length)with
   | false=>rw[hb]at h;cases h
   | true =>
    rw[hb]at h
    simp only[cond_true]at h ⊢
    rw[<-L5]
    exact ih _ _ h
theorem Ib{k:Nat}(pl:List (Nat×Nat)):∀ (qs:List (Nat×List Value)) (cs out:List Value),gW cs<=k->(∀ q∈qs,gW q.2<=k)->n9 pl cs qs=some out->gW out<=k:=by
 intro qs
 induction qs with
 | nil=>intro cs out h1 _ h;cases h;exact h1
 | cons q qs ih =>
  intro cs out h1 h2 h
  obtain⟨i,vs⟩:=q
  simp only[n9]at h
  cases hp:pl[i]? with
  | none=>rw[hp]at h;cases h
  | some p =>
   obtain⟨off,sz⟩:=p
   rw[hp]at h
   simp only at h
   cases hb:(Nat.beq vs.length sz&&Nat.ble (off+vs.length) cs.length)with
   | false=>rw[hb]at h;cases h
   | true =>
    rw[hb]at h
    simp only[cond_true]at h
    exact ih _ _ (ML h1 (h2 (i,vs) s_)) (fun q hq=>h2 q (by simp[hq])) h
theorem DP{E:Env}{ρ:jk}{m k:Nat}{sl:List (Nat×Value)}(hρ:Ak E k ρ m sl):∀ {ps:List (Nat×Operand)} {qs:List (Nat×List Value)},
 mapM' (fun p:Nat×Operand=>(ρ p.2).map fun v=>(p.1,v.cells.toList)) ps=some qs ->
 s7 (ps.map fun p=>(p.1,ev m sl p.2)) (qs.map fun q=>(q.1,q.2.map (fT E)))/\∀ q∈qs,gW q.2<=k
 | [],qs,h=>by cases h;exact⟨trivial,fun q hq=>by simp at hq⟩
 | p :: ps,qs,h=>by
  simp only[mapM']at h
  split at h
  . rename_i y hy
    split at h
    . rename_i r' hr
      cases h
      obtain⟨v,hv,rfl⟩:=map_some hy
      obtain⟨h1,h2⟩:=DP hρ hr
      have:=hρ p.2 v hv
      have hn:gW v.cells.toList<=k:=by
       have h3:=this.2
       rw[<-BK]at h3
       cases hc:v.cells with|mk l=>rw[hc]at h3;exact h3
      refine⟨⟨rfl,by rw[this.1,Dy];simp,h1⟩,fun q hq=>?_⟩
      rcases zg.1 hq with rfl|hq
      . exact hn
      . exact h2 q hq
    . cases h
  . cases h
theorem LV {β γ:Type}{f:β->Option γ}{F:β->Sem γ}{w:World}:∀ {l:List β} {r:List γ},(∀ x y,f x=some y->(F x).run P w = .ok y w)->mapM' f l=some r->(l.mapM F).run P w = .ok r w
 | [],r,_,h=>by cases h;simp
 | x :: l,r,hf,h=>by
  simp only[mapM']at h
  split at h
  . rename_i y hy
    split at h
    . rename_i r' hr
      cases h
      simp[hf x y hy,LV hf hr]
    . cases h
  . cases h
theorem Uy{t:TypeId}{pl:List (Nat×Nat)}(h:places P t=some pl):nh P t pl:=by
 unfold places at h
 split at h
 . rename_i fs hu
   refine⟨fs,hu,fun w=>?_⟩
   rw[Array.mapM_eq_mapM_toList]
   have:=LV (P:=P) (w:=w) (F:=fun f:Field=>do pure (f.offset,<-sizeOf f.type)) (fun f y hy=>by
    obtain⟨s,hs,rfl⟩:=map_some hy
    simp[run_sizeOf hs]) h
   simp at this
   simp[this]
 . cases h
theorem Nr(pl:List (Nat×Nat)):∀ (qs:List (Nat×List Value)) (cs out:List Value),n9 pl cs qs=some out->∀ q∈qs,q.1<pl.length:=by
 intro qs
 induction qs with
 | nil=>intro cs out _ q hq;simp at hq
 | cons q qs ih =>
  intro cs out h q' hq'
  obtain⟨i,vs⟩:=q
  simp only[n9]at h
  cases hp:pl[i]? with
  | none=>rw[hp]at h;cases h
  | some p =>
   obtain⟨off,sz⟩:=p
   rw[hp]at h
   simp only at h
   cases hb:(Nat.beq vs.length sz&&Nat.ble (off+vs.length) cs.length)with
   | false=>rw[hb]at h;cases h
   | true =>
    rw[hb]at h
    simp only[cond_true]at h
    rcases zg.1 hq' with rfl|hq'
    . exact(zb.1 hp).1
    . exact ih _ _ h q' hq'
theorem s7.fst:∀ {ps:List (Nat×Value)} {qs:List (Nat×List Value)},s7 ps qs->∀ p∈ps,∃ q∈qs,q.1=p.1
 | [],[],_,p,hp=>by simp at hp
 | (i,v) :: ps,(j,vs) :: qs,h,p,hp=>by
  rcases zg.1 hp with rfl|hp
  . exact⟨(j,vs),s_,h.1.symm⟩
  . obtain⟨q,hq,e⟩:=s7.fst h.2.2 p hp
    exact⟨q,by simp[hq],e⟩
theorem JF{t:TypeId}{z:Value}(hz:tz P t=some z):∃ by_,TI P t z.cells.toList.length by_ z:=by
 obtain⟨i,hi,h1,_,h2⟩:=qZ hz
 exact⟨i.bytes,by unfold TI;rw[hi];simp[h1,h2]⟩
theorem SS{n sz:Nat}:∀ (l:List (Nat×Value)) (arr:Array Value),(∀ p∈l,p.1<n)->Instr.fill (fun i=>some (i*sz,sz)) arr l=Instr.fill ((((List.range n).map fun i=>(i*sz,sz)).toArray)[·]?) arr l:=by
 intro l
 induction l with
 | nil=>intro arr _;rfl
 | cons p l ih =>
  intro arr h
  obtain⟨i,v⟩:=p
  have hi:=h (i,v) s_
  simp only at hi
  simp only[Instr.fill,rH,kX,Bj hi,oE]
  split
  . rfl
  . simpa only[rH,kX]using ih _ (fun p hp=>h p (by simp[hp]))
theorem RP(t:TypeId)(n:Nat)(parts:Array (Nat×Operand)):kK P (.buildSlice t n parts):=by
 intro E A A' w ρ m sl r dd ty pos af g h hρ he
 simp only[jt,Lg]at he
 split at he
 . rename_i e qs hu hq
   split at he
   . rename_i sz z hsz hz
     cases hb:(Nat.ble (n*sz) 16777216&&Nat.ble n 16777216)with
     | false=>rw[hb]at he;cases he
     | true =>
      rw[hb]at he
      simp only[cond_true]at he
      rw[zt]at hb
      obtain⟨hb,hb2⟩:=hb
      obtain⟨out,hf,e'⟩:=map_some he
      cases e'
      obtain⟨h1,h2⟩:=DP hρ hq
      obtain⟨i,hi,hzz,h0,hlen⟩:=qZ hz
      obtain⟨by_,hTI⟩:=JF hz
      obtain⟨ie,hie,hes⟩:=Ig hsz
      have hss:z.cells.toList.length=sz:=by
       rw[hlen,<-hes];rw[hi]at hie;cases hie;rfl
      rw[hss]at hTI
      have hcl:=G2 (zI h0) n
      have hf' := HA (fT E) _ qs _ _ hf
      rw[Dp hcl]at hf'
      have hlt:∀ p∈(parts.toList.map fun p=>(p.1,ev m sl p.2)),p.1<n:=by
       intro p hp
       obtain⟨q,hq', e1⟩:=s7.fst h1 p hp
       have:=Nr _ _ _ _ hf' q hq'
       rw[e1]at this
       simpa using this
      have g1:=Dq _ _ _ _ _ h1 hf'
      rw[<-SS _ _ hlt,<-MW z n,hss]at g1
      have hr:=JM (P:=P) (w:=w) (dd:=dd) (ty:=ty) (pos:=pos) (af:=af) (g:=g) (ps:=parts.toList) (n:=m) (s:=sl) (cs:=out.map (fT E)) rfl hu hTI g1 (za hb)
      refine DE (vs:=out) h (Ib _ qs _ _ o_ h2 hf) none (fun sz e=>by cases e) ?_ (by simp[nm])
      simp only[C6]at hr
      rw[hr]
      have hn:¬ iY<=n:=by
       have:=za hb2
       simp only[iY]
       omega
      simp only[fT,jd,lg,kn,if_neg hn]
   . cases he
 . cases he
theorem Wr(t:TypeId)(parts:Array (Nat×Operand)):kK P (.build t parts):=by
 intro E A A' w ρ m sl r dd ty pos af g h hρ he
 simp only[jt,Il]at he
 have key:(parts.map fun(i,x)=>(i,ev m sl x))=(parts.toList.map fun p=>(p.1,ev m sl p.2)).toArray:=by apply Array.ext'; simp
 split at he
 . rename_i z qs fs hz hq hu
   split at he
   . rename_i pl hpl
     obtain⟨out,hf,e⟩:=map_some he
     cases e
     obtain⟨h1,h2⟩:=DP hρ hq
     obtain⟨i,hi,hzz,h0,hlen⟩:=qZ hz
     obtain⟨by_,hTI⟩:=JF hz
     have hz0:=zI h0
     have hf' := HA (fT E) pl qs _ _ hf
     rw[Dp hz0]at hf'
     have hr:=jS (w:=w) _ hTI (Uy hpl) rfl h1 hf'
     refine iC.val h ?_ (by simp only[nm,jL];exact Ib pl qs _ _ o_ h2 hf)
     simp only[execOp,key,zj,hr,zd,zm,fT,vE]
   . cases he
 . rename_i z qs n e hz hq hu
   split at he
   . rename_i sz hsz
     obtain⟨out,hf,e'⟩:=map_some he
     cases e'
     obtain⟨h1,h2⟩:=DP hρ hq
     obtain⟨i,hi,hzz,h0,hlen⟩:=qZ hz
     obtain⟨by_,hTI⟩:=JF hz
     obtain⟨ie,hie,hes⟩:=Ig hsz
     have hz0:=zI h0
     have hf' := HA (fT E) _ qs _ _ hf
     rw[Dp hz0]at hf'
     have hlt:∀ p∈(parts.toList.map fun p=>(p.1,ev m sl p.2)),p.1<n:=by
      intro p hp
      obtain⟨q,hq', e1⟩:=s7.fst h1 p hp
      have:=Nr _ _ _ _ hf' q hq'
      rw[e1]at this
      simpa using this
     have hr:(Instr.build t (parts.toList.map fun p=>(p.1,ev m sl p.2)).toArray).run P w = .ok (.agg (out.map (fT E)).toArray) w:=by
      have g1:=Dq _ _ _ _ _ h1 hf'
      have g2:∀ (l:List (Nat×Value)) (arr:Array Value),(∀ p∈l,p.1<n)->Instr.fill (fun i=>some (i*sz,sz)) arr l=Instr.fill ((((List.range n).map fun i=>(i*sz,sz)).toArray)[·]?) arr l:=by
       intro l
       induction l with
       | nil=>intro arr _;rfl
       | cons p l ih =>
        intro arr h
        obtain⟨i,v⟩:=p
        have hi:=h (i,v) s_
        simp only at hi
        simp only[Instr.fill,rH,kX,Bj hi,oE]
        split
        . rfl
        . simpa only[rH,kX]using ih _ (fun p hp=>h p (by simp[hp]))
      simp only[C6]at g1
      simp only[Instr.build,zj,hTI.s6,zd,run_underlying hu,run_sizeOf hsz,g2 _ _ hlt,g1,zm]
     refine iC.val h ?_ (by simp only[nm,jL];exact Ib _ qs _ _ o_ h2 hf)
     simp only[execOp,key,zj,hr,zd,zm,fT,vE]
   . cases he
 . cases he
end
end Go.Ex
namespace Go.Ex
open Go Go.Sx
section
variable {P:Program}
abbrev kr(E:Env)(e:Value×Value×Nat):MapEntry:=⟨fT E e.1,fT E e.2.1,e.2.2⟩
def tw(ki:Bool)(d:TypeDesc):Prop:=if ki then ∃ k,d = .int k else d = .string
theorem GL{t:TypeId}{ki:Bool}{k e:TypeId}(h:BV P t=some (ki,k,e)):P.underlying t=some (.map k e)/\∃ d,P.underlying k=some d/\tw ki d:=by
 unfold BV at h
 split at h
 . rename_i k' e' hu
   split at h
   . rename_i kk hk;cases h;exact⟨hu,_,hk,by simp[tw]⟩
   . rename_i hk;cases h;exact⟨hu,_,hk,by simp[tw]⟩
   . cases h
 . cases h
theorem run_checkKey{k:TypeId}{ki:Bool}{d:TypeDesc}(hk:P.underlying k=some d)(hd:tw ki d)(em:Bool)(n:Nat)(v:Value)(w:World):(Instr.checkKey em (n+1) k v).run P w = .ok () w:=by
 cases ki with
 | true =>
  obtain⟨kk,rfl⟩:∃ k,d = .int k:=by simpa[tw]using hd
  simp[Instr.checkKey,run_underlying hk]
 | false =>
  obtain rfl:d = .string:=by simpa[tw]using hd
  simp[Instr.checkKey,run_underlying hk]
theorem RH{E:Env}{ki:Bool}{d:TypeDesc}(hd:tw ki d){k:Value}:∀ (es:List (Value×Value×Nat)) (i:Nat) (r:Option (Nat×Value×Nat)),pN ki k es i=some r ->
 Instr.findNow d (fT E k) (es.map (kr E)) i=some (r.map fun q=>(q.1,fT E q.2.1)):=by
 intro es
 induction es with
 | nil=>intro i r h;cases h;rfl
 | cons e es ih =>
  intro i r h
  obtain⟨k', v,born⟩:=e
  simp only[pN]at h
  split at h
  . rename_i a x b y
    obtain⟨kk,rfl⟩:∃ k,d = .int k:=by simpa[tw]using hd
    by_cases hab:a=b
    . subst hab
      simp only[decide_true,cond_true]at h
      cases hxy:(x==y)with
      | true=>rw[hxy]at h;cases h;simp[Instr.findNow,Instr.sameNow,fT,hxy]
      | false=>rw[hxy]at h;simp only[cond_false]at h;simp only[zy,Instr.findNow,Instr.sameNow,fT,hxy,if_true];exact ih (i+1) r h
    . simp[hab]at h
  . rename_i x y
    obtain rfl:d = .string:=by simpa[tw]using hd
    cases hxy:(x.data.toList==y.data.toList)with
    | true=>rw[hxy]at h;cases h;simp[Instr.findNow,Instr.sameNow,fT,BZ,hxy]
    | false=>rw[hxy]at h;simp only[cond_false]at h;simp only[zy,Instr.findNow,Instr.sameNow,fT,BZ,hxy];exact ih (i+1) r h
  . cases h
theorem GR{ki:Bool}{k:Value}:∀ (es:List (Value×Value×Nat)) (i:Nat) (q:Nat×Value×Nat),pN ki k es i=some (some q)->i<=q.1/\∃ k', es[q.1-i]? = some (k', q.2.1,q.2.2)/\(k' = k):=by
 intro es
 induction es with
 | nil=>intro i q h;cases h
 | cons e es ih =>
  intro i q h
  obtain⟨k', v,born⟩:=e
  have step:pN ki k es (i+1)=some (some q)->i<=q.1/\∃ k'', ((k', v,born) :: es)[q.1-i]? = some (k'', q.2.1,q.2.2)/\k'' = k:=fun h=>by
   obtain⟨h1,k'', h2,h3⟩:=ih (i+1) q h
   refine⟨o_,k'', ?_,h3⟩
   rw[show q.1-i=(q.1-(i+1))+1 by omega]
   simpa using h2
  simp only[pN]at h
  split at h
  . rename_i a x b y
    by_cases hab:a=b
    . subst hab
      simp only[decide_true,cond_true]at h
      cases hxy:(x==y)with
      | true=>rw[hxy]at h;cases h;exact⟨zp _,.int a y,s_,by rw[eq_of_beq hxy]⟩
      | false=>rw[hxy]at h;exact step h
    . simp[hab]at h
  . rename_i x y
    cases hxy:(x.data.toList==y.data.toList)with
    | true =>
     rw[hxy]at h;cases h
     refine⟨zp _,.string y,s_,?_⟩
     rw[<-BZ]at hxy
     have h1:(x==y)=(x.data==y.data):=by cases x;cases y;rfl
     rw[h1]at hxy
     cases x;cases y
     exact congrArg (fun d=>Value.string (ByteArray.mk d)) (eq_of_beq hxy).symm
    | false=>rw[hxy]at h;exact step h
  . cases h
theorem Rel.Ad{E:Env}{A:AH}{w:World}{b clock:Nat}{es:List (Value×Value×Nat)}(h:Rel E A w)(hb:A.get b=some (.map es clock)):w.heap[(E b).blk]? = some (.map (es.map (kr E)).toArray clock):=by
 obtain⟨c,hc,hl⟩:=h.obj b _ hb
 simp only[oU]at hl
 rw[hc,hl]
theorem run_findKey{E:Env}{w:World}{kt:TypeId}{ki:Bool}{d:TypeDesc}(hkd:P.underlying kt=some d)(hd:tw ki d){k:Value}{es:List (Value×Value×Nat)}{q:Option (Nat×Value×Nat)}(h:pN ki k es 0=some q) :
 (Instr.findKey kt (fT E k) (es.map (kr E))).run P w = .ok (q.map fun q=>(q.1,fT E q.2.1)) w:=by
 simp[Instr.findKey,run_underlying hkd,RH (E:=E) hd es 0 q h]
end
end Go.Ex
namespace Go.Ex
open Go Go.Sx
section
variable {P:Program}
theorem UX(t:TypeId)(x y:Operand)(ok:Bool):kK P (.lookup t x y ok):=by
 intro E A A' w ρ m sl r dd ty pos af g h hρ he
 simp only[jt,Hz]at he
 split at he
 . rename_i r0 k ki kt e hx hy hk
   obtain⟨hu,d,hkd,hd⟩:=GL hk
   have h1:=hρ x _ hx
   have h2:=hρ y _ hy
   split at he
   . rename_i es z hes hz
     obtain⟨i,hi,hzz,h0,hlen⟩:=qZ hz
     have hz0:∀ E,fT E z=z:=B0 z h0
     have hfind:∀ q,pN ki k es 0=some q->(∀ p∈es,nm p.2.1<=A.nf)/\(execOp (ev m sl) ⟨dd,.lookup t x y ok,ty,pos,af,g⟩).run P w =
      .ok (.value (match q with
       | some q=>if ok then .tuple #[fT E q.2.1,.bool true]else fT E q.2.1
       | none=>if ok then .tuple #[z,.bool false]else z)) w:=by
      intro q hq
      have hf:=run_findKey (P:=P) (E:=E) (w:=w) hkd hd hq
      cases r0 with
      | none =>
       simp only[Option.some.injEq]at hes
       subst hes
       cases hq
       refine⟨fun q hq=>by simp at hq,?_⟩
       have c:=run_checkKey (P:=P) hkd hd true 9999 (fT E k) w
       simp only[yK]at hf
       simp only[execOp,h1.1,h2.1,fT,Instr.lookup,zj,run_underlying hu,zd,zm]
       simp[c,hf,DV hz]
      | some r0 =>
       simp only at hes
       split at hes
       . rename_i es' clock hg
         cases hes
         have hh:=h.Ad hg
         refine⟨fun q hq=>((h.wf r0 _ hg).2 q hq).2,?_⟩
         have c:=run_checkKey (P:=P) hkd hd (es.map (kr E)).toArray.isEmpty 9999 (fT E k) w
         have hgo:(getObj (E r0).blk).run P w = .ok (.map (es.map (kr E)).toArray clock) w:=by simp[getObj,Sem.run,hh]
         simp only[execOp,h1.1,h2.1,fT,Instr.lookup,zj,run_underlying hu,zd,zm,hgo]
         simp only[c,zd,hf]
         cases q<;>simp[DV hz]
       . cases hes
     split at he
     . rename_i i' v b hq
       cases he
       obtain⟨hn,hr⟩:=hfind _ hq
       obtain⟨_,k', hk', _⟩:=GR es 0 _ hq
       have hv:nm v<=A.nf:=hn _ (ze hk')
       cases ok with
       | true=>exact iC.val h (by simpa[fT,kP,lW]using hr) (by simp[nm,jL,gW];exact hv)
       | false=>exact iC.val h (by simpa using hr) hv
     . rename_i hq
       cases he
       obtain⟨hn,hr⟩:=hfind _ hq
       cases ok with
       | true=>exact iC.val h (by simpa[fT,kP,lW,hz0]using hr) (by simp[nm,jL,gW,h0])
       | false=>exact iC.val h (by simpa[hz0]using hr) (by simp[h0])
     . cases he
   . cases he
 . cases he
theorem map_set{E:Env}{A:AH}{w:World}{r0 clock clock' : Nat}{es es' : List (Value×Value×Nat)}(h:Rel E A w)(hg:A.get r0=some (.map es clock))(hn:∀ e∈es', nm e.1<=A.nf/\nm e.2.1<=A.nf) :
 ∃ w', (setObj (E r0).blk (.map (es'.map (kr E)).toArray clock')).run P w = .ok () w' /\ Rel E (A.set r0 (.map es' clock')) w' /\ To E A w E (A.set r0 (.map es' clock')) w' := by
 have hh:=h.Ad hg
 have hlt:=h.lt hg
 refine⟨w.putObj (E r0).blk (.map (es'.map (kr E)).toArray clock'),?_,?_⟩
 . simp only[setObj,Sem.run,hh,World.putObj]
 . exact h.iF hg rfl rfl (World.putObj_heap_same hlt) rfl hn (gB.putObj w _ _)
end
end Go.Ex
namespace Go.Ex
open Go Go.Sx
section
variable {P:Program}
def isKey:Value->Bool
 | .int _ _=>true
 | .string _=>true
 | _=>false
theorem Nt{ki:Bool}{k:Value}:∀ (es:List (Value×Value×Nat)) (i:Nat) (q:Nat×Value×Nat),pN ki k es i=some (some q)->isKey k=true:=by
 intro es
 cases es with
 | nil=>intro i q h;cases h
 | cons e es =>
  intro i q h
  obtain⟨k', v,born⟩:=e
  simp only[pN]at h
  split at h
  . rfl
  . rfl
  . cases h
theorem MI{k:Value}(hk:isKey k=true)(E:Env)(w:World):(Instr.keyThatStays (fT E k) (fT E k)).run P w = .ok (fT E k) w:=by
 cases k<;>simp[isKey]at hk
 . simp[Instr.keyThatStays,Instr.sameBits,fT]
 . simp[Instr.keyThatStays,Instr.sameBits,fT,BZ]
theorem Sj(t:TypeId)(mo x y:Operand):kK P (.mapUpdate t mo x y):=by
 intro E A A' w ρ m sl r dd ty pos af g h hρ he
 simp only[jt,Ll]at he
 split at he
 . rename_i r0 k v ki kt e hm hx hy hk
   obtain⟨hu,d,hkd,hd⟩:=GL hk
   have h0:=hρ mo _ hm
   have h1:=hρ x _ hx
   have h2:=hρ y _ hy
   split at he
   . rename_i es clock hg
     have hh:=h.Ad hg
     have hgo:(getObj (E r0).blk).run P w = .ok (.map (es.map (kr E)).toArray clock) w:=by simp[getObj,Sem.run,hh]
     have c:=run_checkKey (P:=P) hkd hd false 9999 (fT E k) w
     have hwf:=(h.wf r0 _ hg).2
     split at he
     . rename_i i v' born hq
       cases he
       have hf:=run_findKey (P:=P) (E:=E) (w:=w) hkd hd hq
       obtain⟨_,k', hk', rfl⟩:=GR es 0 _ hq
       simp only[yM]at hk'
       obtain⟨w', hs,hr,ht⟩:=map_set (P:=P) (clock' := clock) (es' := es.set i (k', v,born)) h hg (fun e he=>by
        rcases KP he with h3|rfl
        . exact hwf e h3
        . exact⟨h1.2,h2.2⟩)
       refine⟨E,w', ?_,hr,ht,trivial⟩
       have key:((es.map (kr E)).toArray.modify i fun e=>{ e with key:=fT E k', val:=fT E v })=((es.set i (k', v,born)).map (kr E)).toArray:=by
        apply Array.ext'
        apply nE
        intro j
        simp only[Bq,yF,List.map_set,sG,kX]
        by_cases hj:i=j
        . subst hj
          have h3:=(zb.1 hk').1
          have h4:=(zb.1 hk').2
          simp[hk', h3,h4]
        . simp[hj]
       have hold:(((es.map (kr E)).toArray[i]?).map (·.key)).getD (fT E k')=fT E k' := by simp[hk']
       simp only[execOp,h0.1,h1.1,h2.1,fT,Instr.mapUpdate,zj,run_underlying hu,zd,zm,hgo,c,hf,oE,hold,MI (Nt es 0 _ hq),key,hs,XR.next]
     . rename_i hq
       cases he
       have hf:=run_findKey (P:=P) (E:=E) (w:=w) hkd hd hq
       obtain⟨w', hs,hr,ht⟩:=map_set (P:=P) (clock' := clock+1) (es' := es++[(k,v,clock)]) h hg (fun e he=>by
        rcases zr.1 he with h3|h3
        . exact hwf e h3
        . simp only[mj]at h3;subst h3;exact⟨h1.2,h2.2⟩)
       refine⟨E,w', ?_,hr,ht,trivial⟩
       have key:((es.map (kr E)).toArray.push ⟨fT E k,fT E v,clock⟩)=((es++[(k,v,clock)]).map (kr E)).toArray:=by simp
       simp only[execOp,h0.1,h1.1,h2.1,fT,Instr.mapUpdate,zj,run_underlying hu,zd,zm,hgo,c,hf,xY,key,hs,XR.next]
     . cases he
   . cases he
 . cases he
theorem SM(t:TypeId)(mo x:Operand):kK P (.mapEntry t mo x):=by
 intro E A A' w ρ m sl r dd ty pos af g h hρ he
 simp only[jt,Lq]at he
 split at he
 . rename_i r0 k ki kt e hm hx hk
   obtain⟨hu,d,hkd,hd⟩:=GL hk
   have h0:=hρ mo _ hm
   have h1:=hρ x _ hx
   split at he
   . rename_i es clock z hg hz
     obtain⟨iz,hiz,hzz,hz0,hlen⟩:=qZ hz
     have hz1:∀ E,fT E z=z:=B0 z hz0
     have hh:=h.Ad hg
     have hgo:(getObj (E r0).blk).run P w = .ok (.map (es.map (kr E)).toArray clock) w:=by simp[getObj,Sem.run,hh]
     have c:=run_checkKey (P:=P) hkd hd false 9999 (fT E k) w
     have hwf:=(h.wf r0 _ hg).2
     split at he
     . rename_i i v' born hq
       cases he
       have hf:=run_findKey (P:=P) (E:=E) (w:=w) hkd hd hq
       obtain⟨_,k', hk', rfl⟩:=GR es 0 _ hq
       simp only[yM]at hk'
       have hv:=hwf _ (ze hk')
       obtain⟨w', hs,hr,ht⟩:=map_set (P:=P) (clock' := clock) (es' := es.set i (k', v', born)) h hg (fun e he=>by
        rcases KP he with h3|rfl
        . exact hwf e h3
        . exact hv)
       refine⟨E,w', ?_,hr,ht,by simp only[XR.Wf,nm,jL,gW,AH.set];have:=hv.2;simp only[]at this;omega⟩
       have key:((es.map (kr E)).toArray.modify i fun e=>{ e with key:=fT E k' })=((es.set i (k', v', born)).map (kr E)).toArray:=by
        apply Array.ext'
        apply nE
        intro j
        simp only[Bq,yF,List.map_set,sG,kX]
        by_cases hj:i=j
        . subst hj
          have h3:=(zb.1 hk').1
          have h4:=(zb.1 hk').2
          simp[hk', h3,h4]
        . simp[hj]
       have hold:(((es.map (kr E)).toArray[i]?).map (·.key)).getD (fT E k')=fT E k' := by simp[hk']
       have hborn:(((es.map (kr E)).toArray[i]?).map (fun x=>(x.born:Int))).getD 0=(born:Int):=by simp[hk']
       simp only[execOp,h0.1,h1.1,fT,Instr.mapEntry,zj,run_underlying hu,zd,zm,hgo,c,hf,oE,hold,hborn,MI (Nt es 0 _ hq),key,hs,XR.next,goInt,kP,lW]
     . rename_i hq
       cases he
       have hf:=run_findKey (P:=P) (E:=E) (w:=w) hkd hd hq
       obtain⟨w', hs,hr,ht⟩:=map_set (P:=P) (clock' := clock+1) (es' := es++[(k,z,clock)]) h hg (fun e he=>by
        rcases zr.1 he with h3|h3
        . exact hwf e h3
        . simp only[mj]at h3;subst h3;exact⟨h1.2,by simp[hz0]⟩)
       refine⟨E,w', ?_,hr,ht,by simp[XR.Wf,nm,jL,gW,hz0]⟩
       have key:((es.map (kr E)).toArray.push ⟨fT E k,z,clock⟩)=((es++[(k,z,clock)]).map (kr E)).toArray:=by simp[hz1]
       simp only[execOp,h0.1,h1.1,fT,Instr.mapEntry,zj,run_underlying hu,zd,zm,hgo,c,hf,xY,DV hz,key,hs,XR.next,goInt,kP,lW,hz1]
     . cases he
   . cases he
 . cases he
theorem R4(t:TypeId)(mo x y:Operand):kK P (.entryStore t mo x y):=by
 intro E A A' w ρ m sl r dd ty pos af g h hρ he
 simp only[jt,Lf]at he
 split at he
 . rename_i r0 kk b v hm hx hy
   have h0:=hρ mo _ hm
   have h1:=hρ x _ hx
   have h2:=hρ y _ hy
   split at he
   . rename_i es clock hg
     have hh:=h.Ad hg
     have hgo:(getObj (E r0).blk).run P w = .ok (.map (es.map (kr E)).toArray clock) w:=by simp[getObj,Sem.run,hh]
     have hwf:=(h.wf r0 _ hg).2
     split at he
     . rename_i i hi
       cases he
       obtain⟨w', hs,hr,ht⟩:=map_set (P:=P) (clock' := clock) (es' := es.modify i fun e=>(e.1,v,e.2.2)) h hg (fun e he=>by
        obtain⟨j,hj⟩:=Kh he
        rw[yF]at hj
        obtain⟨e0,h3,h4⟩:=map_some hj
        have h5:=hwf e0 (ze h3)
        by_cases hij:i=j
        . rw[if_pos hij]at h4;subst h4;exact⟨h5.1,h2.2⟩
        . rw[if_neg hij]at h4;subst h4;exact h5)
       refine⟨E,w', ?_,hr,ht,trivial⟩
       have hfi:(es.map (kr E)).toArray.findIdx? (fun e=>(e.born:Int)==b)=some i:=by
        rw[K5,List.findIdx?_map]
        exact hi
       have key:((es.map (kr E)).toArray.modify i fun e=>{ e with val:=fT E v })=((es.modify i fun e=>(e.1,v,e.2.2)).map (kr E)).toArray:=by
        apply Array.ext'
        apply nE
        intro j
        simp only[Bq,yF,kX]
        by_cases hj:i=j
        . simp[hj];rfl
        . simp[hj]
       simp only[execOp,h0.1,h1.1,h2.1,fT,Instr.entryStore,zj,zd,zm,hgo,asInt,asIntOf,hfi,key,hs,XR.next]
     . cases he
   . cases he
 . cases he
end
end Go.Ex
namespace Go.Ex
open Go Go.Sx
section
variable {P:Program}
theorem Dz{f:FuncId}(h:enters P f=true):gC P f:=by
 intro args w
 unfold enters at h
 split at h
 . rename_i fn hf
   rw[zt]at h
   have h1 : ¬ fn.name = "runtime.NumGoroutine" := by simpa using h.2
   have h2:¬ fn.body=none:=by
    intro hb;rw[hb]at h;simp at h
   simp only[callFunc,zj]
   simp[program,Sem.run,hf,h1,h2]
 . cases h
theorem Ty {fn : Func} (h1 : fn.name = "math/bits.Add64") (h2 : fn.origin = "") : Extern.findNext fn = none /\ Extern.find fn = some add64Entry := by
 have a : Extern.allNextRows.lookup "math/bits.Add64" = none := by kernel_rfl
 have b : Extern.allGenericRows.lookup "math/bits.Add64" = none := by kernel_rfl
 have c : Extern.allTypedRows.lookup "math/bits.Add64" = none := by kernel_rfl
 have d : Extern.allRows.lookup "math/bits.Add64" = some add64Entry := by kernel_rfl
 have a2 : Extern.allNextRows.lookup "" = none := by kernel_rfl
 exact⟨by simp[Extern.findNext,h1,h2,a,a2],by simp[Extern.find,h1,h2,b,c,d]⟩
theorem Wo(f:Operand)(az:Array Operand)(T:Array TypeId):kK P (.call ⟨.value f,az,T⟩):=by
 intro E A A' w ρ m sl r dd ty pos af g h hρ he
 simp only[jt,BU,Og]at he
 have key:∀ {vs:List Value},az.toList.map (ev m sl)=vs.map (fT E)->az.map (ev m sl)=(vs.map (fT E)).toArray:=fun e=>by apply Array.ext'; simp[e]
 split at he
 . rename_i f0 fi ca vs hf hvs
   cases hb:enters P f0 with
   | false =>
    rw[hb]at he
    simp only[cond_false]at he
    cases hr : Jo P "math/bits.Add64" f0 with
    | false=>rw[hr]at he;cases he
    | true =>
     rw[hr]at he
     obtain⟨v,hv,e⟩:=map_some he
     cases e
     have h0:=hρ f _ hf
     obtain⟨h1,h2⟩:=uq hρ hvs
     obtain⟨fi⟩:=fi
     obtain⟨ca⟩:=ca
     unfold Jo at hr
     split at hr
     . rename_i fn hfn
       simp only[zt,beq_iff_eq]at hr
       obtain⟨⟨r1,r2⟩,r3⟩:=hr
       obtain⟨x1,x2⟩:=Ty r2 r3
       unfold OA at hv
       split at hv
       . rename_i x y c hl
         obtain⟨hc,hv⟩:Nat.ble c 1=true/\_=some v:=by
          cases hc:Nat.ble c 1 with
          | false=>rw[hc]at hv;cases hv
          | true=>rw[hc]at hv;exact⟨rfl,hv⟩
         cases hv
         refine iC.val h ?_ (by simp[nm,jL,gW])
         have hcall:=run_callFunc_extern (P:=P) hfn (by rw[r2];rfl) r1 x1 x2 #[.int .u64 x,.int .u64 y,.int .u64 c] w
         have hle:=za hc
         rw[run_add64 x y c o_ o_ o_ o_]at hcall
         have hargs:(fi.map (fT E)).toArray++(vs.map (fT E)).toArray++(ca.map (fT E)).toArray = #[.int .u64 x,.int .u64 y,.int .u64 c]:=by
          apply Array.ext'
          simp only[List.append_toArray,<-qM]
          simp only at hl
          rw[hl]
          rfl
         simp only[execOp,resolve,invoke,Deferred.ofValue,key h1,h0.1,fT,nK,kP,rX,zj,zm,zd,hargs,hcall]
         simp[fT,kP,lW]
       . cases hv
     . cases hr
   | true =>
    rw[hb]at he
    cases he
    have h0:=hρ f _ hf
    obtain⟨h1,h2⟩:=uq hρ hvs
    obtain⟨fi⟩:=fi
    obtain⟨ca⟩:=ca
    have h3:=h0.2
    simp only[nm,jL,oL]at h3
    refine⟨E,w,?_,h,To.refl E A w,?_⟩
    . simp only[execOp,resolve,invoke,Deferred.ofValue,key h1,h0.1,fT,nK,kP,rX,zj,zm,zd,XR.next]
      simp[Dz hb _ _]
    . simp only[XR.Wf]
      refine lq.2 fun v hv=>?_
      simp only[zr]at hv
      rcases hv with (hv|hv)|hv
      . exact lq.1 h3.2.1 v hv
      . exact lq.1 h2 v hv
      . exact lq.1 h3.2.2 v hv
 . rename_i name t a fi vs hf hvs
   split at he
   . rename_i f0 hm
     cases hb:enters P f0 with
     | false=>rw[hb]at he;cases he
     | true =>
      rw[hb]at he
      cases he
      have h0:=hρ f _ hf
      obtain⟨h1,h2⟩:=uq hρ hvs
      have h3:=h0.2
      simp only[nm,jL,gW,oL]at h3
      refine⟨E,w,?_,h,To.refl E A w,?_⟩
      . have hme:=Hh hm (P.types.size+(Made.depth-1)) (.pointer (some (jd E a))) w
        rw[show P.types.size+(Made.depth-1)+1=P.types.size+Made.depth from rfl]at hme
        simp only[execOp,resolve,invoke,Deferred.ofValue,key h1,h0.1,fT,nK,kP,lW,rX,zj,zm,zd,XR.next]
        simp[callMethod,hme,Dz hb _ _,fT]
        exact sL s_
      . simp only[XR.Wf]
        refine lq.2 fun v hv=>?_
        simp only[zr,zg]at hv
        rcases hv with (rfl|hv)|hv
        . simp only[nm];exact h3.2.1.1
        . exact lq.1 h3.2.1.2 v hv
        . exact lq.1 h2 v hv
   . cases he
 . rename_i l vs hf hvs
   cases he
   have h0:=hρ f _ hf
   obtain⟨h1,h2⟩:=uq hρ hvs
   have h3:=h0.2
   simp only[nm,jL,gW]at h3
   refine⟨rfl,o_,h2,?_⟩
   simp only[execOp,resolve,invoke,Deferred.ofValue,key h1,h0.1,fT,nK,kP,lW,zj,zm,zd]
   simp
 . cases he
theorem Vo(x:Operand)(name:String)(az:Array Operand)(T:Array TypeId):kK P (.call ⟨.invoke x name,az,T⟩):=by
 intro E A A' w ρ m sl r dd ty pos af g h hρ he
 simp only[jt,BU,Of]at he
 split at he
 . rename_i t a vs hx hvs
   split at he
   . rename_i f0 hm
     cases hb:enters P f0 with
     | false=>rw[hb]at he;cases he
     | true =>
      rw[hb]at he
      cases he
      have h0:=hρ x _ hx
      obtain⟨h1,h2⟩:=uq hρ hvs
      have h3:=h0.2
      simp only[nm]at h3
      refine⟨E,w,?_,h,To.refl E A w,?_⟩
      . have hme:=Hh hm (P.types.size+(Made.depth-1)) (.pointer (some (jd E a))) w
        rw[show P.types.size+(Made.depth-1)+1=P.types.size+Made.depth from rfl]at hme
        have hr:=YV (P:=P) (w:=w) (n:=m) (s:=sl) (dd:=dd) (ty:=ty) (pos:=pos) (af:=af) (g:=g) (T:=T) (name:=name) (t:=t) (v:=.pointer (some (jd E a))) (f:=f0) (vl:=.pointer (some (jd E a)) :: vs.map (fT E)) h0.1 h1 (fun w=>by
         have hme:=Hh hm (P.types.size+(Made.depth-1)) (.pointer (some (jd E a))) w
         rw[show P.types.size+(Made.depth-1)+1=P.types.size+Made.depth from rfl]at hme
         simp[callMethod,hme,Dz hb _ _])
        simpa[XR.next,fT]using hr
      . simp only[XR.Wf,gW,oL,nm]
        exact⟨h3,h2⟩
   . cases he
 . cases he
end
end Go.Ex
namespace Go.Ex
open Go Go.Sx
section
variable {P:Program}
theorem Tm(lt:Int->Int->Bool)(f:Value->Value->Sem Value)(w:World)(hf:∀ k k' x y,(f (.int k x) (.int k' y)).run P w = .ok (.int k (bif lt y x then y else x)) w) :
 ∀ (l:List Value) (v u:Value) (E:Env),rD lt v l=some u->(List.foldlM f (fT E v) (l.map (fT E))).run P w = .ok (fT E u) w:=by
 intro l
 induction l with
 | nil=>intro v u E h;cases v<;>(simp only[rD,Option.some.injEq]at h;subst h;simp)
 | cons y l ih =>
  intro v u E h
  cases v<;>try (simp[rD]at h;done)
  cases y<;>try (simp[rD]at h;done)
  rename_i k x k' y
  simp only[rD]at h
  have:=ih _ u E h
  simp only[zy,List.foldlM_cons,zj,fT,hf,zd]
  simpa[fT]using this
end
end Go.Ex
namespace Go.Ex
open Go Go.Sx
section
variable {P:Program}
theorem sY(k:IntKind){i y:Nat}(h:i<=y)(code:BoundsCode)(w:World):(Instr.sliceBound (.int k (i:Int)) y code).run P w = .ok i w:=by
 have:(0:Int)<=(i:Int)/\(i:Int)<=(y:Int):=by omega
 simp[Instr.sliceBound,asIntOf,this]
theorem zF{E:Env}{k:Nat}{ρ:jk}{m:Nat}{sl:List (Nat×Value)}(hρ:Ak E k ρ m sl){x:Operand}{d i:Nat}(h:mz ρ (some x) d=some i):∃ kk,ev m sl x = .int kk (i:Int):=by
 simp only[mz]at h
 split at h
 . rename_i v hv
   obtain⟨kk,rfl⟩:=vJ h
   exact⟨kk,(hρ x _ hv).1⟩
 . cases h
theorem wZ{E:Env}{k:Nat}{ρ:jk}{m:Nat}{sl:List (Nat×Value)}(hρ:Ak E k ρ m sl){lo hi mx:Option Operand}{l h q len cap:Nat}(isS:Bool)(h1:mz ρ lo 0=some l)(h2:mz ρ hi len=some h)
 (h3:(mx=none/\q=cap)\/(∃ d,mx.isSome=true/\mz ρ mx d=some q)) (a1:l<=h) (a2:h<=q) (a3:q<=cap) (a4:mx=none\/hi.isSome=true) (w:World) :
 (Instr.sliceBounds isS len cap (lo.map (ev m sl)) (hi.map (ev m sl)) (mx.map (ev m sl))).run P w = .ok (l,h,q) w:=by
 unfold Instr.sliceBounds
 have e3:∀ c,((match mx.map (ev m sl)with|some v=>Instr.sliceBound v cap c|none=>pure cap:Sem Nat)).run P w = .ok q w:=by
  intro c
  cases mx with
  | none =>
   rcases h3 with ⟨_,rfl⟩|⟨d,h,_⟩
   . rfl
   . cases h
  | some x =>
   rcases h3 with ⟨h,_⟩|⟨d,_,h⟩
   . cases h
   . obtain⟨kk,e⟩:=zF hρ h
     simp only[oE,e]
     exact sY kk a3 c w
 cases lo with
 | none =>
  cases h1
  cases hi with
  | none =>
   cases h2
   cases mx with
   | none =>
    rcases h3 with ⟨_,rfl⟩|⟨d,h,_⟩
    . simp
    . cases h
   | some x=>rcases a4 with h|h<;>cases h
  | some y =>
   obtain⟨k2,e2⟩:=zF hρ h2
   cases mx with
   | none =>
    rcases h3 with ⟨_,rfl⟩|⟨d,h,_⟩
    . simp[e2,sY k2 a2]
    . cases h
   | some x =>
    rcases h3 with ⟨h,_⟩|⟨d,_,h⟩
    . cases h
    . obtain⟨kk,e⟩:=zF hρ h
      simp[e,e2,sY kk a3,sY k2 a2]
 | some z =>
  obtain⟨k1,e1⟩:=zF hρ h1
  cases hi with
  | none =>
   cases h2
   cases mx with
   | none =>
    rcases h3 with ⟨_,rfl⟩|⟨d,h,_⟩
    . simp[e1,sY k1 a1]
    . cases h
   | some x=>rcases a4 with h|h<;>cases h
  | some y =>
   obtain⟨k2,e2⟩:=zF hρ h2
   cases mx with
   | none =>
    rcases h3 with ⟨_,rfl⟩|⟨d,h,_⟩
    . simp[e1,e2,sY k2 a2,sY k1 a1]
    . cases h
   | some x =>
    rcases h3 with ⟨h,_⟩|⟨d,_,h⟩
    . cases h
    . obtain⟨kk,e⟩:=zF hρ h
      simp[e,e1,e2,sY kk a3,sY k2 a2,sY k1 a1]
end
end Go.Ex
namespace Go.Ex
open Go Go.Sx
section
variable {P:Program}
theorem GU(E:Env)(b:Nat):kn E b 0=0:=by simp[kn,iY]
theorem isNone_or{α β:Type}{a:Option α}{b:Option β}(h:(a.isNone||b.isSome)=true):a=none\/b.isSome=true:=by
 cases a with
 | none=>exact .inl rfl
 | some x=>right;simpa using h
theorem Ea{ρ:jk}{mx:Option Operand}{c q:Nat}(h:mz ρ mx c=some q):(mx=none/\q=c)\/(∃ d,mx.isSome=true/\mz ρ mx d=some q):=by
 cases mx with
 | none=>cases h;exact .inl ⟨rfl,rfl⟩
 | some x=>exact .inr ⟨c,rfl,h⟩
theorem W2(t:TypeId)(x:Operand)(lo hi mx:Option Operand):kK P (.slice t x lo hi mx):=by
 intro E A A' w ρ m sl r dd ty pos af g h hρ he
 simp only[jt,Ii]at he
 split at he
 . rename_i v hv
   obtain⟨u,hu,e⟩:=map_some he
   cases e
   have h0:=hρ x v hv
   unfold OT at hu
   split at hu
   . rename_i s hT
     split at hu
     . rename_i l hh h1 h2
       cases hb:(Nat.ble l hh&&Nat.ble hh s.size)with
       | false=>rw[hb]at hu;cases hu
       | true =>
        rw[hb]at hu
        cases hu
        rw[zt]at hb
        have b1:=za hb.1
        have b2:=za hb.2
        have hr:=wZ (P:=P) hρ (mx:=none) false h1 h2 (.inl ⟨rfl,rfl⟩) b1 b2 (zp _) (.inl rfl) w
        refine iC.val h ?_ (by simp[nm])
        simp only[xY]at hr
        simp[execOp,h0.1,fT,Instr.sliceAt,Instr.slice,run_underlying hT,hr]
     . cases hu
   . rename_i e b o n c hT
     split at hu
     . rename_i sz hsz
       have hnb:b+1<=A.nf:=by have:=h0.2;simpa[nm]using this
       cases hO:Nat.ble iY c with
       | true =>
        rw[hO]at hu
        simp only[cond_true]at hu
        have hO' := za hO
        split at hu
        . rename_i l hh h1 h2
          have hcap:kn E b c=c-iY+(E b).sl:=by simp[kn,hO']
          cases hb:(Nat.ble l hh&&Nat.ble hh (c-iY)&&Nat.blt l (c-iY))with
          | true =>
           rw[hb]at hu
           simp only[cond_true,Option.some.injEq]at hu
           subst hu
           simp only[zt]at hb
           obtain⟨⟨b1,b2⟩,b3⟩:=hb
           have b1:=za b1
           have b2:=za b2
           have b3:l<c-iY:=by simpa[Nat.blt,uV]using b3
           have hr:=wZ (P:=P) hρ (mx:=none) (cap:=c-iY+(E b).sl) true h1 h2 (.inl ⟨rfl,rfl⟩) b1 o_ (zp _) (.inl rfl) w
           simp only[xY]at hr
           refine iC.val h ?_ (by simpa[nm]using hnb)
           have hcl:kn E b (c-l)=c-iY+(E b).sl-l:=by simp only[kn,if_pos (show iY<=c-l by omega)];omega
           have hne:¬ (c-iY+(E b).sl=l):=by omega
           simp[execOp,h0.1,fT,jd,Instr.sliceAt,Instr.slice,run_underlying hT,hcap,hr,run_sizeOf hsz,hcl,hne,Addr.add_lit,ko]
          | false =>
           rw[hb]at hu
           simp only[cond_false]at hu
           cases hb' : (Nat.beq l 0&&Nat.ble hh (c-iY))with
           | false=>rw[hb']at hu;cases hu
           | true =>
            rw[hb']at hu
            simp only[cond_true,Option.some.injEq]at hu
            subst hu
            rw[zt]at hb'
            have b1:l=0:=z7 hb'.1
            have b2:=za hb'.2
            subst b1
            have hr:=wZ (P:=P) hρ (mx:=none) (cap:=c-iY+(E b).sl) true h1 h2 (.inl ⟨rfl,rfl⟩) (oG _) o_ (zp _) (.inl rfl) w
            simp only[xY]at hr
            refine iC.val h ?_ (by simpa[nm]using hnb)
            simp[execOp,h0.1,fT,jd,Instr.sliceAt,Instr.slice,run_underlying hT,hcap,hr,run_sizeOf hsz,Addr.add_lit]
        . rename_i l hh h1 h2
          have hcap:kn E b c=c-iY+(E b).sl:=by simp[kn,hO']
          split at hu
          . rename_i q h3
            rename_i mx' _ _
            cases hb:(Nat.ble l hh&&Nat.ble hh q&&Nat.ble q (c-iY)&&Nat.blt (q-l) iY&&hi.isSome)with
            | false=>rw[hb]at hu;cases hu
            | true =>
             rw[hb]at hu
             simp only[cond_true,Option.some.injEq]at hu
             subst hu
             simp only[zt]at hb
             obtain⟨⟨⟨⟨b1,b2⟩,b3⟩,b5⟩,b4⟩:=hb
             have b1:=za b1
             have b2:=za b2
             have b3:=za b3
             have b5:q-l<iY:=by simpa[Nat.blt,uV]using b5
             have hr:=wZ (P:=P) hρ (cap:=c-iY+(E b).sl) true h1 h2 (Ea (show mz ρ (some _) (c-iY+(E b).sl)=some q from h3)) b1 b2 o_ (.inr b4) w
             simp only[oE]at hr
             refine iC.val h ?_ (by simpa[nm]using hnb)
             have hc2:kn E b (q-l)=q-l:=by simp only[kn,if_neg (show ¬ iY<=q-l by omega)]
             by_cases hql:q=l
             . simp[execOp,h0.1,fT,jd,Instr.sliceAt,Instr.slice,run_underlying hT,hcap,hr,run_sizeOf hsz,hc2,hql,oO,GU]
             . simp[execOp,h0.1,fT,jd,Instr.sliceAt,Instr.slice,run_underlying hT,hcap,hr,run_sizeOf hsz,hc2,hql,oO,Addr.add_lit,ko]
          . cases hu
        . cases hu
       | false =>
        rw[hO]at hu
        simp only[cond_false]at hu
        have hO' : ¬ iY<=c:=fun hc=>by rw[C9 hc]at hO;cases hO
        split at hu
        . rename_i q l hh h3 h1 h2
          cases hb:(Nat.ble l hh&&Nat.ble hh q&&Nat.ble q c&&(mx.isNone||hi.isSome))with
          | false=>rw[hb]at hu;cases hu
          | true =>
           rw[hb]at hu
           simp only[cond_true,Option.some.injEq]at hu
           subst hu
           simp only[zt]at hb
           obtain⟨⟨⟨b1,b2⟩,b3⟩,b4⟩:=hb
           have b1:=za b1
           have b2:=za b2
           have b3:=za b3
           have hr:=wZ (P:=P) hρ (mx:=mx) (cap:=c) true h1 h2 (Ea h3) b1 b2 b3 (isNone_or b4) w
           refine iC.val h ?_ (by simpa[nm]using hnb)
           have hc1:kn E b c=c:=by simp[kn,hO']
           have hc2:kn E b (q-l)=q-l:=by simp only[kn,if_neg (show ¬ iY<=q-l by omega)]
           by_cases hql:q=l
           . simp[execOp,h0.1,fT,jd,Instr.sliceAt,Instr.slice,run_underlying hT,hc1,hr,run_sizeOf hsz,hc2,hql,oO,GU]
           . simp[execOp,h0.1,fT,jd,Instr.sliceAt,Instr.slice,run_underlying hT,hc1,hr,run_sizeOf hsz,hc2,hql,oO,Addr.add_lit,ko]
        . cases hu
     . cases hu
   . rename_i e hT
     split at hu
     . rename_i sz hsz h3 h1 h2
       cases hb:(mx.isNone||hi.isSome)with
       | false=>rw[hb]at hu;cases hu
       | true =>
        rw[hb]at hu
        cases hu
        have hr:=wZ (P:=P) hρ (mx:=mx) (cap:=0) true h1 h2 (Ea h3) (zp _) (zp _) (zp _) (isNone_or hb) w
        refine iC.val h ?_ (by simp[nm])
        simp[execOp,h0.1,fT,Instr.sliceAt,Instr.slice,run_underlying hT,hr,run_sizeOf hsz]
     . cases hu
   . rename_i n e b o hT
     have hnb:b+1<=A.nf:=by have:=h0.2;simpa[nm]using this
     split at hu
     . rename_i sz q l hh hsz h3 h1 h2
       cases hb:(Nat.ble l hh&&Nat.ble hh q&&Nat.ble q n&&Nat.ble n 9223372036854775807&&(mx.isNone||hi.isSome))with
       | false=>rw[hb]at hu;cases hu
       | true =>
        rw[hb]at hu
        simp only[cond_true,Option.some.injEq]at hu
        subst hu
        simp only[zt]at hb
        obtain⟨⟨⟨⟨b1,b2⟩,b3⟩,b5⟩,b4⟩:=hb
        have b1:=za b1
        have b2:=za b2
        have b3:=za b3
        have b5:=za b5
        have hr:=wZ (P:=P) hρ (mx:=mx) (cap:=n) false h1 h2 (Ea h3) b1 b2 b3 (isNone_or b4) w
        refine iC.val h ?_ (by simpa[nm]using hnb)
        have hc2:kn E b (q-l)=q-l:=by simp only[kn,if_neg (show ¬ iY<=q-l by simp only[iY];omega)]
        by_cases hql:q=l
        . simp[execOp,h0.1,fT,jd,Instr.sliceAt,Instr.sureAddr,run_underlying hT,hr,run_sizeOf hsz,hc2,hql,oO,GU]
        . simp[execOp,h0.1,fT,jd,Instr.sliceAt,Instr.sureAddr,run_underlying hT,hr,run_sizeOf hsz,hc2,hql,oO,Addr.add_lit,ko]
     . cases hu
   . cases hu
 . cases he
end
end Go.Ex
namespace Go.Ex
open Go Go.Sx
section
variable {P:Program}
theorem LD:∀ (l:List Value) (r:List UInt8),mapM' (fun|Value.int .u8 (.ofNat c)=>some c.toUInt8|_=>none) l=some r ->
 ∃ ns:List Int,l=ns.map (.int .u8)/\∀ s:ByteArray,ns.foldl (fun r n=>r.push (UInt8.ofNat n.toNat)) s=⟨s.data++r.toArray⟩
 | [],r,h=>by cases h;exact⟨[],rfl,fun s=>by simp⟩
 | v :: l,r,h=>by
  simp only[mapM']at h
  split at h
  . rename_i y hy
    split at h
    . rename_i r' hr
      cases h
      obtain⟨ns,h1,h2⟩:=LD l r' hr
      split at hy
      . rename_i c
        cases hy
        refine⟨(c:Int) :: ns,by rw[h1];rfl,fun s=>?_⟩
        rw[CC,h2]
        simp[ByteArray.push]
      . cases hy
    . cases h
  . cases h
theorem V1(E:Env)(ns:List Int):(ns.map (Value.int .u8)).map (fT E)=ns.map (Value.int .u8):=by
 rw[Bd];rfl
theorem Ue(src dst:TypeId)(x:Operand):kK P (.convert src dst x):=by
 intro E A A' w ρ m sl r dd ty pos af g h hρ he
 simp only[jt,He]at he
 split at he
 . rename_i v hv
   have h0:=hρ x v hv
   unfold ET at he
   split at he
   . rename_i u k k0 a h1 h2
     cases he
     exact iC.val h (AG (by simpa[fT]using h0.1) h1 h2 rfl) (by simp[nm])
   . rename_i u s h1 h2
     cases he
     refine iC.val h ?_ (by simp[nm])
     have h3:=h0.1
     simp only[fT]at h3
     simp[execOp,h3,convert,run_underlying h1,run_underlying h2,fT]
   . rename_i e hs hd hno2
     split at he
     . rename_i c he1
       cases he
       refine iC.val h ?_ (by simp[nm])
       have h3:=h0.1
       simp only[fT]at h3
       have:=run_convert_bytes_string (P:=P) w src dst e none 0 c hs he1 hd
       simp only[execOp,h3,zj,this]
       simp[Conv.bytesToString,fT]
       rfl
     . rename_i b o n c he1
       split at he
       . rename_i l hl
         obtain⟨r1,hr1,e1⟩:=map_some he
         cases e1
         obtain⟨ns,rfl,h2⟩:=LD l r1 hr1
         obtain⟨h4,h5,h6⟩:=h.read hl
         refine iC.val h ?_ (by simp[nm])
         have h3:=h0.1
         simp only[fT,jd]at h3
         have h7:=run_loadCells_list (P:=P) w ⟨(E b).blk,(E b).sh+o,none⟩ (ns.map (.int .u8)) (fun j u hj=>by rw[Addr.add_lit];exact h6 j u (by rw[V1];exact hj))
         rw[h4]at h7
         have:=run_convert_bytes_string (P:=P) w src dst e (some ⟨(E b).blk,(E b).sh+o,none⟩) n (kn E b c) hs he1 hd
         simp only[execOp,h3,zj,this,run_bytesToString w _ n (kn E b c) ns h7,h2]
         simp[fT]
       . cases he
     . cases he
   . cases he
 . cases he
theorem iC.congr{E:Env}{A A' : AH}{w:World}{s s' : Sem Next}{r:XR}(e:s.run P w=s'.run P w)(h:iC P E A w s' A' r):iC P E A w s A' r:=by
 cases r<;>simp only[iC]at h ⊢ <;> rw[e]<;>exact h
theorem Xf(lt:Int->Int->Bool):∀ (l:List Value) (v u:Value) (k:Nat),rD lt v l=some u->nm v<=k->nm u<=k:=by
 intro l
 induction l with
 | nil=>intro v u k h hn;cases v<;>(simp only[rD,Option.some.injEq]at h;subst h;exact hn)
 | cons y l ih =>
  intro v u k h hn
  cases v<;>try (simp[rD]at h;done)
  cases y<;>try (simp[rD]at h;done)
  simp only[rD]at h
  exact ih _ u k h (by simp[nm])
section
variable {E:Env} {A A' : AH} {w:World} {r:XR} {t u ty:TypeId} {x y:Value} {cs:Array Bool} {vs:List Value} {T:Array TypeId}
theorem Y2(h:Rel E A w)(hn:gW vs<=A.nf)(he:pL P .min vs T.toList A=some (r,A')):iC P E A w (builtin .min T ty cs (vs.map (fT E)).toArray) A' r:=by
 cases vs with
 | nil=>simp[pL,Er]at he
 | cons v vs =>
  simp only[pL,Er]at he
  obtain⟨q,hq,e⟩:=map_some he
  cases e
  simp only[gW,oL]at hn
  refine iC.val h ?_ (Xf _ vs v q _ hq hn.1)
  have:=Tm (P:=P) (fun a b=>decide (a<b)) Builtin.min2 w (fun k k' x y=>by
   simp only[Builtin.min2,zm];by_cases hh:y<x<;>simp[hh]) vs v q E hq
  simp only[builtin,Builtin.min_,zy,zj,this]
  simp
theorem Y5(h:Rel E A w)(he:pL P .len [x] [t] A=some (r,A')):iC P E A w (builtin .len #[t] ty cs #[fT E x]) A' r:=by
 simp only[pL,EF]at he
 split at he
 . rename_i s ht
   cases he
   exact iC.val h (by simp[builtin,Builtin.len_,run_underlying ht,fT,goInt]) (by simp[nm])
 . rename_i e a n c ht
   cases he
   refine iC.val h ?_ (by simp[nm])
   cases a<;>simp[builtin,Builtin.len_,run_underlying ht,fT,goInt]
 . rename_i n e ht
   cases he
   exact iC.val h (by simp[builtin,Builtin.len_,run_underlying ht,fT,goInt]) (by simp[nm])
 . rename_i k e ht
   cases he
   exact iC.val h (by simp[builtin,Builtin.len_,run_underlying ht,fT,goInt]) (by simp[nm])
 . rename_i k e r0 ht
   split at he
   . rename_i es clock hg
     cases he
     have hh:=h.Ad hg
     have hgo:(getObj (E r0).blk).run P w = .ok (.map (es.map (kr E)).toArray clock) w:=by simp[getObj,Sem.run,hh]
     exact iC.val h (by simp[builtin,Builtin.len_,run_underlying ht,fT,goInt,hgo]) (by simp[nm])
   . cases he
 . cases he
theorem EB{sz k:Nat}{l:List Value}(h:Rel E A w)(hs:BL A sz y=some (k,l)) :
 l.length=k*sz/\gW l<=A.nf/\(∀ u∈l,one u=true)/\(∀ w' : World,(Builtin.lenOf (fT E y)).run P w' = .ok k w')/\∀ j,j<=k->(Builtin.firstCells sz j (fT E y)).run P w = .ok ((l.take (j*sz)).map (fT E)).toArray w:=by
 unfold BL at hs
 split at hs
 . rename_i n c
   cases hn:Nat.beq n 0 with
   | false=>rw[hn]at hs;cases hs
   | true =>
    rw[hn]at hs
    cases hs
    have:=z7 hn
    subst this
    exact⟨s_,by simp[gW],s_,fun w' => by simp[Builtin.lenOf,fT],fun j hj=>by simp[Builtin.firstCells,fT]⟩
 . rename_i b o n c
   cases hn:Nat.beq n 0 with
   | true =>
    rw[hn]at hs
    cases hs
    have:=z7 hn
    subst this
    refine⟨s_,by simp[gW],s_,fun w' => by simp[Builtin.lenOf,fT],fun j hj=>?_⟩
    have:j=0:=by omega
    subst this
    simp[Builtin.firstCells,fT,loadCells,loadCellsFrom]
   | false =>
    rw[hn]at hs
    simp only[cond_false]at hs
    split at hs
    . rename_i l' hl
      cases ho:l'.all one with
      | false=>rw[ho]at hs;cases hs
      | true =>
       rw[ho]at hs
       cases hs
       obtain⟨h4,h5,h6⟩:=h.read hl
       refine⟨h4,h5,fun u hu=>zz.1 ho u hu,fun w' => by simp[Builtin.lenOf,fT],fun j hj=>?_⟩
       have hlen:((l.take (j*sz)).map (fT E)).length=j*sz:=by
        rw[zu,l5,h4]
        exact CU (wL _ hj)
       have:=run_firstCells_some (P:=P) w sz j ⟨(E b).blk,(E b).sh+o,none⟩ k (kn E b c) ((l.take (j*sz)).map (fT E)) hlen (fun i v hi=>by
        rw[Addr.add_lit]
        refine h6 i v ?_
        rw[List.map_take,qN]at hi
        split at hi
        . exact hi
        . cases hi)
       simpa[fT,jd]using this
    . cases hs
 . rename_i s
   cases hn:Nat.beq sz 1 with
   | false=>rw[hn]at hs;cases hs
   | true =>
    rw[hn]at hs
    cases hs
    have:=z7 hn
    subst this
    refine⟨s_,?_,?_,fun w' => by simp[Builtin.lenOf,fT],fun j hj=>?_⟩
    . refine lq.2 fun v hv=>?_
      obtain⟨c,_,rfl⟩:=jW.1 hv
      simp[nm]
    . intro u hu
      obtain⟨c,_,rfl⟩:=jW.1 hu
      rfl
    . simp only[Builtin.firstCells,fT,zm]
      congr 1
      apply Array.ext'
      simp[List.map_take,fT,Function.comp_def]
 . cases hs
end
end
end Go.Ex
namespace Go.Ex
open Go Go.Sx
section
variable {P:Program} {E:Env} {A A' : AH} {w:World} {r:XR} {t u ty:TypeId} {x y:Value} {cs:Array Bool} {sz n:Nat} {news:List Value}
theorem Oe{d1:TypeDesc}(h:Rel E A w)(hs:BL A sz y=some (n,news))(hk:(match d1 with | .slice _=>true | .string=>true|_=>false)=true)(hd:P.underlying u=some d1) :
 _root_.Go.Src P sz u (fT E y) n (news.map (fT E)) w:=by
 obtain⟨h1,h2,h3,h4,h5⟩:=EB (P:=P) h hs
 have h6:=(EB (P:=P) h.drew.1 hs).2.2.2.2 n (zp _)
 have h7:=h5 n (zp _)
 rw[sL o_]at h6 h7
 refine⟨?_,h4,h7,h6,by simpa using h1,fun q hq=>?_⟩
 . split at hk
   . exact .inl ⟨_,hd⟩
   . exact .inr hd
   . cases hk
 . obtain⟨v,hv,rfl⟩:=jW.1 hq
   rw[N7,<-Oq];exact h3 v hv
theorem GD(z:Array Value)(n:Nat):(Builtin.zeroCells z n).toList.length=n*z.size:=by simp[Builtin.zeroCells]
theorem Ia{T:TypeId}{vs zs:List Value}{s:Sem Next}{v:Value}{sl:Nat}(h:Rel E A w)(hn:gW vs<=A.nf)(hz:zs.length=sl*sz)
 (hs:s.run P w = .ok (.value (fT (lD E A.nf ⟨w.heap.size,0,sl⟩) v)) (w.drew.alloc (.cells (vs.map (fT E)++zs).toArray T))) (hv:nm v<=A.nf+1):iC P E A w s (A.add (.cells vs T (some sz) false)) (.val v):=by
 have:=h.drew.1.new (o:=.cells vs T (some sz) false) (x:=⟨w.heap.size,0,sl⟩) (w' := w.drew.alloc (.cells (vs.map (fT E)++zs).toArray T)) (c:=.cells (vs.map (fT E)++zs).toArray T) (heap_alloc_new w.drew _) (zp _)
  ⟨[],zs,s_,rfl,fun q e=>by cases e;exact hz⟩ hn (gB.alloc [] w.drew _)
 exact⟨_,_,hs,this.1,h.drew.2.trans this.2,hv⟩
theorem Xb{b o k:Nat}{cs old:List Value}{T:TypeId}{op:Option Nat}{ro:Bool}(hg:A.get b=some (.cells cs T op ro))(ht:qt cs o k=some old):s9 A b o k=some old:=by
 rw[Mr,hg];exact ht
theorem Mj{a b:Nat}(h:Nat.ble a b=false):b<a:=by
 rcases qH b a with h1|h1
 . exact h1
 . rw[C9 h1]at h;cases h
theorem Lr{c cb:Nat}(h:uy c=some cb):c=cb+iY:=by
 unfold uy at h
 generalize iY=O at h ⊢
 cases hb:Nat.ble O c with
 | false=>rw[hb]at h;cases h
 | true =>
  rw[hb]at h
  simp only[cond_true,Option.some.injEq]at h
  have:=za hb
  omega
theorem Lu{c:Nat}(h:uy c=none)(E:Env)(b:Nat):kn E b c=c:=by
 unfold uy at h
 unfold kn
 generalize iY=O at h ⊢
 cases hb:Nat.ble O c with
 | true=>rw[hb]at h;cases h
 | false=>rw[if_neg (by have:=Mj hb;omega)]
theorem Bw(E:Env)(b cb:Nat):kn E b (cb+iY)=cb+(E b).sl:=by
 unfold kn
 generalize iY=O
 rw[if_pos (Nat.le_add_left O cb),Nat.add_sub_cancel]
theorem Wj(E:Env)(b c:Nat):uK c<=kn E b c:=by
 unfold uK
 cases h:uy c with
 | none=>simp only;rw[Lu h];exact zp _
 | some cb=>have:=Lr h;subst this;rw[Bw];exact Nat.le_add_right _ _
theorem IC{k:Nat}{a b:List Value}(h1:gW a<=k)(h2:gW b<=k):gW (a++b)<=k:=lq.2 fun v hv=>by
 rcases zr.1 hv with h|h
 . exact lq.1 h1 v h
 . exact lq.1 h2 v h
theorem MY{e:TypeId}{i:TypeInfo}{z:Value}{b o m C:Nat}{old:List Value}(h:Rel E A w)(ht:P.underlying t=some (.slice e))(hi:P.info? e=some i)(hzz:i.zero=some z)
 (hsrc:_root_.Go.Src P i.size u (fT E y) n (news.map (fT E)) w) (hr:s9 A b o (m*i.size)=some old) (hg:C<m+n) (hb:(m+n)*i.bytes<=140737488355328) (h63:m+n<=9223372036854775807) :
 (builtin .append #[t,u] ty cs #[.slice (some ⟨(E b).blk,(E b).sh+o,none⟩) m C,fT E y]).run P w =
  .ok (.value (fT (lD E A.nf ⟨w.heap.size,0,grownCap w (m+n) C e-(m+n)⟩) (.slice (some ⟨A.nf,0,none⟩) (m+n) (m+n+iY)))) (w.drew.alloc (.cells ((old++news).map (fT E)++(Builtin.zeroCells z.cells (grownCap w (m+n) C e-(m+n))).toList).toArray e)):=by
 obtain⟨g1,g2,g3⟩:=h.drew.1.read hr
 have hold:=run_firstCells_some (P:=P) w.drew i.size m ⟨(E b).blk,(E b).sh+o,none⟩ m C (old.map (fT E)) (by simpa using g1) (fun j v hj=>by rw[Addr.add_lit];exact g3 j v hj)
 have hrun:=run_append_grow_src (P:=P) w t u ty e i z ht hi hzz (some ⟨(E b).blk,(E b).sh+o,none⟩) m C (old.map (fT E)) hold (fT E y) n (news.map (fT E)) hsrc hg o_ (growslice_fits hg hb)
 have hge:=grownCap_ge w (m+n) C e
 simp only[builtin,zj,hrun,zd,zm]
 simp only[fT,jd,Bw,lg,Nat.add_sub_of_le hge,nF]
 congr 3
 apply Array.ext'
 simp[lH]
theorem Su{b o m cb:Nat}{cs' old:List Value}{T:TypeId}(h:Rel E A w)(hg:A.get b=some (.cells cs' T (some sz) false))(hold:qt cs' o (m*sz)=some old)(hol' : o+m*sz<=cs'.length)(hend:o+cb*sz=cs'.length)
 (hfit:m+n<=cb+(E b).sl) (hnl:news.length=n*sz) (hnn:gW news<=A.nf) (hno:gW old<=A.nf) (h1:∀ q∈news.map (fT E),q.oneCell' = true) :
 ∃ w', (storeCells ⟨(E b).blk,(E b).sh+o+m*sz,none⟩ (news.map (fT E))).run P w = .ok () w' /\
  Rel (lD E A.nf ⟨(E b).blk,(E b).sh+o,cb+(E b).sl-(m+n)⟩) ((A.jT b).add (.cells (old++news) T (some sz) false)) w' /\
  To E A w (lD E A.nf ⟨(E b).blk,(E b).sh+o,cb+(E b).sl-(m+n)⟩) ((A.jT b).add (.cells (old++news) T (some sz) false)) w' := by
 obtain⟨c0,hc0,pre,post,rfl,hpl,hpost⟩:=h.obj b _ hg
 have hpost:=hpost _ rfl
 have hoe:=(wX hold).1
 have hmul:(m+n)*sz<=(cb+(E b).sl)*sz:=wL _ hfit
 rw[ot,ot cb]at hmul
 have hstore:=run_storeCells_at P (E b).blk ((E b).sh+o+m*sz) T (news.map (fT E)) 0 _ w hc0 (by simp only[List.size_toArray,zn,zu,hpl,hpost,hnl];omega) h1
 simp only[nF,zu]at hstore
 obtain⟨tl,htl⟩:∃ tl,(pre++cs'.map (fT E)++post).drop ((E b).sh+o+m*sz+news.length)=tl:=⟨_,rfl⟩
 have htll:tl.length=(cb+(E b).sl-(m+n))*sz:=by
  rw[<-htl]
  simp only[wU,zn,zu,hpl,hpost,hnl,Nat.sub_mul,ot]
  omega
 have htk' : (pre++cs'.map (fT E)++post).take ((E b).sh+o+m*sz)=(pre++(cs'.take o).map (fT E))++old.map (fT E):=by
  rw[lH,Bi,sL o_,hpl,show (E b).sh+o+m*sz-(E b).sh=o+m*sz by omega,Ku (by simpa using hol'),<-List.map_take,lH,<-qM,List.take_add,<-hoe]
 have hrow:(pre++cs'.map (fT E)++post).take ((E b).sh+o+m*sz)++news.map (fT E)++tl=(pre++(cs'.take o).map (fT E))++(old++news).map (fT E)++tl:=by
  rw[htk', qM];simp only[lH]
 have htk:=h.take (x:=⟨(E b).blk,(E b).sh+o,cb+(E b).sl-(m+n)⟩) (o' := .cells (old++news) T (some sz) false)
  (w' := w.setRow (E b).blk (List.toArray ((pre++(cs'.take o).map (fT E))++(old++news).map (fT E)++tl)))
  (c:=.cells (List.toArray ((pre++(cs'.take o).map (fT E))++(old++news).map (fT E)++tl)) T (0,0))
  hg rfl rfl (setRow_heap w _ _ _ T (0,0) hc0) ⟨_,_,rfl,by simp[hpl];omega,fun q e=>by cases e;exact htll⟩ (IC hno hnn) (gB.setRow w _ _)
 refine⟨_,?_,htk.1,htk.2⟩
 rw[hstore]
 congr 2
 apply Array.ext'
 simp only[List.take_toArray,htl,<-hrow]
theorem MG{v:Value}(h:Rel E A w)(hx:nm x<=A.nf)(hy:nm y<=A.nf)(he:BM P A t u x y=some (v,A')):iC P E A w (builtin .append #[t,u] ty cs #[fT E x,fT E y]) A' (.val v):=by
 unfold BM at he
 split at he
 . rename_i e d1 ht hd1
   split at he
   . rename_i sz' by_ z hk hsz hby hz
     simp only at he
     obtain⟨i,hi,hzz,h0,hlen⟩:=qZ hz
     have hbi:i.bytes=by_:=by unfold Dc at hby;rw[hi]at hby;simpa using hby
     have hsi:i.size=sz' + 1:=by unfold mH at hsz;rw[hi]at hsz;simpa using hsz
     split at he
     . rename_i n news hs
       have hsrc:=Oe h hs hk hd1
       have hso:=EB (P:=P) h hs
       rw[<-hsi]at hsrc
       cases hn:Nat.beq n 0 with
       | true =>
        rw[hn]at he
        cases he
        have:=z7 hn
        subst this
        refine iC.val h ?_ (by simp[nm])
        rcases hsrc.kind with ⟨e', hk'⟩|hk' <;> simp[builtin,Builtin.append_,run_underlying ht,run_underlying hk', sizeOf,typeInfo,hi,hsrc.len,hsrc.cells,fT]
       | false =>
        rw[hn]at he
        simp only[cond_false]at he
        cases hb:(Nat.ble (n*by_) 140737488355328&&Nat.ble n 9223372036854775807)with
        | false=>rw[hb]at he;cases he
        | true =>
         rw[hb]at he
         cases he
         rw[zt]at hb
         have b1:=za hb.1
         have b2:=za hb.2
         have hn0:0<n:=by rcases wK n with e|e;(subst e;simp at hn);exact e
         have hrun:=run_append_grow_src (P:=P) w t u ty e i z ht hi hzz none 0 0 [] (run_firstCells_none w.drew _ _ _ _) (fT E y) n (news.map (fT E)) hsrc o_ o_ (growslice_fits o_ (by rw[hbi];simpa using b1))
         simp only[jF,nC]at hrun
         have hge:=grownCap_ge w n 0 e
         refine Ia (zs:=(Builtin.zeroCells z.cells (grownCap w n 0 e-n)).toList) (sl:=grownCap w n 0 e-n) h hso.2.1 (by rw[GD,<-hsi,<-hlen];simp) ?_ (by simp[nm])
         simp only[builtin,zj,fT,hrun,zd,zm]
         simp only[jd,Bw,lg,Nat.add_sub_of_le hge,nF]
         congr 3
         apply Array.ext'
         simp
     . rename_i n news b o m c hs
       have hsrc:=Oe h hs hk hd1
       have hso:=EB (P:=P) h hs
       rw[<-hsi]at hsrc
       have hnb:b+1<=A.nf:=by simpa[nm]using hx
       have hcb:uK c<=kn E b c:=Wj E b c
       cases hroom:Nat.ble (m+n) (uK c)with
       | true =>
        rw[hroom]at he
        simp only[cond_true]at he
        have hroom:=za hroom
        split at he
        . rename_i A1 hw
          cases he
          obtain⟨w', g1,g2,g3,g4⟩:=Lt (P:=P) h hso.2.1 hw
          refine⟨E,w', ?_,g2,g3,by simp only[XR.Wf,nm,g4];exact hnb⟩
          rw[<-ko,<-hsi]at g1
          have hroom' : m+n<=kn E b c:=z1 hroom hcb
          rcases hsrc.kind with ⟨e', hk'⟩|hk' <;> simp[builtin,Builtin.append_,run_underlying ht,run_underlying hk', sizeOf,typeInfo,hi,hsrc.len,hsrc.cells,fT,jd,hroom', Addr.add_lit,g1,XR.next]
        . cases he
       | false =>
        rw[hroom]at he
        simp only[cond_false]at he
        have hroom:=Mj hroom
        cases hb:(Nat.ble ((m+n)*by_) 140737488355328&&Nat.ble (m+n) 9223372036854775807)with
        | false=>rw[hb]at he;cases he
        | true =>
         rw[hb]at he
         simp only[cond_true]at he
         rw[zt]at hb
         have b1:=za hb.1
         have b2:=za hb.2
         split at he
         . rename_i cs' T op ro hg
           split at he
           . rename_i old hold
             rw[<-hsi]at hold
             have hrd:=Xb hg hold
             cases hO:uy c with
             | none =>
              rw[hO]at he
              cases he
              have hcc:kn E b c=c:=Lu hO E b
              have hroom:c<m+n:=by unfold uK at hroom;rw[hO]at hroom;exact hroom
              have:=MY (C:=c) (ty:=ty) (cs:=cs) h ht hi hzz hsrc hrd hroom (by rw[hbi];exact b1) b2
              refine Ia (zs:=(Builtin.zeroCells z.cells (grownCap w (m+n) c e-(m+n))).toList) (sl:=grownCap w (m+n) c e-(m+n)) h (IC (h.read hrd).2.1 hso.2.1) (by rw[GD,<-hsi,<-hlen];simp) ?_ (by simp[nm])
              simp only[fT,jd,hcc]at this ⊢
              exact this
             | some cb =>
              rw[hO]at he
              have hroom:cb<m+n:=by unfold uK at hroom;rw[hO]at hroom;exact hroom
              have hce:=Lr hO
              subst hce
              have hcc:kn E b (cb+iY)=cb+(E b).sl:=Bw E b cb
              simp only at he
              cases hq:(!ro&&Nat.beq (o+(cb)*(sz' + 1)) cs'.length&&Nat.beq T e&&E9 op (sz' + 1))with
              | false=>rw[hq]at he;cases he
              | true =>
               rw[hq]at he
               cases he
               simp only[zt]at hq
               obtain⟨⟨⟨q1,q2⟩,q3⟩,q4⟩:=hq
               have q1:ro=false:=by cases ro<;>simp_all
               have q2:=z7 q2
               have q3:=z7 q3
               subst q1
               subst q3
               obtain⟨s0,rfl⟩:∃ s0,op=some s0:=by cases op with|none=>cases q4|some s=>exact⟨s,rfl⟩
               have q4:s0=sz' + 1:=z7 q4
               subst q4
               by_cases hfit:m+n<=cb+(E b).sl
               . have hol:=(wX hold).2
                 have hoe:=(wX hold).1
                 rw[hsi]at hold hol hoe
                 have hol' : o+m*(sz' + 1)<=cs'.length:=by
                  rw[<-q2]
                  have:m*(sz' + 1)<=(cb)*(sz' + 1)\/(cb)*(sz' + 1)<m*(sz' + 1):=by omega
                  rcases this with h3|h3
                  . omega
                  . exfalso
                    rw[hoe]at hol
                    simp only[l5,wU,<-q2]at hol
                    omega
                 obtain⟨w', hstore,hr2,ht2⟩:=Su (P:=P) h hg hold hol' q2 hfit hso.1 hso.2.1 (h.read hrd).2.1 hsrc.one
                 refine⟨_,w', ?_,hr2,ht2,by simp[XR.Wf,nm,AH.add,AH.jT]⟩
                 have hfit' : m+n<=kn E b (cb+iY):=by rw[hcc];exact hfit
                 have hcells:=hsrc.cells
                 have hlenx:=hsrc.len
                 rw[hsi]at hcells
                 have hv' : fT (lD E A.nf ⟨(E b).blk,(E b).sh+o,cb+(E b).sl-(m+n)⟩) (.slice (some ⟨A.nf,0,none⟩) (m+n) (m+n+iY)) = .slice (some ⟨(E b).blk,(E b).sh+o,none⟩) (m+n) (cb+(E b).sl):=by
                  simp only[fT,jd,Bw,lg,Nat.add_sub_of_le hfit,nF]
                 simp only[XR.next,hv']
                 rcases hsrc.kind with ⟨e', hk'⟩|hk' <;> simp[builtin,Builtin.append_,run_underlying ht,run_underlying hk', sizeOf,typeInfo,hi,hlenx,hsi,hcells,fT,jd,hfit,hcc,Addr.add_lit,hstore]
               . have hs2:=h.jT b
                 have:=MY (C:=cb+(E b).sl) (ty:=ty) (cs:=cs) h ht hi hzz hsrc hrd o_ (by rw[hbi];exact b1) b2
                 obtain⟨E', w', a1,a2,a3,a4⟩:=Ia (P:=P) (sz:=sz' + 1) (T:=T) (zs:=(Builtin.zeroCells z.cells (grownCap w (m+n) (cb+(E b).sl) T-(m+n))).toList) (sl:=grownCap w (m+n) (cb+(E b).sl) T-(m+n)) (s:=builtin .append #[t,u] ty cs #[fT E (.slice (some ⟨b,o,none⟩) m (cb+iY)),fT E y]) (v:=.slice (some ⟨A.nf,0,none⟩) (m+n) (m+n+iY)) hs2.1
                  (IC (h.read hrd).2.1 hso.2.1:gW (old++news)<=A.nf) (by rw[GD,<-hsi,<-hlen];simp) (by
                   simp only[fT,jd,hcc]at this ⊢
                   exact this) (by simp[nm,AH.jT])
                 exact⟨E', w', a1,a2,hs2.2.trans a3,a4⟩
           . cases he
         . cases he
     . cases he
   . cases he
 . cases he
theorem iC.same{A'' : AH}{s:Sem Next}{v:Value}(h:iC P E A w s A'' (.val v))(hs:mg A' A''):iC P E A w s A' (.val v):=by
 obtain⟨E', w', a1,a2,a3,a4⟩:=h
 exact⟨E', w', a1,a2.same hs,a3.same hs,by rw[hs.1];exact a4⟩
theorem Si{v:Value}(he:HD P A t u x y=some (v,A')):∃ A'', BM P A t u x y=some (v,A'')/\mg A' A'' := by
 unfold HD at he
 split at he
 . rename_i b m c
   split at he
   . rename_i cb n0 base d tr T op hO hg
     cases hmc:Nat.ble m cb with
     | false=>rw[hmc]at he;cases he
     | true =>
     rw[hmc]at he
     simp only[cond_true]at he
     split at he
     . rename_i e d1 ht hd1
       split at he
       . rename_i sz' by_ z hk hsz hby hz
         split at he
         . rename_i n news hs
           cases hr:Nat.ble (m+n) cb with
           | true=>rw[hr]at he;cases he
           | false =>
            rw[hr]at he
            simp only[cond_false]at he
            cases hb:(Nat.ble ((m+n)*by_) 140737488355328&&Nat.ble (m+n) 9223372036854775807&&(Nat.beq (cb*(sz' + 1)) n0&&(Nat.beq T e&&E9 op (sz' + 1))))with
            | false=>rw[hb]at he;cases he
            | true =>
             rw[hb]at he
             simp only[cond_true,Option.some.injEq,Prod.mk.injEq]at he
             obtain⟨rfl,rfl⟩:=he
             rw[zt]at hb
             obtain⟨hb1,hb2⟩:=hb
             simp only[zt]at hb2
             obtain⟨q1,q2,q3⟩:=hb2
             have hn0:=z7 q1
             have hmm:=za hmc
             have hfit:m*(sz' + 1)<=n0:=by rw[<-hn0];exact wL _ hmm
             have hget:A.get b=some (.cells (oV n0 base d tr) T op false):=by unfold AH.get;rw[hg];rfl
             have htake:qt (oV n0 base d tr) 0 (m*(sz' + 1))=some (Aj base d tr (m*(sz' + 1)) 0):=by
              rw[LK,jF,C9 hfit];rfl
             have hcap:uK c=cb:=by unfold uK;rw[hO]
             refine⟨(A.jT b).add (.cells (Aj base d tr (m*(sz' + 1)) 0++news) e (some (sz' + 1)) false),?_,rfl,fun b' => ?_⟩
             . unfold BM
               simp only[ht,hd1,hk,hsz,hby,hz,hs,hcap,hr,cond_false,hb1,cond_true,hget,htake,hO,zD,jF,q1,q2,q3,Bool.not_false,Bool.and_self]
             . rw[VE,qo]
               by_cases e1:b' = (A.jT b).nf
               . rw[if_pos e1,if_pos e1]
                 simp only[PO.to]
                 congr 2
                 refine nE fun i=>?_
                 rw[xm,HN]
                 by_cases h1:i<m*(sz' + 1)
                 . rw[if_pos o_,tS (by simpa using h1),kX,List.getElem?_range' h1]
                   unfold rowAt
                   rw[xg,if_neg (show ¬ (m*(sz' + 1)<=i/\i<m*(sz' + 1)+news.length) by omega)]
                   simp
                 . rw[wE (by simp;omega)]
                   simp only[zu,List.length_range']
                   by_cases h2:i<m*(sz' + 1)+news.length
                   . rw[if_pos h2]
                     unfold rowAt
                     rw[xg,if_pos (show m*(sz' + 1)<=i/\i<m*(sz' + 1)+news.length by omega)]
                     have:news[i-m*(sz' + 1)]? = some news[i-m*(sz' + 1)]:=zo o_
                     rw[this]
                   . rw[if_neg h2,nk o_]
               . rw[if_neg e1,if_neg e1]
         . cases he
       . cases he
     . cases he
   . cases he
 . cases he
theorem VT{v:Value}(h:Rel E A w)(hx:nm x<=A.nf)(hy:nm y<=A.nf)(he:IE P A t u x y=some (v,A')):iC P E A w (builtin .append #[t,u] ty cs #[fT E x,fT E y]) A' (.val v):=by
 unfold IE at he
 split at he
 . rename_i r hr
   cases he
   obtain⟨A'', h1,h2⟩:=Si hr
   exact(MG h hx hy h1).same h2
 . exact MG h hx hy he
end
end Go.Ex
namespace Go.Ex
open Go Go.Sx
section
variable {P:Program}
theorem YO{b:Builtin}{E:Env}{A A' : AH}{w:World}{r:XR}{ty:TypeId}{cs:Array Bool}{vs:List Value}{T:List TypeId}(h:Rel E A w)(h2:gW vs<=A.nf)(he:pL P b vs T A=some (r,A')) :
 iC P E A w (builtin b T.toArray ty cs (vs.map (fT E)).toArray) A' r:=by
 have he' := he
 cases b<;>try (simp[pL]at he;done)
 all_goals simp only[pL]at he
 . unfold Mg at he
   split at he
   . obtain⟨p,hp,e⟩:=map_some he
     cases e
     simp only[gW,oL]at h2
     exact VT h h2.1 h2.2.1 hp
   . cases he
 . unfold EF at he
   split at he
   . exact Y5 h he'
   . cases he
 . exact Y2 (T:=T.toArray) h h2 he'
theorem T6(b:Builtin)(az:Array Operand)(T:Array TypeId):kK P (.call ⟨.builtin b,az,T⟩):=by
 intro E A A' w ρ m sl r dd ty pos af g h hρ he
 simp only[jt,BU,Jx]at he
 split at he
 . rename_i vs hvs
   obtain⟨h1,h2⟩:=uq hρ hvs
   have key:az.map (ev m sl)=(vs.map (fT E)).toArray:=by apply Array.ext'; simp[h1]
   have:=YO (P:=P) (ty:=ty) (cs:=az.map fun | .const _=>true|_=>false) h h2 he
   refine iC.congr ?_ this
   simp only[execOp,resolve,invoke,zj,zm,zd,key,C6]
   rfl
 . cases he
theorem DJ(op:Op):kK P op:=by
 cases op with
 | move x=>exact XL x
 | assign x=>exact VS x
 | pick c a b=>exact YE c a b
 | alloc t=>exact Xa t
 | box t x=>exact YY t x
 | build t parts=>exact Wr t parts
 | buildSlice t n parts=>exact RP t n parts
 | load t a=>exact X7 t a
 | store t a x=>exact Xt t a x
 | nilCheck x=>exact Th x
 | binOp o t x y e=>exact Y9 o t x y e
 | unOp o t x=>exact aau o t x
 | convert s d x=>exact Ue s d x
 | makeInterface t x=>exact Rv t x
 | makeFunc fn fi ca=>exact Ti fn fi ca
 | makeMap t r=>exact Uu t r
 | makeSlice t l c=>exact Sc t l c
 | slice t x lo hi mx=>exact W2 t x lo hi mx
 | fieldAddr s x f=>exact Sn s x f
 | field t x f=>exact Wi t x f
 | indexAddr t x ix=>exact Sm t x ix
 | index t x ix=>exact Xv t x ix
 | lookup t x ix ok=>exact UX t x ix ok
 | mapUpdate t m k x=>exact Sj t m k x
 | mapEntry t m k=>exact SM t m k
 | entryStore t m s x=>exact R4 t m s x
 | extract x i=>exact TE x i
 | call c =>
  obtain⟨ce,az,T⟩:=c
  cases ce with
  | builtin b=>exact T6 b az T
  | value f=>exact Wo f az T
  | invoke x name=>exact Vo x name az T
 | _=>intro E A A' w ρ m sl r dd ty pos af g h hρ he;simp[jt]at he
end
end Go.Ex
namespace Go.Ex
open Go Go.Sx
section
variable {P:Program} {E E' E'' : Env} {A A' A'' : AH} {w w' w'' : World} {n:Nat} {σ σ' : Tr Value} {r:Option Nat}
def uZ(k:Nat)(ds:List Nat):Prop:=∀ d∈ds,d<k
theorem jV.mono{k k' : Nat}(h:jV k σ)(hk:k<=k'):jV k' σ:=fun t v hv=>z1 (h t v hv) hk
theorem uZ.mono{k k' : Nat}{ds:List Nat}(h:uZ k ds)(hk:k<=k'):uZ k' ds:=fun d hd=>z6 (h d hd) hk
theorem To.slots(h:To E A w E' A' w')(hs:jV A.nf σ):slots n E' σ=slots n E σ:=Ds h.ext hs
theorem Ul{k:Nat}{ds:List Nat}(h:∀ b,b<k->E' b=E b)(hd:uZ k ds):oB E' ds=oB E ds :=
 A8 fun d hm=>by rw[h d (hd d hm)]
theorem To.oB{ds:List Nat}(h:To E A w E' A' w')(hd:uZ A.nf ds):oB E' ds=oB E ds:=Ul h.ext hd
theorem tf(h:Rel E A w)(hs:jV A.nf σ):Ak E A.nf (mE n σ) n (Go.Ex.slots n E σ):=by
 intro x v hx
 cases x with
 | tmp t =>
  simp only[mE]at hx
  by_cases ht:t<n
  . rw[s5 ht]at hx
    simp only[cond_true]at hx
    simp only[ev,s5 ht,cond_true,sS,if_pos ht]
    cases hg:σ.get t with
    | none=>rw[hg]at hx;cases hx;exact⟨rfl,by simp[undef,nm,jL,gW]⟩
    | some u=>rw[hg]at hx;cases hx;exact⟨rfl,hs t _ hg⟩
  . rw[BF ht]at hx
    cases hx
    simp only[ev,BF ht,cond_false]
    exact⟨rfl,by simp[undef,nm,jL,gW]⟩
 | const u =>
  simp only[mE]at hx
  cases hb:Nat.beq (nm u) 0 with
  | false=>rw[hb]at hx;cases hx
  | true =>
   rw[hb]at hx
   cases hx
   have:=z7 hb
   exact⟨(B0 v this E).symm,o_⟩
 | global g =>
  simp only[mE]at hx
  cases hb:Nat.blt g GB with
  | false=>rw[hb]at hx;cases hx
  | true =>
   rw[hb]at hx
   cases hx
   have hlt:g<GB:=by simpa[Nat.blt,uV]using hb
   have:=h.low
   exact⟨by simp[ev,ptr,fT,jd,h.oe g hlt],by simp only[ptr,nm];omega⟩
 | func f =>
  cases hx
  exact⟨by simp[ev,fT,nK,kP,lW],by simp[nm,jL,gW]⟩
theorem N0(n:Nat)(E:Env)(σ:Tr Value)(d:Option Nat)(v:Value)(ds:List Deferred):(Fr n (Go.Ex.slots n E σ) ds).put d (fT E v)=Fr n (Go.Ex.slots n E (pY σ d v)) ds:=by
 rw[vK]
 refine Ee ds fun t ht=>?_
 rw[sS,if_pos ht]
 cases d with
 | none=>simp only[jJ,pY,sS,if_pos ht]
 | some i =>
  simp only[jJ,w5,pY,Tr.ur,sS,if_pos ht]
  by_cases h:i=t
  . subst h;simp
  . rw[if_neg h,if_neg (Ne.symm h)]
theorem jV.put{k:Nat}{d:Option Nat}{v:Value}(h:jV k σ)(hv:nm v<=k):jV k (pY σ d v):=by
 intro t u hu
 cases d with
 | none=>exact h t u hu
 | some i =>
  simp only[pY,Tr.ur]at hu
  split at hu
  . cases hu;exact hv
  . exact h t u hu
theorem H9(k:Nat):nm undef<=k:=by simp[undef,nm,jL,gW]
theorem Un(E:Env)(v:Value)(want:Bool):Ao (fT E v) want=Ao v want:=by
 cases v<;>first
  | rfl
  | (rename_i o;cases o<;>rfl)
  | (rename_i o _ _;cases o<;>rfl)
theorem Mh(h:Rel E A w)(hs:jV A.nf σ)(ops:List Oper)(g:Option (Nat×Bool)):gy ops.toArray n (Go.Ex.slots n E σ) g=s8 ops n σ g:=by
 cases g with
 | none=>rfl
 | some p =>
  obtain⟨j,want⟩:=p
  simp only[gy,s8]
  cases r7 ops j with
  | none=>rfl
  | some d =>
   simp only
   obtain⟨v,hv⟩:∃ v,mE n σ (.tmp d)=some v:=by
    simp only[mE]
    cases Nat.blt d n with
    | false=>exact⟨_,rfl⟩
    | true=>cases σ.get d with
     | none=>exact⟨_,rfl⟩
     | some u=>exact⟨_,rfl⟩
   rw[hv,(tf h hs _ v hv).1,Un]
def oP(P:Program)(c:Code)(q:Bool)(n:Nat)(σ:Tr Value)(ds:List Nat)(A:AH)(e:Exit)(σ' : Tr Value)(ds' : List Nat)(A' : AH):Prop :=
 ∀ (E:Env) (w:World) (r:Option Nat),(q=true->r=none)->Rel E A w->jV A.nf σ->uZ A.nf ds->∀ Q:Exit->Act->World->Prop,
  (∀ E' w', Rel E' A' w' -> To E A w E' A' w' -> jV A'.nf σ' -> uZ A'.nf ds' -> Q e (Fx n E' σ' ds') w')->WP r P c Q (Fx n E σ ds) w
def HC(P:Program)(k:Nat)(c:Code)(q:Bool)(n:Nat)(σ:Tr Value)(ds:List Nat)(A:AH)(e:Exit)(σ' : Tr Value)(ds' : List Nat)(A' : AH):Prop :=
 ∀ (E:Env) (w:World) (r:Option Nat),(q=true->r=none)->Rel E A w->jV A.nf σ->uZ A.nf ds->∀ Q:Exit->Act->World->Prop,
  (∀ E' w', Rel E' A' w' -> To E A w E' A' w' -> jV A'.nf σ' -> uZ A'.nf ds' -> Q e (Fx n E' σ' ds') w')->AV r P c Q k (Fx n E σ ds) w
def Left(E:Env)(A:AH)(w:World)(v:Value)(A' : AH)(v' : Value)(w' : World):Prop:=∃ E', v' = fT E' v/\Rel E' A' w' /\ To E A w E' A' w' /\ nm v<=A'.nf
def zT(P:Program)(f:FuncId)(args:List Value)(A:AH)(v:Value)(A' : AH):Prop :=
 ∀ (E:Env) (w:World),Rel E A w->gW args<=A.nf->CR P f (args.map (fT E)).toArray w (Left E A w v A')
def Im(P:Program)(l:Nat)(args:List Value)(A:AH)(v:Value)(A' : AH):Prop :=
 ∀ (E:Env) (w:World),Rel E A w->l<A.nf->gW args<=A.nf->YR P (E l).blk (args.map (fT E)) w (Left E A w v A')
def Y0(P:Program)(k:Nat):Gn->Out->Prop
 | .code c q n σ ds A,.code e σ' ds' A' => oP P c q n σ ds A e σ' ds' A'
 | .rounds c q n σ ds A,.code e σ' ds' A' => HC P k c q n σ ds A e σ' ds' A'
 | .call f args A,.call v A' => zT P f args A v A'
 | .yield l args A,.call v A' => Im P l args A v A'
 | _,_=>True
def Aq(P:Program)(k:Nat)(rec:Rec):Prop:=∀ j o,rec j=some o->Y0 P k j o
theorem Df{ty:TypeId}{op:Op}{ρ:jk}{x:XR×AH}(h:jt P ty op ρ A=some x):nr op=true:=by
 cases op<;>first|rfl|(simp[jt]at h;done)
theorem Vb{ops:Array Oper}{Q:Exit->Act->World->Prop}{rest:List Oper}{s:List (Nat×Value)}{ds:List Deferred}{o:Oper}{l:Nat}{vl:List Value}{R:Value->World->Prop}(hg:gy ops n s o.guard=true)(hd:nr o.op=true)
 (he:(execOp (ev n s) o).run P w=(Instr.yield l vl.toArray).run P w) (hy:YR P l vl w R)
 (K:∀ v w', R v w' -> WL none P ops Q rest ((Fr n s ds).put o.dst v) w'):WL none P ops Q (o :: rest) (Fr n s ds) w:=by
 obtain⟨f,tmps,assign,body,h1,h2⟩:=hy
 refine⟨?_⟩
 unfold wpListIn
 rw[nW,hg,if_pos rfl]
 refine⟨fun _ _=>trivial,?_⟩
 rw[semAt_eq (uc hd),qn, he,h1]
 refine⟨fun h=>by simp[FW]at h,RoundIn.mono h2 ?_⟩
 rintro e w' ⟨v,rfl,hR⟩
 exact(K v w' hR).out
theorem WR{ops:Array Oper}{Q:Exit->Act->World->Prop}{rest:List Oper}{s:List (Nat×Value)}{ds:List Deferred}{o:Oper}(hg:gy ops n s o.guard=false)
 (K:WL r P ops Q rest ((Fr n s ds).put o.dst undef) w):WL r P ops Q (o :: rest) (Fr n s ds) w:=by
 refine⟨?_⟩
 unfold wpListIn
 rw[nW]
 simp only[hg]
 exact⟨fun _ _=>trivial,K.out⟩
theorem Tg{k:Nat}{rec:Rec}{q:Bool}{ops:List Oper}(hrec:Aq P k rec)(hq:q=true->r=none):∀ (l:List Oper) (σ:Tr Value) (A:AH) (σ' : Tr Value) (A' : AH),AD P rec q ops n l σ A=some (σ', A') ->
 ∀ (E:Env) (w:World),Rel E A w->jV A.nf σ->∀ (ds:List Deferred) (Q:Exit->Act->World->Prop),
 (∀ E' w', Rel E' A' w' -> To E A w E' A' w' -> jV A'.nf σ' -> Q .normal (Fr n (Go.Ex.slots n E' σ') ds) w')->WL r P ops.toArray Q l (Fr n (Go.Ex.slots n E σ) ds) w:=by
 intro l
 induction l with
 | nil =>
  intro σ A σ' A' he E w h hs ds Q K
  rw[UZ]at he
  cases he
  exact OQ (K E w h (To.refl E A w) hs)
 | cons o l ih =>
  intro σ A σ' A' he E w h hs ds Q K
  rw[Uq]at he
  have hg:=Mh (n:=n) h hs ops o.guard
  cases ht:s8 ops n σ o.guard with
  | false =>
   rw[ht]at he hg
   simp only[cond_false]at he
   refine WR hg ?_
   rw[<-BD E,N0]
   exact ih _ A σ' A' he E w h (hs.put (H9 _)) ds Q K
  | true =>
   rw[ht]at he hg
   simp only[cond_true]at he
   split at he
   . rename_i v A1 hd
     unfold Bc at hd
     -- what follows
     have next:∀ (E1:Env) (w1:World),Rel E1 A1 w1->To E A w E1 A1 w1->nm v<=A1.nf->WL r P ops.toArray Q l ((Fr n (Go.Ex.slots n E σ) ds).put o.dst (fT E1 v)) w1:=by
      intro E1 w1 h1 t1 hv
      rw[<-t1.slots hs,N0]
      exact ih _ A1 σ' A' he E1 w1 h1 ((hs.mono t1.nf).put hv) ds Q fun E' w' a b c=>K E' w' a (t1.trans b) c
     cases hx:jt P o.type o.op (mE n σ) A with
     | none=>rw[hx]at hd;cases hd
     | some p =>
      obtain⟨xr,A2⟩:=p
      have hnd:=Df hx
      have hdoes:=DJ (P:=P) o.op E A A2 w (mE n σ) n (Go.Ex.slots n E σ) xr o.dst o.type o.pos o.after o.guard h (tf h hs) hx
      rw[hx]at hd
      cases xr with
      | val u =>
       cases hd
       obtain⟨E1,w1,hr,h1,t1,hv⟩:=hdoes
       exact I9 hg hnd hr (next E1 w1 h1 t1 hv)
      | unit =>
       cases hd
       obtain⟨E1,w1,hr,h1,t1,_⟩:=hdoes
       refine zQ hg hnd hr ?_
       have:=next E1 w1 h1 t1 (H9 _)
       rw[BD]at this
       exact this
      | enter f args =>
       simp only at hd
       split at hd
       . rename_i u A3 hc
         cases hd
         obtain⟨E1,w1,hr,h1,t1,hv⟩:=hdoes
         have hcall:zT P f args A2 v A1:=hrec _ _ hc
         refine Ic hg hnd hr (Calls.mono (hcall E1 w1 h1 hv) ?_)
         rintro e w2 ⟨v', rfl,E2,rfl,h2,t2,hv2⟩
         exact next E2 w2 h2 (t1.trans t2) hv2
       . cases hd
      | yield l0 args =>
       cases hqq:q with
       | false=>rw[hqq]at hd;cases hd
       | true =>
        rw[hqq]at hd
        simp only[cond_true]at hd
        split at hd
        . rename_i u A3 hc
          cases hd
          have hr0:=hq hqq
          subst hr0
          obtain⟨rfl,hl,hn,hr⟩:=hdoes
          have hyield:Im P l0 args A2 v A1:=hrec _ _ hc
          refine Vb hg hnd hr (hyield E w h hl hn) ?_
          rintro v' w2 ⟨E2,rfl,h2,t2,hv2⟩
          exact next E2 w2 h2 t2 hv2
        . cases hd
   . cases he
end
end Go.Ex
namespace Go.Ex
open Go Go.Sx
section
variable {P:Program} {E E' E'' : Env} {A A' A'' : AH} {w w' w'' : World} {n b:Nat} {σ σ' : Tr Value} {r:Option Nat} {o o' : AO} {ds ds' : List Nat}
theorem Rel.Ke(h:Rel E A w)(hb:A.get b=some o)(hro:o.ro=false)(hc:gB [(E b).blk] w w'):Rel E (A.jT b) w' /\ To E A w E (A.jT b) w' := by
 have g:∀ b1 o1,(A.jT b).get b1=some o1->b1≠b/\A.get b1=some o1:=by
  intro b1 o1 h1
  rw[BB]at h1
  split at h1
  . cases h1
  . rename_i e;exact⟨e,h1⟩
 refine⟨⟨fun b1 o1 h1=>?_,fun b1 b2 o1 o2 h1 h2 e=>h.inj b1 b2 o1 o2 (g _ _ h1).2 (g _ _ h2).2 e,fun b1 o1 h1=>h.wf b1 o1 (g _ _ h1).2,h.oe,h.low⟩,
  ⟨zp _,fun _ _=>rfl,hc.os,hc.tape,hc.output,hc.size,fun x hx hn=>hc.block x hx (by simp;exact fun e=>hn b o hb hro e.symm),fun b1 o1 h1=>.inl ⟨b1,o1,(g _ _ h1).2,rfl,id⟩⟩⟩
 obtain⟨e1,h1⟩:=g b1 o1 h1
 obtain⟨c1,hc1,hl1⟩:=h.obj b1 o1 h1
 exact⟨c1,(hc.block _ (h.lt h1) (by simp;exact fun e=>e1 (h.inj b1 b o1 o h1 hb e))).trans hc1,hl1⟩
theorem Rel.again{c:Obj}(h:Rel E A w)(hb:b<A.nf)(hfree:∀ b1 o1,A.get b1=some o1->(E b1).blk≠(E b).blk)(hw:w.heap[(E b).blk]? = some c)(hl:oU E (E b) o c)(hn:o.Wf A.nf):Rel E (A.set b o) w:=by
 have g:∀ b1 o1,(A.set b o).get b1=some o1->(b1=b/\o1=o)\/(b1≠b/\A.get b1=some o1):=by
  intro b1 o1 h1
  rw[xw]at h1
  split at h1
  . rename_i e;cases h1;exact .inl ⟨e,rfl⟩
  . rename_i e;exact .inr ⟨e,h1⟩
 refine⟨fun b1 o1 h1=>?_,fun b1 b2 o1 o2 h1 h2 e=>?_,fun b1 o1 h1=>?_,h.oe,h.low⟩
 . rcases g b1 o1 h1 with ⟨rfl,rfl⟩|⟨_,h1⟩
   . exact⟨c,hw,hl⟩
   . exact h.obj b1 o1 h1
 . rcases g b1 o1 h1 with ⟨e1,_⟩|⟨e1,h1⟩
   . rcases g b2 o2 h2 with ⟨e2,_⟩|⟨e2,g2⟩
     . rw[e1,e2]
     . rw[e1]at e;exact absurd e.symm (hfree b2 o2 g2)
   . rename_i g1
     rcases g b2 o2 h2 with ⟨e2,_⟩|⟨e2,g2⟩
     . rw[e2]at e;exact absurd e (hfree b1 o1 h1)
     . exact h.inj b1 b2 o1 o2 h1 g2 e
 . rcases g b1 o1 h1 with ⟨rfl,rfl⟩|⟨_,h1⟩
   . exact⟨hb,hn⟩
   . exact h.wf b1 o1 h1
theorem To.again{oc:AO}(h:To E A w E' A' w')(hb:A.get b=some oc)(hbn:b<A.nf)(hro:oc.ro=false):To E A w E' (A'.set b o) w' := by
 refine⟨h.nf,h.ext,h.os,h.tape,h.output,h.size,h.blk,fun b1 o1 h1=>?_⟩
 rw[xw]at h1
 split at h1
 . rename_i e;subst e;exact .inl ⟨b1,oc,hb,by rw[h.ext b1 hbn],fun _=>hro⟩
 . exact h.mine b1 o1 h1
theorem NS{K:Act->World->Prop}{Q:Exit->Act->World->Prop}{e:Exit}{a:Act}(he:e ≠ .normal)(h:Q e a w):Exit.then K Q e a w:=by
 cases e<;>first|exact h|exact absurd rfl he
theorem RE{t:TypeId}{p u:Value}(h:Rel E A w)(he:Am P A t p=some (.val u)):∃ ad,fT E p = .pointer (some ad)/\(loadVar t ad).run P w = .ok (fT E u) w/\nm u<=A.nf:=by
 unfold Am at he
 split at he
 . rename_i b o
   refine⟨⟨(E b).blk,(E b).sh+o,none⟩,rfl,?_⟩
   split at he
   . rename_i d hd
     cases ha:xO d with
     | true =>
      rw[ha]at he
      simp only[cond_true]at he
      split at he
      . rename_i n hn
        split at he
        . rename_i l hl
          simp only[Option.some.injEq,XR.val.injEq]at he
          subst he
          obtain⟨h1,h2,h3⟩:=h.read hl
          have:=run_loadCells_list (P:=P) w ⟨(E b).blk,(E b).sh+o,none⟩ (l.map (fT E)) (fun j u hj=>by rw[Addr.add_lit];exact h3 j u hj)
          rw[zu,h1]at this
          refine⟨?_,by simp only[nm,jL];exact h2⟩
          simp only[loadVar,zj,zm,zd,qU hd,<-zO,ha,run_sizeOf hn,this,if_true,fT,vE]
        . cases he
      . cases he
     | false =>
      rw[ha]at he
      simp only[cond_false]at he
      split at he
      . rename_i v hu
        simp only[Option.some.injEq,XR.val.injEq]at he
        subst he
        obtain⟨h1,h2,h3⟩:=h.read hu
        have hc:=h3 0 (fT E v) s_
        refine⟨?_,by simp only[gW]at h2;omega⟩
        simp only[loadVar,zj,qU hd,<-zO,ha,zd]
        simp only[nF]at hc
        simp[load,Sem.run,hc]
      . cases he
   . cases he
 . cases he
theorem S3(h:Rel E A w)(hs:jV A.nf σ):∀ (l:List ResultVar) (vs:List Value),vZ P n σ A l=some vs->gW vs<=A.nf/\(l.mapM (Bt (Fr n (Go.Ex.slots n E σ) []).tmps)).run P w = .ok (vs.map (fT E)) w:=by
 intro l
 induction l with
 | nil=>intro vs he;cases he;exact⟨by simp[gW],s_⟩
 | cons x l ih =>
  intro vs he
  cases x with
  | tmp t =>
   simp only[vZ]at he
   split at he
   . rename_i v vs' hv hvs
     cases he
     obtain⟨h1,h2⟩:=ih vs' hvs
     have h0:=tf (n:=n) h hs _ v hv
     refine⟨by simp only[gW,oL];exact⟨h0.2,h1⟩,?_⟩
     have:=vQ (P:=P) (n:=n) (s:=Go.Ex.slots n E σ) (w:=w) (v:=fT E v) (x:=.tmp t) h0.1
     simp only[List.mapM_cons,zj,this,zd,h2,zm,zy]
   . cases he
  | cell a t =>
   simp only[vZ]at he
   split at he
   . rename_i p hp
     split at he
     . rename_i v vs' hv hvs
       cases he
       obtain⟨h1,h2⟩:=ih vs' hvs
       have h0:=tf (n:=n) h hs _ p hp
       obtain⟨ad,h3,h4,h5⟩:=RE (P:=P) h hv
       refine⟨by simp only[gW,oL];exact⟨h5,h1⟩,?_⟩
       have:=vQ (P:=P) (n:=n) (s:=Go.Ex.slots n E σ) (w:=w) (v:=fT E v) (x:=.cell a t) ⟨ad,h0.1.trans h3,h4⟩
       simp only[List.mapM_cons,zj,this,zd,h2,zm,zy]
     . cases he
   . cases he
theorem RK{fn:Func}{vs:List Value}(h:Rel E A w)(hs:jV A.nf σ)(he:vZ P n σ A fn.results.toList=some vs) :
 nm (ri vs)<=A.nf/\(results fn (Fr n (Go.Ex.slots n E σ) []).tmps).run P w = .ok (fT E (ri vs)) w:=by
 obtain⟨h1,h2⟩:=S3 (P:=P) h hs _ vs he
 have h3:(fn.results.mapM (Bt (Fr n (Go.Ex.slots n E σ) []).tmps)).run P w = .ok (vs.map (fT E)).toArray w:=by
  rw[Array.mapM_eq_mapM_toList]
  simp[zj,h2]
 rw[GO]
 simp only[zj,h3,zd]
 cases vs with
 | nil=>exact⟨by simp[ri,nm,jL,gW],by simp[ri,fT,kP,lW]⟩
 | cons v vs =>
  cases vs with
  | nil=>exact⟨by simpa[ri,gW]using h1,by simp[ri]⟩
  | cons u vs=>exact⟨by simpa[ri,nm,jL]using h1,by simp[ri,fT,kP,lW,rX]⟩
theorem RM{fn:Func}{tmps:Array Value}{R:Ending->World->Prop}:∀ (ds:List Nat) (A A' : AH) (w:World),xx A ds=some A' -> Rel E A w ->
 (∀ w', Rel E A' w' -> To E A w E A' w' -> ∃ v,(results fn tmps).run P w' = .ok v w' /\ R (.returned v) w')->LeavesInM (FW none) 0 P fn tmps R (oB E ds) .returning w:=by
 intro ds
 induction ds with
 | nil =>
  intro A A' w he h K
  cases he
  exact K w h (To.refl E A w)
 | cons d ds ih =>
  intro A A' w he h K
  simp only[xx]at he
  split at he
  . rename_i hg
    obtain⟨c,hc,rfl⟩:=h.obj d _ hg
    have hh:=h.Ke (w' := w.putObj (E d).blk (.deferred none)) hg rfl (gB.putObj w _ _)
    refine⟨s_,.inl ⟨(E d).blk,_,rfl,run_takeDeferred hc,?_⟩⟩
    exact ih (A.jT d) A' _ he hh.1 fun w' a b=>K w' a (hh.2.trans b)
  . cases he
theorem LG:∀ (ds:List Nat) (A A' : AH),xx A ds=some A' -> A'.nf=A.nf
 | [],A,A', h=>by cases h;rfl
 | d :: ds,A,A', h=>by
  simp only[xx]at h
  split at h
  . exact(LG ds (A.jT d) A' h).trans rfl
  . cases h
theorem HF:∀ (vs:List Value) (i:Nat) (σ:Tr Value) (t:Nat),(vY vs i σ).get t=if i<=t/\t<i+vs.length then vs[t-i]? else σ.get t
 | [],i,σ,t=>by simp[vY];intro h;omega
 | v :: vs,i,σ,t=>by
  rw[vY,HF vs (i+1) _ t]
  by_cases h1:i+1<=t/\t<i+1+vs.length
  . rw[if_pos h1,if_pos (by simp;omega)]
    obtain⟨k,rfl⟩:∃ k,t=i+1+k:=⟨t-(i+1),o_⟩
    rw[show i+1+k-(i+1)=k by omega,show i+1+k-i=k+1 by omega]
    simp
  . rw[if_neg h1,Tr.ur]
    by_cases h2:t=i
    . subst h2;simp
    . rw[if_neg h2,if_neg (by simp;omega)]
theorem Wm{args:List Value}(hn:args.length<=n):Fr n (uM (args.map (fT E)) 0) []=Fx n E (vY args 0 .e) []:=by
 refine Ee [] fun t ht=>?_
 rw[sS,if_pos ht,Mz _ 0 t (oG _),HF]
 simp only[yM,jF,oG,true_and,kX]
 by_cases h:t<args.length
 . simp[h]
 . simp[h,Tr.get];rfl
theorem Wx{args:List Value}{k:Nat}(h:gW args<=k):jV k (vY args 0 .e):=by
 intro t v hv
 rw[HF]at hv
 split at hv
 . exact lq.1 h v (ze hv)
 . cases hv
theorem MX{k:Nat}:∀ (ps:List Nat) (vs:List Value) (σ:Tr Value),jV k σ->gW vs<=k->jV k (qu ps vs σ)
 | [],_,σ,h,_=>by simpa[qu]using h
 | p :: ps,[],σ,h,_=>by simpa[qu]using h
 | p :: ps,v :: vs,σ,h,hv=>by
  simp only[gW,oL]at hv
  rw[qu]
  exact MX ps vs _ (jV.put (d:=some p) h hv.1) hv.2
theorem M9(n:Nat)(E:Env):∀ (ps:List Nat) (vs:List Value) (σ:Tr Value) (s:List (Nat×Value)),(∀ t,t<n->Sx.look s t=Sx.look (Go.Ex.slots n E σ) t)->∀ t,t<n->Sx.look (qC ps (vs.map (fT E)) s) t=Sx.look (Go.Ex.slots n E (qu ps vs σ)) t
 | [],vs,σ,s,h,t,ht=>by cases vs<;>simpa[qC,qu]using h t ht
 | p :: ps,[],σ,s,h,t,ht=>by simpa[qC,qu]using h t ht
 | p :: ps,v :: vs,σ,s,h,t,ht=>by
  simp only[zy,qC,qu]
  refine M9 n E ps vs _ _ (fun t ht=>?_) t ht
  simp only[w5,sS,if_pos ht,Tr.ur]
  by_cases h2:p=t
  . subst h2;simp
  . rw[if_neg h2,if_neg (Ne.symm h2),h t ht,sS,if_pos ht]
end
end Go.Ex
namespace Go.Ex
open Go Go.Sx
section
variable {P:Program} {E E' E'' : Env} {A A' A'' : AH} {w w' w'' : World} {n b:Nat} {σ σ' : Tr Value} {r:Option Nat} {o o' : AO} {ds ds' : List Nat}
def Jy(P:Program)(reg:uW):Prop:=∀ (k:Nat) (rec:Rec),Aq P k rec->∀ (q:Bool) (ops:List Oper) (n:Nat) (σ:Tr Value) (A:AH) (σ' : Tr Value) (A' : AH),reg rec q ops n σ A=some (σ', A') ->
 ∀ (E:Env) (w:World) (r:Option Nat) (id:Nat),(q=true->r=none)->Rel E A w->jV A.nf σ->∀ (ds:List Deferred) (Q:Exit->Act->World->Prop),
  (∀ E' w', Rel E' A' w' -> To E A w E' A' w' -> jV A'.nf σ' -> Q .normal (Fr n (Go.Ex.slots n E' σ') ds) w')->WP r P (.region id ops.toArray true) Q (Fr n (Go.Ex.slots n E σ) ds) w
theorem Rel.other(h:Rel E A w)(hc:gB [b] w w')(hfree:∀ b1 o1,A.get b1=some o1->(E b1).blk≠b):Rel E A w' :=
 ⟨fun b1 o1 h1=>by
  obtain⟨c1,hc1,hl1⟩:=h.obj b1 o1 h1
  exact⟨c1,(hc.block _ (h.lt h1) (by simpa using hfree b1 o1 h1)).trans hc1,hl1⟩,h.inj,h.wf,h.oe,h.low⟩
theorem S7{k:Nat}{rec:Rec}{f:FuncId}{args:List Value}{v:Value}{fn:Func}{c:Code}{e:Exit}{σ:Tr Value}{vs:List Value}(hf:P.funcs[f]? = some fn)(hb:fn.body=some c)(hn:Nat.ble args.length fn.ntmps=true)
 (hc:oP P c true fn.ntmps (vY args 0 .e) [] A e σ ds A') (he:Jl e=true) (hst:xx A' ds=some A'') (hres:vZ P fn.ntmps σ A'' fn.results.toList=some vs):zT P f args A (ri vs) A'' := by
 intro E w h hnm
 have hn' := za hn
 refine Ey hf hb rfl (by rw[zu];exact hn) ?_
 rw[Wm hn']
 refine hc E w none (fun _=>rfl) h (Wx hnm) (fun d hd=>by cases hd) _ fun E' w' h' t' hs' hd' => ?_
 have key:LeavesInM (FW none) 0 P fn (Fx fn.ntmps E' σ ds).tmps (fun e w'' => ∃ v,e = .returned v/\Left E A w (ri vs) A'' v w'') (oB E' ds) .returning w' := by
  refine RM ds A' A'' w' hst h' fun w2 h2 t2=>?_
  obtain⟨g1,g2⟩:=RK (P:=P) (fn:=fn) (n:=fn.ntmps) h2 (by rw[LG ds A' A'' hst];exact hs') hres
  exact⟨_,g2,_,rfl,E', rfl,h2,t'.trans t2,g1⟩
 cases e<;>first|exact key|cases he
def Vi(lo:AO):Exit->Bool->AO->Prop
 | .normal,b,o=>b=true/\o=lo
 | .ret,b,o=>b=false/\o = .done none
 | .exit i,b,o=>b=false/\o = .done (some i)
 | _,_,_=>False
theorem GZ{l:Nat}{args ps:_}{assign body:Code}{dd n2 dd2:Nat}{σ2 σ3:Tr Value}{ps2:List Nat}{assign2 body2:Code}{e:Exit}{bb:Bool}{oo:AO}(hg:A.get l=some (.loop n σ ps assign body dd))(hlen:args.length=ps.length)
 (h1:oP P assign false n (qu ps args σ) [] A .normal σ' [] A') (hg' : A'.get l=some (.loop n2 σ2 ps2 assign2 body2 dd2)) (h2:oP P body false n σ' [] (A'.jT l) e σ3 [] A'') (hre:Vi (.loop n2 σ2 ps2 assign2 body2 dd2) e bb oo) :
 Im P l args A (.bool bb) (A''.set l oo):=by
 intro E w h hl hn
 obtain⟨c,hc,fn,ds0,rfl⟩:=h.obj l _ hg
 refine⟨_,_,_,_,run_yield hc (by simpa using hlen),roundIn_of_wpIn trivial ?_⟩
 show assign.wpIn (FW (some (E l).blk)) 0 P _ { tmps:=((ps.toArray.zip (args.map (fT E)).toArray).foldl (fun(t:Array Value) (q:Nat×Value)=>t.setIfInBounds q.1 q.2) (Fr n (Go.Ex.slots n E σ) ds0).tmps),defers:=[] } w
 rw[Ml (n:=n) (ds:=ds0) ps (args.map (fT E)) (Go.Ex.slots n E σ)]
 have hfr:({ tmps:=(Fr n (qC ps (args.map (fT E)) (Go.Ex.slots n E σ)) ds0).tmps,defers:=[] }:Act)=Fx n E (qu ps args σ) []:=by
  show Fr n (qC ps (args.map (fT E)) (Go.Ex.slots n E σ)) []=Fr n (Go.Ex.slots n E (qu ps args σ)) []
  exact Ee [] fun t ht=>M9 n E ps args σ _ (fun _ _=>rfl) t ht
 rw[hfr]
 refine h1 E w (some (E l).blk) (fun h=>by cases h) h (MX ps args σ (h.wf l _ hg).2.1 hn) (fun d hd=>by cases hd) _ fun E1 w1 r1 t1 s1 _=>?_
 have hl1:E1 l=E l:=t1.ext l hl
 obtain⟨c1,hc1,fn1,ds1,rfl⟩:=r1.obj l _ hg'
 have hwf1:=(r1.wf l _ hg').2
 rw[hl1]at hc1
 obtain⟨bz,hbz⟩:∃ bz:Loop,bz={ state:=.busy,pending:=none,fn:=fn1,tmps:=(Fr n2 (Go.Ex.slots n2 E1 σ2) ds1).tmps,params:=ps2.toArray,assign:=assign2,body:=body2,defers:=(E1 dd2).blk }:=⟨_,rfl⟩
 refine⟨w1.putObj (E l).blk (.loop bz),by rw[hbz];exact run_beginRound hc1 rfl,?_⟩
 have hh:=r1.Ke (w' := w1.putObj (E l).blk (.loop bz)) hg' rfl (by rw[hl1];exact gB.putObj w1 _ _)
 refine h2 E1 _ (some (E l).blk) (fun h=>by cases h) hh.1 s1 (fun d hd=>by cases hd) _ fun E2 w3 r3 t3 s3 _=>?_
 have hnf1:l<A'.nf:=(r1.wf l _ hg').1
 have hl2:E2 l=E l:=(t3.ext l hnf1).trans hl1
 have hlt:(E l).blk<w1.heap.size:=by have:=r1.lt hg'; rwa [hl1]at this
 have hput:(w1.putObj (E l).blk (.loop bz)).heap[(E l).blk]? = some (.loop bz):=by simp[World.putObj,hlt]
 have hfree:∀ b1 o1,A''.get b1=some o1->(E2 b1).blk≠(E l).blk:=by
  intro b1 o1 hb1 e
  rcases t3.mine b1 o1 hb1 with ⟨c,oc,hc', he,_⟩|hs
  . rw[BB]at hc'
    split at hc'
    . cases hc'
    . rename_i hne
      exact hne (r1.inj c l oc _ hc' hg' (by rw[hl1,<-he,e]))
  . have:(E l).blk<(w1.putObj (E l).blk (.loop bz)).heap.size:=by simpa[World.putObj]using hlt
    omega
 have hc3:w3.heap[(E l).blk]? = some (.loop bz):=by
  rw[<-hput]
  refine t3.blk _ (by simpa[World.putObj]using hlt) fun b1 o1 hb1 hro e=>?_
  rw[BB]at hb1
  split at hb1
  . cases hb1
  . rename_i hne
    exact hne (r1.inj b1 l o1 _ hb1 hg' (by rw[hl1,e]))
 have hlt3:(E l).blk<w3.heap.size:=(z8.1 hc3).1
 -- the end of the round
 have fin:∀ (jump:Option Code) (o2:AO),oU E2 (E2 l) o2 (.loop { bz with state:=if jump.isNone then .ready else .done,pending:=jump })->o2.Wf A''.nf ->
  ∃ v w', (Instr.endRound (E l).blk jump).run P w3 = .ok v w' /\ ∃ v', Ending.returned v = .returned v' /\ Left E A w (.bool jump.isNone) (A''.set l o2) v' w' := by
  intro jump o2 hlies hwf
  refine⟨_,_,run_endRound jump hc3,_,rfl,E2,rfl,?_,?_,by simp[nm]⟩
  . have r4:=r3.other (gB.putObj w3 (E l).blk (.loop { bz with state:=if jump.isNone then .ready else .done,pending:=jump })) hfree
    exact r4.again (z6 hnf1 t3.nf) (fun b1 o1 hb1=>by rw[hl2];exact hfree b1 o1 hb1) (c:=.loop { bz with state:=if jump.isNone then .ready else .done,pending:=jump }) (by rw[hl2];simp[World.putObj,hlt3]) hlies hwf
  . have tt:=t1.trans (hh.2.trans t3)
    have t5:To E A w E2 A'' (w3.putObj (E l).blk (.loop { bz with state:=if jump.isNone then .ready else .done,pending:=jump })):=by
     have ch:=gB.putObj w3 (E l).blk (.loop { bz with state:=if jump.isNone then .ready else .done,pending:=jump })
     refine⟨tt.nf,tt.ext,ch.os.trans tt.os,ch.tape.trans tt.tape,ch.output.trans tt.output,z1 tt.size ch.size,fun x hx hnx=>?_,tt.mine⟩
     exact(ch.block x (z6 hx tt.size) (by simp;exact fun e=>hnx l _ hg rfl e.symm)).trans (tt.blk x hx hnx)
    exact t5.again hg hl rfl
 cases e with
 | normal =>
  obtain⟨rfl,rfl⟩:=hre
  refine fin none _ ⟨fn1,ds1,?_⟩ (hwf1.mono t3.nf)
  rw[hbz,Ds t3.ext hwf1.1,t3.ext dd2 hwf1.2]
  rfl
 | ret =>
  obtain⟨rfl,rfl⟩:=hre
  exact fin (some .ret) _ ⟨_,rfl,rfl,rfl⟩ trivial
 | exit i =>
  obtain⟨rfl,rfl⟩:=hre
  exact fin (some (.exit i)) _ ⟨_,rfl,rfl,rfl⟩ trivial
 | _=>exact hre.elim
theorem SN{id:Nat}{Q:Exit->Act->World->Prop}{e:Exit}{a:Act}(he:∀ i,e ≠ .exit i)(h:Q e a w):Exit.inBlock id Q e a w:=by
 cases e<;>first|exact h|exact absurd rfl (he _)
def Vn:AO->Exit->Prop
 | .loop ..,e=>e = .normal
 | .done none,e=>e = .ret
 | .done (some i),e=>e = .exit i
 | _,_=>False
theorem GY{f:FuncId}{fi ca:Array Value}{x:Operand}{ps:Array Tmp}{assign body:Code}{v:Value}(hx:mE n σ x=some (.func (.func f) fi ca))(hen:enters P f=true)
 (hc:zT P f (fi.toList++[.func (.yield (A.nf+1)) #[] #[]]++ca.toList) ((A.add .sD).add (.loop n σ ps.toList assign body A.nf)) v A') {oo:AO} {e0:Exit} (hg:A'.get (A.nf+1)=some oo) (hre:Vn oo e0) :
 oP P (.rangeFunc x ps assign body) true n σ ds A e0 σ (A.nf :: ds) (A'.jT (A.nf+1)):=by
 intro E w r hq h hs hd Q K
 have hr:=hq rfl
 subst hr
 have h0:=tf (n:=n) h hs x _ hx
 obtain⟨fi⟩:=fi
 obtain⟨ca⟩:=ca
 have hfn:=h0.2
 simp only[nm,jL,oL]at hfn
 have hev:ev n (Go.Ex.slots n E σ) x = .func (.func f) (fi.map (fT E)).toArray (ca.map (fT E)).toArray:=by
  rw[h0.1];simp[fT,nK,kP,rX]
 refine wpIn_rangeFunc fun fn _=>?_
 have n1:=h.new (o:=.sD) (x:=⟨w.heap.size,0,0⟩) (w' := w.alloc (.deferred (some []))) (c:=.deferred (some [])) (World.alloc_heap_new w _) (zp _) rfl trivial (gB.alloc [] w _)
 have hs1:slots n (lD E A.nf ⟨w.heap.size,0,0⟩) σ=slots n E σ:=n1.2.slots hs
 have n2:=n1.1.new (o:=.loop n σ ps.toList assign body A.nf) (x:=⟨w.heap.size+1,0,0⟩) (w' := (w.alloc (.deferred (some []))).alloc (.loop ⟨.ready,none,fn,(Fx n E σ ds).tmps,ps,assign,body,w.heap.size⟩)) (c:=.loop ⟨.ready,none,fn,(Fx n E σ ds).tmps,ps,assign,body,w.heap.size⟩)
  (by have:=World.alloc_heap_new (w.alloc (.deferred (some []))) (.loop ⟨.ready,none,fn,(Fx n E σ ds).tmps,ps,assign,body,w.heap.size⟩);simpa using this) s_
  ⟨fn,oB E ds,by rw[hs1,lg];simp[Fx]⟩ ⟨hs.mono (by simp[AH.add]),by simp[AH.add]⟩ (gB.alloc [] _ _)
 have tt:=n1.2.trans n2.2
 have hnf:((A.add .sD).add (.loop n σ ps.toList assign body A.nf)).nf=A.nf+2:=rfl
 have hnf1:(A.add .sD).nf=A.nf+1:=rfl
 rw[hnf1]at n2 tt
 have hargs:(fi++[Value.func (.yield (A.nf+1)) #[] #[]]++ca).map (fT (lD (lD E A.nf ⟨w.heap.size,0,0⟩) (A.nf+1) ⟨w.heap.size+1,0,0⟩))=fi.map (fT E)++[Value.func (.yield (w.heap.size+1)) #[] #[]]++ca.map (fT E):=by
  have e1:=G0 (k:=A.nf) tt.ext hfn.2.1
  have e2:=G0 (k:=A.nf) tt.ext hfn.2.2
  simp only[qM,e1,e2,zy,yK,fT,nK,lg,kP,lW]
 have hcall:=hc _ _ n2.1 (by
  rw[hnf]
  refine lq.2 fun u hu=>?_
  simp only[zr,mj]at hu
  rcases hu with (hu|hu)|hu
  . exact z1 (lq.1 hfn.2.1 u hu) o_
  . subst hu;simp[nm,jL,gW]
  . exact z1 (lq.1 hfn.2.2 u hu) o_)
 simp only[hargs]at hcall
 refine⟨w.heap.size+1,_,_,⟨.fn (.func f) (ca.map (fT E)).toArray,(fi.map (fT E)++[Value.func (.yield (w.heap.size+1)) #[] #[]]).toArray⟩,((w.alloc (.deferred (some []))).alloc (.loop ⟨.ready,none,fn,(Fx n E σ ds).tmps,ps,assign,body,w.heap.size⟩)),f,(fi.map (fT E)++[Value.func (.yield (w.heap.size+1)) #[] #[]]++ca.map (fT E)).toArray,((w.alloc (.deferred (some []))).alloc (.loop ⟨.ready,none,fn,(Fx n E σ ds).tmps,ps,assign,body,w.heap.size⟩)),run_enterLoop_outer fn _ _ _ _,?_,fun _ _=>trivial,?_,fun h=>by simp[FW]at h,?_⟩
 . have:(Fx n E σ ds).eval=ev n (Go.Ex.slots n E σ):=qn _ _ _
   rw[this]
   simp only[resolve,rangeCall,Deferred.ofValue,hev]
   simp[ev]
 . have:=Dz hen ((fi.map (fT E)++[Value.func (.yield (w.heap.size+1)) #[] #[]]++ca.map (fT E)).toArray) ((w.alloc (.deferred (some []))).alloc (.loop ⟨.ready,none,fn,(Fx n E σ ds).tmps,ps,assign,body,w.heap.size⟩))
   simp only[invoke]
   simpa using this
 . refine rV.2 (Calls.mono hcall ?_)
   rintro e w3 ⟨v', rfl,E3,rfl,r3,t3,hv3⟩
   obtain⟨rc,jump,hc3,hst,hpd,hjump⟩:∃ (rc:Loop) (jump:Option Code),w3.heap[(E3 (A.nf+1)).blk]? = some (.loop rc)/\rc.state ≠ .busy/\rc.pending=jump /\
    (∀ (Q:Exit->Act->World->Prop) (a:Act) (w:World),Q e0 a w->match jump with|none=>Q .normal a w|some c=>c.wpIn (FW none) 0 P Q a w)/\oo.ro=false:=by
    obtain⟨c3,hc3,hlies⟩:=r3.obj _ _ hg
    cases oo with
    | loop n3 σ3 ps3 assign3 body3 dd3 =>
     obtain⟨fn3,ds3,rfl⟩:=hlies
     have hre:e0 = .normal:=hre
     subst hre
     exact⟨_,none,hc3,s_,rfl,fun Q a w h=>h,rfl⟩
    | done j =>
     obtain⟨rc,rfl,h1,h2⟩:=hlies
     cases j with
     | none =>
      have hre:e0 = .ret:=hre
      subst hre
      exact⟨rc,_,hc3,by rw[h1];simp,h2,fun Q a w h=>wpIn_ret h,rfl⟩
     | some i =>
      have hre:e0 = .exit i:=hre
      subst hre
      exact⟨rc,_,hc3,by rw[h1];simp,h2,fun Q a w h=>wpIn_exit h,rfl⟩
    | cells cs T op ro=>exact hre.elim
    | map es c=>exact hre.elim
    | Ci m a b d=>exact hre.elim
    | sD=>exact hre.elim
   have hl3:E3 (A.nf+1)=⟨w.heap.size+1,0,0⟩:=by rw[t3.ext (A.nf+1) (by rw[hnf];omega),lg]
   have hd3:E3 A.nf=⟨w.heap.size,0,0⟩:=by rw[t3.ext A.nf (by rw[hnf];omega),oQ _ _ o_,lg]
   rw[hl3]at hc3
   refine⟨jump,_,by rw[<-hpd];exact run_endLoop hc3 hst,?_⟩
   have hh:=r3.Ke (w' := w3.putObj (w.heap.size+1) (.loop { rc with state:=.exhausted })) hg hjump.2 (by rw[hl3];exact gB.putObj w3 _ _)
   have tall:=tt.trans (t3.trans hh.2)
   have hA:A.nf+2<=(A'.jT (A.nf+1)).nf:=(t3.trans hh.2).nf
   have:=K E3 _ hh.1 tall (hs.mono o_) (fun d hdd=>by
    simp only[zg]at hdd
    rcases hdd with rfl|hdd
    . omega
    . have:=hd d hdd;omega)
   have hfx:Fx n E3 σ (A.nf :: ds)={ Fx n E σ ds with defers:=[⟨.collected w.heap.size,#[]⟩]++(Fx n E σ ds).defers }:=by
    show Fr n (Go.Ex.slots n E3 σ) (oB E3 (A.nf :: ds))=_
    rw[tall.slots hs]
    have:oB E3 (A.nf :: ds)=⟨.collected w.heap.size,#[]⟩ :: oB E ds:=by
     simp only[oB,zy,hd3]
     congr 1
     exact tall.oB hd
    rw[this];rfl
   rw[<-hfx]
   exact hjump.1 Q _ _ this
theorem NU{F:Fence}{m:Nat}{c:Code}{Q:Exit->Act->World->Prop}{a:Act}(h:c.wpIn F m P (fun e a w=>(∀ l,e ≠ .goto l)/\Q e a w) a w):(Code.scope c).wpIn F m P Q a w:=by
 intro b k cs hro hb hr
 have h0:(lone (b.atR a (.code (.scope c) :: k)) cs w).fenced P F:=fenced_calm hb hr rfl
 have s0:Go.step P (lone (b.atR a (.code (.scope c) :: k)) cs w) = .next (lone (b.atR a (.code c :: .inScope c :: k)) cs w):=step_lone_go (by simp[stepG,stepG.exec,Frame.atR])
 have s1:∀ a w,Go.step P (lone (b.atR a (.inScope c :: k)) cs w) = .next (lone (b.atR a k) cs w):=fun a w=>step_lone_go (by simp[stepG,stepG.exec,Frame.atR])
 obtain⟨e,a₁,w₁,⟨hg,hq⟩,harr⟩:=h b (.inScope c :: k) cs hro hb hr
 cases e with
 | normal=>exact⟨.normal,a₁,w₁,hq,.head h0 s0 (StepsIn.trans harr (.one (fenced_calm hb hr rfl) (s1 _ _)))⟩
 | exit id =>
  have hx:exitTo id (.inScope c :: k)=exitTo id k:=by simp[exitTo]
  exact⟨.exit id,a₁,w₁,hq,fun k' hk=>.head h0 s0 (harr.1 k' (by rw[hx];exact hk)),
   fun hr' hk=>let ⟨k₁,h1,h2⟩:=harr.2 hr' (by rw[hx];exact hk);⟨k₁,h1,.head h0 s0 h2⟩⟩
 | goto l=>exact absurd rfl (hg l)
 | ret=>exact⟨_,a₁,w₁,hq,.of_steps (.one h0 s0) harr⟩
 | panic ch=>exact⟨_,a₁,w₁,hq,.of_steps (.one h0 s0) harr⟩
 | outgrown=>exact⟨_,a₁,w₁,hq,.of_steps (.one h0 s0) harr⟩
theorem Tk{k:Nat}{rec:Rec}{reg:uW}(hreg:Jy P reg)(hrec:Aq P k rec):Aq P (k+1) (step P reg rec):=by
 intro j o he
 cases j with
 | call f args A =>
  simp only[step,PE]at he
  split at he
  . rename_i fn hf
    split at he
    . rename_i c hb
      cases hn:Nat.ble args.length fn.ntmps with
      | false=>rw[hn]at he;cases he
      | true =>
       rw[hn]at he
       simp only[cond_true]at he
       split at he
       . rename_i e σ ds A' hc
         cases hi:Jl e with
         | false=>rw[hi]at he;cases he
         | true =>
          rw[hi]at he
          simp only[cond_true]at he
          split at he
          . rename_i A2 hst
            obtain⟨vs,hvs,e2⟩:=map_some he
            cases e2
            exact S7 (k:=k) (rec:=rec) (v:=ri vs) hf hb hn (hrec _ _ hc) hi hst hvs
          . cases he
       . cases he
    . cases he
  . cases he
 | yield l args A =>
  simp only[step,OM]at he
  split at he
  . rename_i n σ ps assign body dd hg
    cases hn:Nat.beq args.length ps.length with
    | false=>rw[hn]at he;cases he
    | true =>
     rw[hn]at he
     simp only[cond_true]at he
     split at he
     . rename_i σ1 A1 h1
       split at he
       . rename_i n2 σ2 ps2 assign2 body2 dd2 hg2
         split at he
         . rename_i σ3 A3 h3
           cases he
           exact GZ hg (z7 hn) (hrec _ _ h1) hg2 (hrec _ _ h3) ⟨rfl,rfl⟩
         . rename_i σ3 A3 h3
           cases he
           exact GZ hg (z7 hn) (hrec _ _ h1) hg2 (hrec _ _ h3) ⟨rfl,rfl⟩
         . rename_i i σ3 A3 h3
           cases he
           exact GZ hg (z7 hn) (hrec _ _ h1) hg2 (hrec _ _ h3) ⟨rfl,rfl⟩
         . cases he
       . cases he
     . cases he
  . cases he
 | rounds c q n σ ds A =>
  simp only[step,NK]at he
  split at he
  . rename_i σ1 ds1 A1 h1
    have c1:oP P c q n σ ds A .normal σ1 ds1 A1:=hrec _ _ h1
    cases o with
    | call v A' => trivial
    | code e σ' ds' A' =>
     have c2:HC P k c q n σ1 ds1 A1 e σ' ds' A' := hrec _ _ he
     intro E w r hq h hs hd Q K
     refine ir (c1 E w r hq h hs hd _ fun E1 w1 h1 t1 s1 d1=>?_)
     exact c2 E1 w1 r hq h1 s1 d1 Q fun E2 w2 h2 t2 s2 d2=>K E2 w2 h2 (t1.trans t2) s2 d2
  . rename_i hne
    cases o with
    | call v A' => trivial
    | code e σ' ds' A' =>
     have c1:oP P c q n σ ds A e σ' ds' A' := hrec _ _ he
     intro E w r hq h hs hd Q K
     refine ir (c1 E w r hq h hs hd _ fun E1 w1 h1 t1 s1 d1=>NS (fun e0=>?_) (K E1 w1 h1 t1 s1 d1))
     subst e0
     exact hne _ _ _ he
 | code c q n σ ds A =>
  cases o with
  | call v A' => trivial
  | code e σ' ds' A' =>
  cases c with
  | skip =>
   cases he
   intro E w r hq h hs hd Q K
   exact sp (K E w h (To.refl E A w) hs hd)
  | region id ops draw =>
   simp only[step,uB,N6]at he
   obtain⟨p,hp,e2⟩:=map_some he
   cases e2
   intro E w r hq h hs hd Q K
   obtain⟨ops⟩:=ops
   cases draw with
   | false =>
    refine rg (Tg hrec hq _ _ _ _ _ hp E w h hs _ Q fun E1 w1 h1 t1 s1=>?_)
    have:=K E1 w1 h1 t1 s1 (hd.mono t1.nf)
    unfold Fx at this
    rw[t1.oB hd]at this
    exact this
   | true =>
    refine hreg k rec hrec q _ n σ A _ _ hp E w r id hq h hs _ Q fun E1 w1 h1 t1 s1=>?_
    have:=K E1 w1 h1 t1 s1 (hd.mono t1.nf)
    unfold Fx at this
    rw[t1.oB hd]at this
    exact this
  | seq a b =>
   simp only[step,uB,P0]at he
   split at he
   . rename_i σ1 ds1 A1 h1
     have c1:oP P a q n σ ds A .normal σ1 ds1 A1:=hrec _ _ h1
     have c2:oP P b q n σ1 ds1 A1 e σ' ds' A' := hrec _ _ he
     intro E w r hq h hs hd Q K
     refine wpIn_seq (c1 E w r hq h hs hd _ fun E1 w1 h1 t1 s1 d1=>?_)
     exact c2 E1 w1 r hq h1 s1 d1 Q fun E2 w2 h2 t2 s2 d2=>K E2 w2 h2 (t1.trans t2) s2 d2
   . rename_i hne
     have c1:oP P a q n σ ds A e σ' ds' A' := hrec _ _ he
     intro E w r hq h hs hd Q K
     refine wpIn_seq (c1 E w r hq h hs hd _ fun E1 w1 h1 t1 s1 d1=>NS (fun e0=>?_) (K E1 w1 h1 t1 s1 d1))
     subst e0
     exact hne _ _ _ he
  | cond x a b =>
   simp only[step,uB,O6]at he
   split at he
   . rename_i hx
     have c1:oP P a q n σ ds A e σ' ds' A' := hrec _ _ he
     intro E w r hq h hs hd Q K
     exact QO (tf h hs x _ hx).1 (c1 E w r hq h hs hd Q K)
   . rename_i hx
     have c1:oP P b q n σ ds A e σ' ds' A' := hrec _ _ he
     intro E w r hq h hs hd Q K
     exact QW (tf h hs x _ hx).1 (c1 E w r hq h hs hd Q K)
   . cases he
  | block id b =>
   simp only[step,uB,N8]at he
   split at he
   . rename_i i σ1 ds1 A1 h1
     have c1:oP P b q n σ ds A (.exit i) σ1 ds1 A1:=hrec _ _ h1
     cases hi:Nat.beq i id with
     | true =>
      rw[hi]at he
      cases he
      have:=z7 hi
      subst this
      intro E w r hq h hs hd Q K
      exact bk (c1 E w r hq h hs hd _ fun E1 w1 h1 t1 s1 d1=>bX (K E1 w1 h1 t1 s1 d1))
     | false =>
      rw[hi]at he
      cases he
      intro E w r hq h hs hd Q K
      exact bk (c1 E w r hq h hs hd _ fun E1 w1 h1 t1 s1 d1=>FL hi (K E1 w1 h1 t1 s1 d1))
   . rename_i hne
     have c1:oP P b q n σ ds A e σ' ds' A' := hrec _ _ he
     intro E w r hq h hs hd Q K
     refine bk (c1 E w r hq h hs hd _ fun E1 w1 h1 t1 s1 d1=>SN (fun i e0=>?_) (K E1 w1 h1 t1 s1 d1))
     subst e0
     exact hne _ _ _ _ he
  | loop b =>
   simp only[step,uB]at he
   have c1:HC P k b q n σ ds A e σ' ds' A' := hrec _ _ he
   intro E w r hq h hs hd Q K
   exact sy k (c1 E w r hq h hs hd Q K)
  | scope b =>
   simp only[step,uB,Oy]at he
   split at he
   . cases he
   . rename_i hne
     have c1:oP P b q n σ ds A e σ' ds' A' := hrec _ _ he
     intro E w r hq h hs hd Q K
     refine NU (c1 E w r hq h hs hd _ fun E1 w1 h1 t1 s1 d1=>⟨fun l e0=>?_,K E1 w1 h1 t1 s1 d1⟩)
     subst e0
     exact hne _ _ _ _ he
  | label l =>
   cases he
   intro E w r hq h hs hd Q K
   exact wpIn_label (K E w h (To.refl E A w) hs hd)
  | exit i =>
   cases he
   intro E w r hq h hs hd Q K
   exact xt (K E w h (To.refl E A w) hs hd)
  | ret =>
   cases he
   intro E w r hq h hs hd Q K
   exact rt (K E w h (To.refl E A w) hs hd)
  | rangeFunc x ps assign body =>
   simp only[step,uB,Oi]at he
   cases hq:q with
   | false=>rw[hq]at he;cases he
   | true =>
    rw[hq]at he
    simp only[cond_true]at he
    split at he
    . rename_i f fi ca hx
      cases hen:enters P f with
      | false=>rw[hen]at he;cases he
      | true =>
       rw[hen]at he
       simp only[cond_true]at he
       split at he
       . rename_i v A1 hc
         split at he
         . rename_i hg
           cases he
           exact GY hx hen (hrec _ _ hc) hg rfl
         . rename_i hg
           cases he
           exact GY hx hen (hrec _ _ hc) hg rfl
         . rename_i i hg
           cases he
           exact GY hx hen (hrec _ _ hc) hg rfl
         . cases he
       . cases he
    . cases he
  | _=>simp[step,uB]at he
theorem Ma{reg:uW}(hreg:Jy P reg):∀ k,Aq P k (run P reg k)
 | 0=>fun j o h=>by rw[TX]at h;cases h
 | k+1=>fun j o h=>Tk hreg (Ma hreg k) j o h
end
end Go.Ex
namespace Go.Sx
open Go
def Ay(Q:Exit->Act->World->Prop):Exit->Act->World->Prop:=fun e a w=>(∀ l,e ≠ .goto l)/\Q e a w
section
variable {r:Option Nat} {P:Program} {Q:Exit->Act->World->Prop} {c:Code} {a:Act} {w:World} {id:Nat}
theorem scp(h:WP r P c (Ay Q) a w):WP r P (.scope c) Q a w:=Go.Ex.NU h
theorem KG(h:Q .normal a w):Ay Q .normal a w:=⟨fun _ e=>(by cases e),h⟩
theorem K6(h:Q .ret a w):Ay Q .ret a w:=⟨fun _ e=>(by cases e),h⟩
theorem KU{l:Nat}(h:Q .normal a w):WP r P (.label l) Q a w:=wpIn_label h
end
end Go.Sx
namespace Go.Sx
open Go
structure Cj (l:List Oper) (pre:Nat->Nat->Bool):Prop where
 back:∀ j o,l[j]? = some o->∀ i,pre j i=true->∃ e∈o.after,Region.binds .any e=true/\e.on<j/\(e.on=i\/pre e.on i=true)
 sel:∀ o∈l,s4 o.op=false
 acy:∀ j o,l[j]? = some o->∀ e∈o.after,Region.binds .any e=true->e.on<j
 oD:∀ i j x y,l[i]? = some x->l[j]? = some y->i<j->(kH l.toArray x y=true\/kH l.toArray y x=true)->pre j i=true
theorem Cj.sound{l:List Oper}{pre:Nat->Nat->Bool}{S:Nat->Bool}(h:Cj l pre)(hd:Down l S):∀ j,S j=true->j<l.length->∀ i,pre j i=true->S i=true:=by
 intro j
 induction j using Nat.strongRecOn with
 | _ j ih =>
  intro hS hj i hi
  obtain⟨e,he,hb,hlt,h3⟩:=h.back j _ (zo hj) i hi
  have hSe:=hd.closed j _ (zo hj) hS e he hb
  rcases h3 with rfl|h3
  . exact hSe
  . exact ih e.on hlt hSe o_ i h3
def OOb(P:Program)(ops:Array Oper)(n:Nat)(o:Oper)(s:List (Nat×Value))(Nx:Value->World->Prop)(w:World):Prop :=
 (gy ops n s o.guard=true/\nr o.op=true/\((∃ v w', (execOp (ev n s) o).run P w = .ok (.value v) w' /\ Nx v w')\/(∃ w', (execOp (ev n s) o).run P w = .ok .skip w' /\ Nx undef w') \/
  (∃ f args w', (execOp (ev n s) o).run P w = .ok (.enter f args) w' /\ CR P f args w' Nx)))
 \/ (gy ops n s o.guard=false/\Nx undef w)
structure CE (l:List Oper) (pre:Nat->Nat->Bool) (i:Nat) (S:Nat->Bool):Prop where
 self:S i=false
 ow:∀ k,pre i k=true->S k=true
 notYet:∀ k,k<l.length->pre k i=true->S k=false
 down:∀ j,S j=true->j<l.length->∀ k,pre j k=true->S k=true
section
variable {Γ:Type} {r:Option Nat} {P:Program} {Q:Exit->Act->World->Prop} {n:Nat} {ds:List Deferred} {s0:List (Nat×Value)} {l:List Oper} {pre:Nat->Nat->Bool} {V:List (Γ->Value)} {M:(Nat->Bool)->Γ->World->Prop}
theorem aaz{id:Nat}{w:World}(hm:P.follows .mixedOrders=true)(pre:Nat->Nat->Bool)(hok:Cj l pre)(V:List (Γ->Value))(hV:V.length=l.length)(M:(Nat->Bool)->Γ->World->Prop)(g0:Γ)
 (h0:M (fun _=>false) g0 w.drew)
 (hO:∀ i o v S g w,l[i]? = some o->V[i]? = some v->CE l pre i S->M S g w ->
  ∃ s', (∀ t,t<n->t∈o.looksAt l.toArray->look s' t=look (gY S 0 l (V.map (· g)) s0) t) /\
   OOb P l.toArray n o s' (fun v' w' => ∃ g', M (fun j=>S j||j==i) g' w' /\ v' = v g' /\ ∀ k u,V[k]? = some u->S k=true->u g' = u g) w)
 (hend:∀ S g w', (∀ i,i<l.length->S i=true)->M S g w' -> Q .normal (Fr n (gY (fun _=>true) 0 l (V.map (· g)) s0) ds) w'):WP r P (.region id l.toArray true) Q (Fr n s0 ds) w:=by
 have oD:=hok.oD
 refine wpIn_region_any hm ?_
 let Sof:Array Bool->Nat->Bool:=fun listed i=>listed.getD i false
 have main:∀ (fuel:Nat) (listed:Array Bool) (g:Γ) (w:World),listed.size=l.length->listed.toList.countP (! ·)<=fuel->Down l (Sof listed)->M (Sof listed) g w ->
  wpAnyIn (FW r) 0 P .any l.toArray Q fuel listed (Fr n (gY (Sof listed) 0 l (V.map (· g)) s0) ds) w:=by
  intro fuel
  have fin:∀ (listed:Array Bool) (g:Γ) (w:World),listed.size=l.length->(∀ i,i<l.length->Sof listed i=true)->M (Sof listed) g w->Q .normal (Fr n (gY (Sof listed) 0 l (V.map (· g)) s0) ds) w:=by
   intro listed g w hs hall hM
   have e2:Fr n (gY (Sof listed) 0 l (V.map (· g)) s0) ds=Fr n (gY (fun _=>true) 0 l (V.map (· g)) s0) ds:=by
    refine th ds fun t=>?_
    rw[kU,kU]
    congr 1
    refine rR l 0 _ _ rfl fun j o hj _=>⟨?_,fun _=>rfl⟩
    rw[jF]
    exact hall j (zb.1 hj).1
   rw[e2]
   exact hend _ g w hall hM
  have allOf:∀ (listed:Array Bool),listed.size=l.length->Region.ready .any l.toArray listed=[]->∀ i,i<l.length->Sof listed i=true:=by
   intro listed hs hr i
   induction i using Nat.strongRecOn with
   | _ i ih =>
    intro hi
    cases hc:Sof listed i with
    | true=>rfl
    | false =>
     exfalso
     have:i∈Region.ready .any l.toArray listed:=by
      rw[mem_ready]
      refine⟨?_,l[i],by simp[hi],fun e he hb=>?_⟩
      . have:i<listed.size:=by omega
        simp only[Sof]at hc
        simp[this]at hc ⊢
        exact hc
      . have h2:=hok.acy i _ (zo hi) e (by simpa using he) hb
        exact ih e.on h2 o_
     rw[hr]at this
     cases this
  induction fuel with
  | zero =>
   intro listed g w hs hc hd hM
   have hz:∀ x∈listed.toList,x=true:=by
    intro x hx
    have:=AL.1 (Nat.le_zero.1 hc) x hx
    simpa using this
   have hall:∀ i,i<l.length->Sof listed i=true:=by
    intro i hi
    have hi' : i<listed.size:=by omega
    simp only[Sof]
    simp[hi']
    exact hz _ s_
   refine⟨?_,fin listed g w hs hall hM⟩
   cases hr:Region.ready .any l.toArray listed with
   | nil=>rfl
   | cons i rs =>
    have:i∈Region.ready .any l.toArray listed:=by rw[hr];simp
    rw[mem_ready]at this
    obtain⟨h1,o,ho,_⟩:=this
    have hi:i<l.length:=by simpa using(z8.1 ho).1
    have:=hall i hi
    simp only[Sof]at this
    have hi' : i<listed.size:=by omega
    simp[hi']at h1 this
    rw[h1]at this
    cases this
  | succ fuel ih =>
   intro listed g w hs hc hd hM
   refine⟨fun hr=>fin listed g w hs (allOf listed hs hr) hM,fun i hi=>?_⟩
   obtain⟨hun,o,ho,hed⟩:=mem_ready.1 hi
   have ho' : l[i]? = some o:=by simpa using ho
   have hil:i<l.length:=(zb.1 ho').1
   have hil' : i<listed.size:=by omega
   have hSi:Sof listed i=false:=by
    simp only[Sof];simp[hil']at hun ⊢;exact hun
   let S:=Sof listed
   let S' := Sof (listed.setIfInBounds i true)
   have hSi:S i=false:=hSi
   have hd:Down l S:=hd
   have hS' : ∀ j,S' j=(S j||j==i):=fun j=>H6 listed i j hil'
   have hd' : Down l S' := ⟨fun j oj hj hSj e he hb=>by
    rw[hS']at hSj ⊢
    rcases rO.1 hSj with h|h
    . rw[show S e.on=true from hd.closed j oj hj h e he hb];rfl
    . have:j=i:=by simpa using h
      subst this
      have:oj=o:=Option.some.inj (hj.symm.trans ho')
      subst this
      rw[show S e.on=true from hed e he hb];rfl⟩
   have hps:=fun j=>hok.sound (S:=S) hd j
   have hps' := fun j=>hok.sound (S:=S') hd' j
   have notYet:∀ k,k<l.length->pre k i=true->S k=false:=by
    intro k hk hki
    cases hSk:S k with
    | false=>rfl
    | true=>have:=hps k hSk hk i hki;rw[hSi]at this;cases this
   have ow:∀ k,pre i k=true->S k=true:=by
    intro k hk
    have h1:=hps' i (by rw[hS'];simp) hil k hk
    rw[hS']at h1
    rcases rO.1 h1 with h|h
    . exact h
    . exfalso
      have e:k=i:=by simpa using h
      subst e
      have:=notYet k hil hk
      obtain⟨e,he,hb,hlt,h3⟩:=hok.back k _ (zo hil) k hk
      have hSe:S e.on=true:=by
       have:l[k]=o:=by rw[zo hil]at ho'; exact Option.some.inj ho'
       rw[this]at he
       exact hed e (by simpa using he) hb
      rcases h3 with h3|h3
      . omega
      . have:=hps e.on hSe o_ k h3
        rw[hSi]at this;cases this
   obtain⟨v,hv⟩:∃ v,V[i]? = some v:=⟨V[i]'o_,zo o_⟩
   obtain⟨s', agree', hob⟩:=hO i o v S g w ho' hv ⟨hSi,ow,notYet,fun j hj hjl k hk=>hps j hj hjl k hk⟩ hM
   have agree:∀ t,t∈o.looksAt l.toArray->ev n (gY S 0 l (V.map (· g)) s0) (.tmp t)=ev n s' (.tmp t):=fun t ht=>by
    by_cases hn:t<n
    . simp only[ev,s5 hn,cond_true];exact(agree' t hn ht).symm
    . simp only[ev,BF hn,cond_false]
   have hev:execOp (ev n (gY S 0 l (V.map (· g)) s0)) o=execOp (ev n s') o:=by
    refine execOp_congr o (fun cs b e=>?_) fun x hx=>?_
    . have:=hok.sel o (ze ho')
      rw[e]at this
      simp[s4]at this
    . cases x with
      | tmp t =>
       rw[agree t (uO _ (CD.2 ⟨.tmp t,by simpa using hx,rfl⟩))]
      | _=>rfl
   have htk:gy l.toArray n (gY S 0 l (V.map (· g)) s0) o.guard=gy l.toArray n s' o.guard:=by
    cases hg:o.guard with
    | none=>rfl
    | some gd =>
     obtain⟨jg,want⟩:=gd
     simp only[gy]
     have e:r7 l.toArray.toList jg=(l.toArray[jg]?).bind (·.dst):=by rw[DQ];simp
     rw[e]
     cases hdg:(l.toArray[jg]?).bind (·.dst)with
     | none=>rfl
     | some d =>
      simp only
      rw[agree d (wu _ (by rw[hg];simp only;rw[hdg];simp))]
   have hcnt:(listed.setIfInBounds i true).toList.countP (! ·)<=fuel:=by
    have:(listed.setIfInBounds i true).toList.countP (! ·)+1<=listed.toList.countP (! ·):=by
     rw[FO]
     have hil2:i<listed.toList.length:=by simpa using hil'
     have hfalse:listed.toList[i]=false:=by simp[hil']at hun;simpa using hun
     have e:=yV i listed.toList
     have e2:listed.toList=listed.toList.take i++false :: listed.toList.drop (i+1):=by
      conv=>lhs;rw[<-e,x8 hil2,hfalse]
     have e3:listed.toList.set i true=listed.toList.take i++true :: listed.toList.drop (i+1):=by
      rw[FU,if_pos hil2]
     rw[e3]
     conv=>rhs;rw[e2]
     simp[List.countP_append,u5]
     omega
    omega
   have frame:∀ (g' : Γ) (v:Γ->Value),V[i]? = some v->(∀ k u,V[k]? = some u->S k=true->u g' = u g) ->
    (Fr n (gY S 0 l (V.map (· g)) s0) ds).put o.dst (v g')=Fr n (gY S' 0 l (V.map (· g')) s0) ds:=by
    intro g' v hv hst
    rw[vK]
    refine th ds fun t=>?_
    rw[Dx,kU,kU]
    by_cases hdt:o.dst=some t
    . rw[if_pos hdt]
      have:mK S' t 0 l (V.map (· g'))=some (v g'):=by
       refine DL l 0 i _ o (v g') ho' hdt (by simp[hv]) (by rw[jF,hS'];simp) fun j oj hij hj hdj=>?_
       rw[jF,hS']
       have hto:kH l.toArray o oj=true:=by simp[kH,hdt,hdj]
       have:=notYet j (zb.1 hj).1 (oD i j o oj ho' hj hij (.inl hto))
       simp[this];omega
      rw[this];rfl
    . rw[if_neg hdt]
      congr 1
      refine rR l 0 _ _ s_ fun j oj hj hdj=>?_
      rw[jF,hS']
      have hji:¬ j=i:=by
       rintro rfl
       have:oj=o:=Option.some.inj (hj.symm.trans ho')
       subst this
       exact hdt hdj
      refine⟨by simp[hji],fun hSj=>?_⟩
      have hjl:j<V.length:=by have:=(zb.1 hj).1;omega
      simp only[kX,zo hjl,oE]
      rw[hst j _ (zo hjl) hSj]
   have next:∀ v' w', (∃ g', M (fun j=>S j||j==i) g' w' /\ v' = v g' /\ ∀ k u,V[k]? = some u->S k=true->u g' = u g) ->
    wpAnyIn (FW r) 0 P .any l.toArray Q fuel (listed.setIfInBounds i true) ((Fr n (gY S 0 l (V.map (· g)) s0) ds).put o.dst v') w' := by
    rintro v' w' ⟨g', hM2,rfl,hstab⟩
    have hSe:Sof (listed.setIfInBounds i true)=fun j=>S j||j==i:=funext hS'
    have:=ih (listed.setIfInBounds i true) g' w' (by simpa using hs) hcnt hd' (by rw[hSe];exact hM2)
    rw[frame g' v hv hstab]
    exact this
   unfold wpOpIn
   rw[ho]
   simp only
   rcases hob with ⟨ht,hnd,hcase⟩|⟨ht,hN⟩
   . rw[nW,htk,ht,if_pos rfl]
     refine⟨fun _ _=>trivial,?_⟩
     rw[semAt_eq (uc hnd),qn, hev]
     rcases hcase with ⟨v', w', hr,hN⟩|⟨w', hr,hN⟩|⟨f,args,w', hr,hC⟩
     . rw[hr];exact next v' w' hN
     . rw[hr];exact next undef w' hN
     . rw[hr]
       refine⟨fun h=>by simp[FW]at h,rV.2 (Calls.mono hC ?_)⟩
       rintro e w' ⟨v', rfl,he⟩
       exact next v' w' he
   . rw[nW,htk,ht]
     exact⟨fun _ _=>trivial,next undef w hN⟩
 have e0:Fr n s0 ds=Fr n (gY (Sof (Array.replicate l.toArray.size false)) 0 l (V.map (· g0)) s0) ds:=by
  refine th ds fun t=>?_
  rw[kU,wY l 0 _ (fun j o _ _=>?_)]
  . rfl
  . simp only[Sof];exact vI _ _
 have hS0:Sof (Array.replicate l.toArray.size false)=fun _=>false:=funext fun j=>vI _ _
 rw[e0]
 refine main _ _ g0 _ s_ (z1 La s_) ⟨fun j o _ h=>?_⟩ (by rw[hS0];exact h0)
 exfalso
 rw[hS0]at h
 cases h
end
end Go.Sx
namespace Go.Sx
open Go
section
variable {r:Option Nat} {P:Program} {ops:Array Oper} {Q:Exit->Act->World->Prop} {rest:List Oper} {n:Nat} {s:List (Nat×Value)} {ds:List Deferred} {w:World}
variable {d:Nat} {dd:Option Nat} {ty t:TypeId} {pos:String} {af:Array Edge} {g:Option (Nat×Bool)} {x:Operand} {cs:Array Value} {v:Value} {i:Nat} {u:TypeDesc}
theorem V5{fs:Array Field}{f:Field}(hx:ev n s x = .agg cs)(ht:P.underlying t=some (.struct fs))(hf:fs[i]? = some f)(he:P.underlying f.type=some u)(hn:lK u=false)(hv:cs[f.offset]? = some v) :
 (execOp (ev n s) ⟨dd,.field t x i,ty,pos,af,g⟩).run P w = .ok (.value v) w:=by
 simp[execOp,hx,Instr.field,asAgg,run_underlying ht,hf,part,qU he,hn,hv]
end
end Go.Sx
namespace Go.Sx
open Go
section
variable {r:Option Nat} {P:Program} {ops:Array Oper} {Q:Exit->Act->World->Prop} {rest:List Oper} {n:Nat} {s:List (Nat×Value)} {ds:List Deferred} {w:World}
variable {d:Nat} {dd:Option Nat} {ty t t' e:TypeId} {pos:String} {af:Array Edge} {g:Option (Nat×Bool)} {x y:Operand} {a:Option Addr} {c:Bool}
theorem Lc(k:Nat)(ht:P.underlying t=some (.pointer e)):(Op.equalIn (k+1) t (.pointer a) (.pointer none)).run P w = .ok a.isNone w:=by
 cases a<;>simp[Op.equalIn,run_underlying ht]
theorem aal(hx:ev n s x = .pointer a)(hy:ev n s y = .pointer none)(ht:P.underlying t=some (.pointer e))(hc:a.isNone=c) :
 (execOp (ev n s) ⟨dd,.binOp .eql t x y t', ty,pos,af,g⟩).run P w = .ok (.value (.bool c)) w:=by
 subst hc
 simp[execOp,hx,hy,eqGuard,binOp,Op.equal,Op.maxDepth,Lc 9999 ht]
theorem Gx(hg:gy ops n s g=true)(hx:ev n s x = .pointer a)(hy:ev n s y = .pointer none)(ht:P.underlying t=some (.pointer e))(hc:a.isNone=c)
 (K:WL r P ops Q rest (Fr n ((d,.bool c) :: s) ds) w):WL r P ops Q (⟨some d,.binOp .eql t x y t', ty,pos,af,g⟩ :: rest) (Fr n s ds) w:=pv hg rfl (aal hx hy ht hc) K
theorem ZN(hx:ev n s x = .pointer a)(hy:ev n s y = .pointer none)(ht:P.underlying t=some (.pointer e))(hc:(!a.isNone)=c) :
 (execOp (ev n s) ⟨dd,.binOp .neq t x y t', ty,pos,af,g⟩).run P w = .ok (.value (.bool c)) w:=by
 subst hc
 simp[execOp,hx,hy,eqGuard,binOp,Op.equal,Op.maxDepth,Lc 9999 ht]
theorem qR(hg:gy ops n s g=true)(hx:ev n s x = .pointer a)(hy:ev n s y = .pointer none)(ht:P.underlying t=some (.pointer e))(hc:(!a.isNone)=c)
 (K:WL r P ops Q rest (Fr n ((d,.bool c) :: s) ds) w):WL r P ops Q (⟨some d,.binOp .neq t x y t', ty,pos,af,g⟩ :: rest) (Fr n s ds) w:=pv hg rfl (ZN hx hy ht hc) K
end
section
variable {P:Program} {n:Nat} {s:List (Nat×Value)} {w w0:World} {fn:Func} {bs:List (World×List Nat)} {L:List gh} {x:ResultVar} {v:Value} {b:Nat} {T:TypeId} {cs:List Value}
theorem St.JA(h:St bs L w)(hb:(w0,[])∈bs)(h0:(blk b T cs).holds w0):(blk b T cs).holds w :=
 (h.keep hb (z8.1 h0).1 s_).trans h0
end
end Go.Sx
namespace Go.Sx
open Go
def JT(P:Program):List (Nat×TypeDesc)->Prop
 | []=>True
 | p :: l=>P.underlying p.1=some p.2/\JT P l
def allI(P:Program):List (Nat×Nat×Nat×Value)->Prop
 | []=>True
 | p :: l=>TI P p.1 p.2.1 p.2.2.1 p.2.2.2/\allI P l
class TT (P:Program) where
 mx:P.follows .mixedOrders=true
 u:List (Nat×TypeDesc)
 i:List (Nat×Nat×Nat×Value)
 oK:JT P u
 sx:allI P i
def ku{α:Type}:List (Nat×α)->Nat->Option α
 | [],_=>none
 | p :: l,t=>bif Nat.beq p.1 t then some p.2 else ku l t
theorem nZ{P:Program}:∀ {l:List (Nat×TypeDesc)} {t:Nat} {u:TypeDesc},JT P l->ku l t=some u->P.underlying t=some u
 | [],_,_,_,h=>by simp[ku]at h
 | p :: l,t,u,hl,h=>by
  simp only[ku]at h
  cases hb:Nat.beq p.1 t with
  | true=>rw[hb]at h;simp at h;rw[<-z7 hb,<-h];exact hl.1
  | false=>rw[hb]at h;exact nZ hl.2 h
theorem q8{P:Program}:∀ {l:List (Nat×Nat×Nat×Value)} {t a b:Nat} {z:Value},allI P l->ku l t=some (a,b,z)->TI P t a b z
 | [],_,_,_,_,_,h=>by simp[ku]at h
 | p :: l,t,a,b,z,hl,h=>by
  simp only[ku]at h
  cases hb:Nat.beq p.1 t with
  | true=>rw[hb]at h;simp at h;have h1:=hl.1;rw[h,z7 hb]at h1;exact h1
  | false=>rw[hb]at h;exact q8 hl.2 h
section
variable {P:Program}
structure SL (T:TT P) (J:World->Prop) (bs:List (World×List Nat)) (L:List gh) (N:Nat) (r:Option Nat) (ops:Array Oper) (Q:Exit->Act->World->Prop) (l:List Oper) (a:Act):Prop where
 out:∀ w,J w->St bs L w->WL r P ops Q l a w
structure SP (T:TT P) (J:World->Prop) (bs:List (World×List Nat)) (L:List gh) (N:Nat) (r:Option Nat) (Q:Exit->Act->World->Prop) (c:Code) (a:Act):Prop where
 out:∀ w,J w->St bs L w->WP r P c Q a w
structure SQ (T:TT P) (J:World->Prop) (bs:List (World×List Nat)) (L:List gh) (N:Nat) (r:Option Nat) (Q:Exit->Act->World->Prop) (e:Exit) (a:Act):Prop where
 out:∀ w,J w->St bs L w->Q e a w
def Kc(r:Option Nat)(P:Program)(Y:Code)(Q:Exit->Act->World->Prop):Act->World->Prop:=fun a w=>WP r P Y Q a w
variable {T:TT P} {J:World->Prop} {bs:List (World×List Nat)} {L L' : List gh} {r:Option Nat} {ops:Array Oper} {Q:Exit->Act->World->Prop} {rest:List Oper} {n:Nat} {s:List (Nat×Value)} {ds:List Deferred} {w w' w0:World}
variable {N d i j:Nat} {ty t:TypeId} {pos:String} {af:Array Edge} {g:Option (Nat×Bool)} {v u:Value} {x y z:Operand} {X Y:Code} {a:Act} {K' : Act->World->Prop} {l:List Oper}
theorem SP.sq(K:SP T J bs L N r (Exit.then (Kc r P Y Q) Q) X a):SP T J bs L (N+1) r Q (.seq X Y) a:=⟨fun w j h=>wpIn_seq (K.out w j h)⟩
theorem SP.rg{id:Nat}(K:SL T J bs L N r l.toArray Q l (Fr n s ds)):SP T J bs L (N+1) r Q (.region id l.toArray false) (Fr n s ds):=⟨fun w j h=>Go.Sx.rg (K.out w j h)⟩
theorem SP.cT{c:Operand}(K:SP T J bs L N r Q X (Fr n s ds))(hc:ev n s c = .bool true:=by exact rfl):SP T J bs L (N+1) r Q (.cond c X Y) (Fr n s ds):=⟨fun w j h=>QO hc (K.out w j h)⟩
theorem SP.cF{c:Operand}(K:SP T J bs L N r Q Y (Fr n s ds))(hc:ev n s c = .bool false:=by exact rfl):SP T J bs L (N+1) r Q (.cond c X Y) (Fr n s ds):=⟨fun w j h=>QW hc (K.out w j h)⟩
theorem SP.bk{id:Nat}(K:SP T J bs L N r (Exit.inBlock id Q) X (Fr n s ds)):SP T J bs L (N+1) r Q (.block id X) (Fr n s ds):=⟨fun w j h=>Go.Sx.bk (K.out w j h)⟩
theorem SP.sp(K:SQ T J bs L N r Q .normal (Fr n s ds)):SP T J bs L (N+1) r Q .skip (Fr n s ds):=⟨fun w j h=>Go.Sx.sp (K.out w j h)⟩
theorem SP.xt{id:Nat}(K:SQ T J bs L N r Q (.exit id) (Fr n s ds)):SP T J bs L (N+1) r Q (.exit id) (Fr n s ds):=⟨fun w j h=>Go.Sx.xt (K.out w j h)⟩
theorem SP.rt(K:SQ T J bs L N r Q .ret (Fr n s ds)):SP T J bs L (N+1) r Q .ret (Fr n s ds):=⟨fun w j h=>Go.Sx.rt (K.out w j h)⟩
theorem SQ.tN(K:SP T J bs L N r Q Y a):SQ T J bs L (N+1) r (Exit.then (Kc r P Y Q) Q) .normal a:=⟨fun w j h=>K.out w j h⟩
theorem SQ.tX(K:SQ T J bs L N r Q (.exit j) a):SQ T J bs L (N+1) r (Exit.then K' Q) (.exit j) a:=⟨fun w j h=>K.out w j h⟩
theorem SQ.tR(K:SQ T J bs L N r Q .ret a):SQ T J bs L (N+1) r (Exit.then K' Q) .ret a:=⟨fun w j h=>K.out w j h⟩
theorem SQ.bN(K:SQ T J bs L N r Q .normal a):SQ T J bs L (N+1) r (Exit.inBlock i Q) .normal a:=⟨fun w j h=>K.out w j h⟩
theorem SQ.bR(K:SQ T J bs L N r Q .ret a):SQ T J bs L (N+1) r (Exit.inBlock i Q) .ret a:=⟨fun w j h=>K.out w j h⟩
theorem SQ.bX(K:SQ T J bs L N r Q .normal a):SQ T J bs L (N+1) r (Exit.inBlock i Q) (.exit i) a:=⟨fun w j h=>Go.Sx.bX (K.out w j h)⟩
theorem SQ.FL(K:SQ T J bs L N r Q (.exit j) a)(hne:Nat.beq j i=false:=by exact rfl):SQ T J bs L (N+1) r (Exit.inBlock i Q) (.exit j) a:=⟨fun w j h=>Go.Sx.FL hne (K.out w j h)⟩
theorem SQ.KG(K:SQ T J bs L N r Q .normal a):SQ T J bs L (N+1) r (Ay Q) .normal a:=⟨fun w j h=>Go.Sx.KG (K.out w j h)⟩
theorem SQ.K6(K:SQ T J bs L N r Q .ret a):SQ T J bs L (N+1) r (Ay Q) .ret a:=⟨fun w j h=>Go.Sx.K6 (K.out w j h)⟩
theorem SP.scp(K:SP T J bs L N r (Ay Q) X a):SP T J bs L (N+1) r Q (.scope X) a:=⟨fun w j h=>Go.Sx.scp (K.out w j h)⟩
theorem SP.KU{l:Nat}(K:SQ T J bs L N r Q .normal a):SP T J bs L (N+1) r Q (.label l) a:=⟨fun w j h=>Go.Sx.KU (K.out w j h)⟩
theorem SL.nil(K:SQ T J bs L N r Q .normal (Fr n s ds)):SL T J bs L (N+1) r ops Q [] (Fr n s ds):=⟨fun w j h=>OQ (K.out w j h)⟩
theorem SL.sk{op:Op}{g:Nat×Bool}(K:SL T J bs L N r ops Q rest (Fr n ((d,undef) :: s) ds))(hg:gy ops n s (some g)=false:=by exact rfl):SL T J bs L (N+1) r ops Q (⟨some d,op,ty,pos,af,some g⟩ :: rest) (Fr n s ds):=⟨fun w j h=>Go.Sx.sk hg (K.out w j h)⟩
theorem uR{R:gh}{L:List gh}:(R :: L)[0]? = some R:=rfl
theorem u7{R A0:gh}{L:List gh}:(A0 :: R :: L)[1]? = some R:=rfl
theorem o4{R A0 A1:gh}{L:List gh}:(A0 :: A1 :: R :: L)[2]? = some R:=rfl
theorem pE{R A0 A1 A2:gh}{L:List gh}:(A0 :: A1 :: A2 :: R :: L)[3]? = some R:=rfl
theorem vw{R A0 A1 A2 A3:gh}{L:List gh}:(A0 :: A1 :: A2 :: A3 :: R :: L)[4]? = some R:=rfl
theorem uU{R A0 A1 A2 A3 A4:gh}{L:List gh}:(A0 :: A1 :: A2 :: A3 :: A4 :: R :: L)[5]? = some R:=rfl
theorem aaH{k:IntKind}{a:Int}:(Value.int k a).cells.toList=[Value.int k a]:=rfl
theorem ZD{a:Bool}:(Value.bool a).cells.toList=[Value.bool a]:=rfl
theorem aav{a:Option Addr}:(Value.pointer a).cells.toList=[Value.pointer a]:=rfl
theorem aaP{l:List Value}:(Value.agg l.toArray).cells.toList=l:=by simp[Value.cells]
def Ae:List Value->Nat->(List Value->Option (List Value))->Option (List Value)
 | _,0,k=>k []
 | v :: l,m+1,k=>Ae l m fun r=>k (v :: r)
 | [],_+1,_=>none
def sub' (l:List Value)(o m:Nat):Option (List Value):=Ae (l.drop o) m some
theorem HV:∀ (l:List Value) (m:Nat) (k:List Value->Option (List Value)),Ae l m k=if m<=l.length then k (l.take m)else none
 | l,0,k=>by simp[Ae]
 | v :: l,m+1,k=>by simp[Ae,HV l m]
 | [],m+1,k=>by simp[Ae]
theorem HE{l vs:List Value}{o m:Nat}(h:sub' l o m=some vs):vs.length=m:=by
 unfold sub' at h
 rw[HV]at h
 split at h
 . rename_i h1
   simp at h
   rw[<-h,l5]
   omega
 . cases h
theorem NW{l vs:List Value}{o m:Nat}(h:sub' l o m=some vs):(l.drop o).take vs.length=vs:=by
 rw[HE h]
 unfold sub' at h
 rw[HV]at h
 split at h
 . simpa using h
 . cases h
theorem SL.mv  (K:SL T J bs L N r ops Q rest (Fr n ((d,v) :: s) ds)) (hx:ev n s x=v:=by conv=>lhs;whnf) (hg:gy ops n s g=true:=by exact rfl):SL T J bs L (N+1) r ops Q (⟨some d,.move x,ty,pos,af,g⟩ :: rest) (Fr n s ds):=⟨fun w j h=>pv hg rfl (iy hx) (K.out w j h)⟩
theorem SL.fa{i b o o' szf byf:Nat}{zf:Value}{fields:Array Field}{f:Field}(K:SL T J bs L N r ops Q rest (Fr n ((d,.pointer (some ⟨b,o', none⟩)) :: s) ds))(hx:ev n s x = .pointer (some ⟨b,o,none⟩):=by exact rfl)(hT:ku T.u t=some (.struct fields):=by exact rfl)(hf:fields[i]? = some f:=by exact rfl)(ht:ku T.i f.type=some (szf+1,byf,zf):=by exact rfl)(ho:o+f.offset=o' := by conv=>lhs;whnf)(hg:gy ops n s g=true:=by exact rfl):SL T J bs L (N+1) r ops Q (⟨some d,.fieldAddr t x i,ty,pos,af,g⟩ :: rest) (Fr n s ds):=⟨fun w j h=>pv hg rfl (jy hx (nZ T.oK hT) hf (q8 T.sx ht) ho) (K.out w j h)⟩
theorem SL.ld{b o i:Nat}{Tb:TypeId}{cs:List Value}{ud:TypeDesc}(K:SL T J bs L N r ops Q rest (Fr n ((d,v) :: s) ds))(hx:ev n s x = .pointer (some ⟨b,o,none⟩):=by exact rfl)(hT:ku T.u t=some ud:=by exact rfl)(hn:lK ud=false:=by exact rfl)(hi:L[i]? = some (blk b Tb cs):=by first|exact uR|exact u7|exact o4|exact pE|exact vw|exact uU|exact at6|exact at7)(hv:cs[o]? = some v:=by exact rfl)(hg:gy ops n s g=true:=by exact rfl):SL T J bs L (N+1) r ops Q (⟨some d,.load t x,ty,pos,af,g⟩ :: rest) (Fr n s ds):=⟨fun w j h=>pv hg rfl (gU hx (nZ T.oK hT) hn (h.zP hi hv)) (K.out w j h)⟩
theorem SL.Gh{b o:Nat}{Tb:TypeId}{cs:List Value}{ud:TypeDesc}(K:SL T J bs L N r ops Q rest (Fr n ((d,v) :: s) ds))(hx:ev n s x = .pointer (some ⟨b,o,none⟩):=by exact rfl)(hT:ku T.u t=some ud:=by exact rfl)(hn:lK ud=false:=by exact rfl)(hi:(blk b Tb cs).holds w0:=by assumption)(hb:(w0,[])∈bs:=by simp)(hv:cs[o]? = some v:=by exact rfl)(hg:gy ops n s g=true:=by exact rfl):SL T J bs L (N+1) r ops Q (⟨some d,.load t x,ty,pos,af,g⟩ :: rest) (Fr n s ds):=⟨fun w j h=>pv hg rfl (gU hx (nZ T.oK hT) hn (St.Jg h hb hi hv)) (K.out w j h)⟩
theorem SL.u6  (K:SL T J bs L N r ops Q rest (Fr n ((d,v) :: s) ds)) (hx:ev n s x=v:=by conv=>lhs;whnf) (hg:gy ops n s g=true:=by exact rfl):SL T J bs L (N+1) r ops Q (⟨some d,.assign x,ty,pos,af,g⟩ :: rest) (Fr n s ds):=⟨fun w j h=>pv hg rfl (pV hx) (K.out w j h)⟩
theorem SL.si{p:Addr}(K:SL T J bs L N r ops Q rest (Fr n ((d,.pointer (some p)) :: s) ds))(hx:ev n s x = .pointer (some p):=by exact rfl)(hg:gy ops n s g=true:=by exact rfl):SL T J bs L (N+1) r ops Q (⟨some d,.nilCheck x,ty,pos,af,g⟩ :: rest) (Fr n s ds):=⟨fun w j h=>pv hg rfl (j6 hx) (K.out w j h)⟩
theorem SL.cmp{op:BinOp}{t' : TypeId}{k:IntKind}{a b:Int}{c:Bool}(K:SL T J bs L N r ops Q rest (Fr n ((d,.bool c) :: s) ds))(hx:ev n s x = .int k a:=by exact rfl)(hy:ev n s y = .int k b:=by exact rfl)(hc:j9 op a b=some c:=by first|exact tD (by first|assumption|decide)|exact Ca (by first|assumption|decide)|exact p5 (by first|assumption|decide)|exact mL (by first|assumption|decide)|exact Cn (by first|assumption|decide)|exact Jq (by first|assumption|decide)|exact Fk (by first|assumption|decide)|exact vT (by first|assumption|decide)|exact c_gt (by first|assumption|decide)|exact uA (by first|assumption|decide)|exact qF (by first|assumption|decide)|exact xK (by first|assumption|decide))(hg:gy ops n s g=true:=by exact rfl):SL T J bs L (N+1) r ops Q (⟨some d,.binOp op t x y t', ty,pos,af,g⟩ :: rest) (Fr n s ds):=⟨fun w j h=>pv hg rfl (rA hx hy hc) (K.out w j h)⟩
theorem SL.ar{op:BinOp}{t' : TypeId}{k:IntKind}{a b c e:Int}(K:SL T J bs L N r ops Q rest (Fr n ((d,.int k e) :: s) ds))(hx:ev n s x = .int k a:=by exact rfl)(hy:ev n s y = .int k b:=by exact rfl)(hc:AU op a b=some c:=by exact rfl)(hw:k.wrap c=e:=by first|exact iZ o_|exact Ax o_|exact w8u o_|exact w32u o_)(hg:gy ops n s g=true:=by exact rfl):SL T J bs L (N+1) r ops Q (⟨some d,.binOp op t x y t', ty,pos,af,g⟩ :: rest) (Fr n s ds):=⟨fun w j h=>pv hg rfl (kV hx hy hc hw) (K.out w j h)⟩
theorem SL.ex{i:Nat}{vs:Array Value}(K:SL T J bs L N r ops Q rest (Fr n ((d,v) :: s) ds))(hx:ev n s x = .tuple vs:=by exact rfl)(hv:vs[i]? = some v:=by exact rfl)(hg:gy ops n s g=true:=by exact rfl):SL T J bs L (N+1) r ops Q (⟨some d,.extract x i,ty,pos,af,g⟩ :: rest) (Fr n s ds):=⟨fun w j h=>pv hg rfl (xS hx hv) (K.out w j h)⟩
theorem SL.pH{b o i sz by_:Nat}{zv:Value}{Tb:TypeId}{cs vs:List Value}{ud:TypeDesc}(K:SL T J bs L N r ops Q rest (Fr n ((d,.agg vs.toArray) :: s) ds))(hx:ev n s x = .pointer (some ⟨b,o,none⟩):=by exact rfl)(hT:ku T.u t=some ud:=by exact rfl)(hn:lK ud=true:=by exact rfl)(ht:ku T.i t=some (sz,by_,zv):=by exact rfl)(hi:L[i]? = some (blk b Tb cs):=by first|exact uR|exact u7|exact o4|exact pE|exact vw|exact uU|exact at6|exact at7)(hv:sub' cs o sz=some vs:=by exact rfl)(hg:gy ops n s g=true:=by exact rfl):SL T J bs L (N+1) r ops Q (⟨some d,.load t x,ty,pos,af,g⟩ :: rest) (Fr n s ds):=⟨fun w j h=>pv hg rfl (pU hx (nZ T.oK hT) hn (q8 T.sx ht) (HE hv) (h.HT hi (NW hv))) (K.out w j h)⟩
theorem SL.not{b:Bool}(K:SL T J bs L N r ops Q rest (Fr n ((d,.bool !b) :: s) ds))(hx:ev n s x = .bool b:=by exact rfl)(hg:gy ops n s g=true:=by exact rfl):SL T J bs L (N+1) r ops Q (⟨some d,.unOp .not t x,ty,pos,af,g⟩ :: rest) (Fr n s ds):=⟨fun w j h=>pv hg rfl (JJ hx rfl) (K.out w j h)⟩
theorem SL.pT  (K:SL T J bs L N r ops Q rest (Fr n ((d,v) :: s) ds)) (hc:ev n s x = .bool true:=by exact rfl) (hx:ev n s y=v:=by conv=>lhs;whnf) (hg:gy ops n s g=true:=by exact rfl):SL T J bs L (N+1) r ops Q (⟨some d,.pick x y z,ty,pos,af,g⟩ :: rest) (Fr n s ds):=⟨fun w j h=>pv hg rfl (JL hc hx) (K.out w j h)⟩
theorem SL.pF  (K:SL T J bs L N r ops Q rest (Fr n ((d,v) :: s) ds)) (hc:ev n s x = .bool false:=by exact rfl) (hx:ev n s z=v:=by conv=>lhs;whnf) (hg:gy ops n s g=true:=by exact rfl):SL T J bs L (N+1) r ops Q (⟨some d,.pick x y z,ty,pos,af,g⟩ :: rest) (Fr n s ds):=⟨fun w j h=>pv hg rfl (JG hc hx) (K.out w j h)⟩
theorem SL.mA{e:TypeId}{k:IntKind}{b o o' m i sz by_:Nat}{zv:Value}(K:SL T J bs L N r ops Q rest (Fr n ((d,.pointer (some ⟨b,o', none⟩)) :: s) ds))(hx:ev n s x = .pointer (some ⟨b,o,none⟩):=by exact rfl)(hy:ev n s y = .int k i:=by exact rfl)(hT:ku T.u t=some (.array m e):=by exact rfl)(ht:ku T.i e=some (sz,by_,zv):=by exact rfl)(ho:o+i*sz=o' := by conv=>lhs;whnf)(h0:(i:Int)<m:=by decide)(hg:gy ops n s g=true:=by exact rfl):SL T J bs L (N+1) r ops Q (⟨some d,.indexAddr t x y,ty,pos,af,g⟩ :: rest) (Fr n s ds):=⟨fun w j h=>pv hg rfl (vM hx hy (nZ T.oK hT) (q8 T.sx ht) ⟨o_,h0⟩ (by simpa using ho)) (K.out w j h)⟩
theorem SL.nq{b o i sz by_:Nat}{zv:Value}{Tb:TypeId}{cs cs' vs:List Value}(K:SL T (fun _=>True) bs L' N r ops Q rest (Fr n s ds))(hx:ev n s x = .pointer (some ⟨b,o,none⟩):=by exact rfl)
 (hv:ev n s y=v:=by conv=>lhs;whnf) (hy:v.cells.toList=vs:=by first|exact aaH|exact ZD|exact aav|exact cSl|exact aaP|exact cNilF|exact cMap|exact rfl) (ht:ku T.i t=some (sz,by_,zv):=by exact rfl) (hsz:vs.length=sz:=by exact rfl) (h1:vs.all (·.oneCell')=true:=by exact rfl) (hi:L[i]? = some (blk b Tb cs):=by first|exact uR|exact u7|exact o4|exact pE|exact vw|exact uU|exact at6|exact at7)
 (hf:Nat.ble (o+vs.length) cs.length=true:=by exact rfl) (hcs:setAt cs o vs=cs' := by dsimp only[setAt,List.take,List.drop,List.length,List.append,HAppend.hAppend,Append.append]<;>exact rfl) (hL:L.set i (blk b Tb cs')=L' := by dsimp only[List.set]<;>exact rfl) (hg:gy ops n s g=true:=by exact rfl) :
 SL T (fun _=>True) bs L (N+1) r ops Q (⟨none,.store t x y,ty,pos,af,g⟩ :: rest) (Fr n s ds):=⟨fun w j h=>Go.Sx.nq i hg hx hv hy (q8 T.sx ht) hsz h1 h hi hf hcs hL fun w' h' => K.out w' trivial h'⟩
theorem run{p q:Prop} (h:p->q:=by
 intro h
 repeat (first
  | refine SP.sq ?_|refine SP.rg ?_|refine SL.mv ?_|refine SL.nil ?_|refine SQ.tN ?_|refine SL.KC ?_|refine SL.fa ?_|refine SL.ld ?_|refine SL.Kl ?_|refine SL.Gh ?_|refine SL.ldoK ?_|refine SL.u6 ?_|refine SL.si ?_|refine SL.cmp ?_|refine SP.cT ?_|refine SP.cF ?_|refine SL.ar ?_|refine SL.ex ?_|refine SL.KT ?_|refine SL.KQ ?_|refine SL.K3 ?_|refine SL.Kf ?_|refine SL.jj ?_|refine SL.Bb ?_|refine SL.l6 ?_|refine SL.pH ?_|refine SL.ldoA ?_|refine SL.ldKA ?_|refine SL.ldoKA ?_|refine SL.not ?_|refine SL.pT ?_|refine SL.pF ?_|refine SL.mA ?_|refine SL.ixG ?_|refine SL.fldG ?_|refine SL.len ?_|refine SL.nP ?_|refine SL.eP ?_|refine SL.nq ?_|refine SL.sk ?_|refine SL.skN ?_|refine SP.bk ?_|refine SP.sp ?_|refine SP.xt ?_|refine SP.rt ?_|refine SQ.tX ?_|refine SQ.tR ?_|refine SQ.bN ?_|refine SQ.bR ?_|refine SQ.bX ?_|refine SQ.FL ?_|refine SP.scp ?_|refine SQ.KG ?_|refine SQ.scX ?_|refine SQ.K6 ?_|refine SP.KU ?_)
 exact h):p->q:=h
variable {ops' : Array Oper} {Q' : Exit->Act->World->Prop} {l' : List Oper} {a' : Act} {c c' : Code} {e e' : Exit}
theorem kL[T:TT P](hst:St bs L w)(N:Nat)(k:∀ w', St bs L' w' -> WL r P ops' Q' l' a' w')(h:SL T (fun _=>True) bs L' 0 r ops' Q' l' a' -> SL T (fun _=>True) bs L N r ops Q l a:=by exact run):WL r P ops Q l a w:=(h ⟨fun w' _ hs=>k w' hs⟩).out w trivial hst
theorem fQ[T:TT P](hst:St bs L w)(N:Nat)(k:WL r P ops' Q' l' a' w)(h:SL T (fun x=>x=w) bs L 0 r ops' Q' l' a' -> SL T (fun x=>x=w) bs L N r ops Q l a:=by exact run):WL r P ops Q l a w:=(h ⟨fun w' j _=>by subst j;exact k⟩).out w rfl hst
theorem yU[T:TT P](hst:St bs L w)(N:Nat)(k:∀ w', St bs L' w' -> WP r P c' Q' a' w')(h:SP T (fun _=>True) bs L' 0 r Q' c' a' -> SL T (fun _=>True) bs L N r ops Q l a:=by exact run):WL r P ops Q l a w:=(h ⟨fun w' _ hs=>k w' hs⟩).out w trivial hst
theorem gL[T:TT P](hst:St bs L w)(N:Nat)(k:WP r P c' Q' a' w)(h:SP T (fun x=>x=w) bs L 0 r Q' c' a' -> SL T (fun x=>x=w) bs L N r ops Q l a:=by exact run):WL r P ops Q l a w:=(h ⟨fun w' j _=>by subst j;exact k⟩).out w rfl hst
theorem mR[T:TT P](hst:St bs L w)(N:Nat)(k:∀ w', St bs L' w' -> Q' e' a' w')(h:SQ T (fun _=>True) bs L' 0 r Q' e' a' -> SL T (fun _=>True) bs L N r ops Q l a:=by exact run):WL r P ops Q l a w:=(h ⟨fun w' _ hs=>k w' hs⟩).out w trivial hst
theorem fW[T:TT P](hst:St bs L w)(N:Nat)(k:Q' e' a' w)(h:SQ T (fun x=>x=w) bs L 0 r Q' e' a' -> SL T (fun x=>x=w) bs L N r ops Q l a:=by exact run):WL r P ops Q l a w:=(h ⟨fun w' j _=>by subst j;exact k⟩).out w rfl hst
theorem gf[T:TT P](hst:St bs L w)(N:Nat)(k:WL r P ops' Q' l' a' w)(h:SL T (fun x=>x=w) bs L 0 r ops' Q' l' a' -> SP T (fun x=>x=w) bs L N r Q c a:=by exact run):WP r P c Q a w:=(h ⟨fun w' j _=>by subst j;exact k⟩).out w rfl hst
theorem wm[T:TT P](hst:St bs L w)(N:Nat)(k:WP r P c' Q' a' w)(h:SP T (fun x=>x=w) bs L 0 r Q' c' a' -> SP T (fun x=>x=w) bs L N r Q c a:=by exact run):WP r P c Q a w:=(h ⟨fun w' j _=>by subst j;exact k⟩).out w rfl hst
theorem jm[T:TT P](hst:St bs L w)(N:Nat)(k:Q' e' a' w)(h:SQ T (fun x=>x=w) bs L 0 r Q' e' a' -> SP T (fun x=>x=w) bs L N r Q c a:=by exact run):WP r P c Q a w:=(h ⟨fun w' j _=>by subst j;exact k⟩).out w rfl hst
theorem QN(T:TT P)(r:Option Nat)(hst:St bs L w)(N:Nat)(k:∀ w', St bs L' w' -> WL r P ops' Q' l' a' w')(h:SL T (fun _=>True) bs L' 0 r ops' Q' l' a' -> SQ T (fun _=>True) bs L N r Q e a:=by exact run):Q e a w:=(h ⟨fun w' _ hs=>k w' hs⟩).out w trivial hst
theorem ng(T:TT P)(r:Option Nat)(hst:St bs L w)(N:Nat)(k:WL r P ops' Q' l' a' w)(h:SL T (fun x=>x=w) bs L 0 r ops' Q' l' a' -> SQ T (fun x=>x=w) bs L N r Q e a:=by exact run):Q e a w:=(h ⟨fun w' j _=>by subst j;exact k⟩).out w rfl hst
theorem Qu(T:TT P)(r:Option Nat)(hst:St bs L w)(N:Nat)(k:∀ w', St bs L' w' -> WP r P c' Q' a' w')(h:SP T (fun _=>True) bs L' 0 r Q' c' a' -> SQ T (fun _=>True) bs L N r Q e a:=by exact run):Q e a w:=(h ⟨fun w' _ hs=>k w' hs⟩).out w trivial hst
theorem kF(T:TT P)(r:Option Nat)(hst:St bs L w)(N:Nat)(k:WP r P c' Q' a' w)(h:SP T (fun x=>x=w) bs L 0 r Q' c' a' -> SQ T (fun x=>x=w) bs L N r Q e a:=by exact run):Q e a w:=(h ⟨fun w' j _=>by subst j;exact k⟩).out w rfl hst
theorem KS(T:TT P)(r:Option Nat)(hst:St bs L w)(N:Nat)(k:∀ w', St bs L' w' -> Q' e' a' w')(h:SQ T (fun _=>True) bs L' 0 r Q' e' a' -> SQ T (fun _=>True) bs L N r Q e a:=by exact run):Q e a w:=(h ⟨fun w' _ hs=>k w' hs⟩).out w trivial hst
theorem iN(T:TT P)(r:Option Nat)(hst:St bs L w)(N:Nat)(k:Q' e' a' w)(h:SQ T (fun x=>x=w) bs L 0 r Q' e' a' -> SQ T (fun x=>x=w) bs L N r Q e a:=by exact run):Q e a w:=(h ⟨fun w' j _=>by subst j;exact k⟩).out w rfl hst
end
end Go.Sx
namespace Go.Sx
open Go
section
variable {P:Program} {ops:Array Oper} {n:Nat} {o:Oper} {s sA sE:List (Nat×Value)} {v:Value} {w w0 w1:World} {C:World->Prop}
def Rd(P:Program)(ops:Array Oper)(n:Nat)(o:Oper)(s:List (Nat×Value))(v:Value)(I:World->Prop):Prop:=∀ w,I w->mT P ops n o s v I w
def RA(P:Program)(ops:Array Oper)(n:Nat)(I:World->Prop):Nat->List Oper->List (Nat×Value)->List Value->List (Nat×Value)->List Oper->Prop
 | 0,l,s,[],sE,R=>s=sE/\l=R
 | m+1,o :: l,s,v :: vs,sE,R=>Rd P ops n o s v I/\RA P ops n I m l (jJ o.dst v s) vs sE R
 | _,_,_,_,_,_=>False
def RC(P:Program)(ops:Array Oper)(n:Nat)(I:World->Prop):Nat->List Nat->List Oper->List (Nat×Value)->List Value->Prop
 | i,k,o :: l,s,v :: vs=>(i∈k\/Rd P ops n o s v I)/\RC P ops n I (i+1) k l (jJ o.dst v s) vs
 | _,_,_,_,[]=>True
 | _,_,_,_,_=>False
def RU(P:Program)(ops:Array Oper)(n:Nat)(I:World->Prop):List Oper->List (Nat×Value)->List (Option Value)->Prop
 | o :: l,s,none :: cs=>∀ u,RU P ops n I l (jJ o.dst u s) cs
 | o :: l,s,some c :: cs=>Rd P ops n o s c I/\RU P ops n I l (jJ o.dst c s) cs
 | [],_,[]=>True
 | _,_,_=>False
def MC:List (Option Value)->List Value->Prop
 | none :: cs,_ :: vs=>MC cs vs
 | some c :: cs,v :: vs=>v=c/\MC cs vs
 | [],[]=>True
 | _,_=>False
def pX:Nat->List (Option Value)->List Nat
 | _,[]=>[]
 | i,none :: cs=>i :: pX (i+1) cs
 | i,some _ :: cs=>pX (i+1) cs
def aaj(e:Edge):Bool:=match e.ground with
 | .textOnly _=>false
 | .gcOnly _=>false
 | _=>true
def sH(l:List Oper):List (List Nat) :=
 l.foldl (fun acc o=>acc++[o.after.toList.foldl (fun a e=>bif aaj e then a++(e.on :: acc.getD e.on []).filter (fun x => !a.contains x)else a) []]) []
def Kw(P:Program)(ops:Array Oper)(n:Nat)(ds:List Deferred)(Q:Exit->Act->World->Prop)(l:List Oper)(s:List (Nat×Value))(vA:List Value)(sA:List (Nat×Value))(k:List Nat)(d:Option Nat)(B:List Oper)(cs:List (Option Value))(v:Value)(w1:World):Prop :=
 ∃ I:World->Prop,I w1/\RC P ops n I 0 k l s vA/\∃ vB sE,RA P ops n I B.length B (jJ d v sA) vB sE []/\MC cs vB/\∀ w', I w' -> Q .normal (Fr n sE ds) w'
section
variable {I:World->Prop}
theorem RA.len:∀ {m:Nat} {l:List Oper} {s:List (Nat×Value)} {vs:List Value} {sE:List (Nat×Value)} {R:List Oper},RA P ops n I m l s vs sE R->vs.length=m/\l.length=m+R.length
 | 0,l,s,[],sE,R,h=>⟨rfl,by rw[h.2];simp⟩
 | m+1,o :: l,s,v :: vs,sE,R,h=>by
  have:=RA.len h.2
  simp only[zk]
  omega
 | 0,_,_,_ :: _,_,_,h=>h.elim
 | m+1,[],_,_,_,_,h=>h.elim
 | m+1,_ :: _,_,[],_,_,h=>h.elim
theorem RU.len:∀ {l:List Oper} {s:List (Nat×Value)} {cs:List (Option Value)},RU P ops n I l s cs->cs.length=l.length
 | o :: l,s,none :: cs,h=>by simp[RU.len (h undef)]
 | o :: l,s,some c :: cs,h=>by simp[RU.len h.2]
 | [],_,[],_=>rfl
 | [],_,_ :: _,h=>h.elim
 | _ :: _,_,[],h=>h.elim
end
end
section
variable {Γ:Type} {r:Option Nat} {P:Program} {Q:Exit->Act->World->Prop} {n:Nat} {ds:List Deferred} {l l0:List Oper} {ops:Array Oper} {pre:List (List Nat)}
def su(F:Γ->List Value):Nat->List (Option Value)->List (Γ->Value)
 | _,[]=>[]
 | i,some c :: cs=>(fun _=>c) :: su F (i+1) cs
 | i,none :: cs=>(fun g=>((F g)[i]?).getD undef) :: su F (i+1) cs
theorem HZ{F:Γ->List Value}{g:Γ}:∀ {cs:List (Option Value)} {vs:List Value} {i:Nat},MC cs vs->(F g).drop i=vs->(su F i cs).map (· g)=vs
 | none :: cs,v :: vs,i,h,e=>by
  have h1:(F g)[i]? = some v:=by
   have:=congrArg (fun l=>l[0]?) e
   simpa using this
  have h2:(F g).drop (i+1)=vs:=by
   have:=congrArg List.tail e
   simpa[List.tail_drop]using this
  simp[su,h1,HZ (cs:=cs) h h2]
 | some c :: cs,v :: vs,i,h,e=>by
  have h2:(F g).drop (i+1)=vs:=by
   have:=congrArg List.tail e
   simpa[List.tail_drop]using this
  simp[su,h.1,HZ h.2 h2]
 | [],[],_,_,_=>rfl
 | none :: _,[],_,h,_=>h.elim
 | some _ :: _,[],_,h,_=>h.elim
 | [],_ :: _,_,h,_=>h.elim
theorem NV{S:Nat->Bool}{v:Value}{vs:List Value}{o:Oper}{l:List Oper}{s:List (Nat×Value)}(h:∀ i,S i=true):∀ i,gY S i (o :: l) (v :: vs) s=gY S (i+1) l vs (jJ o.dst v s):=by
 intro i;simp[gY,h i]
theorem RA.sl{I:World->Prop}:∀ {m:Nat} {l:List Oper} {s:List (Nat×Value)} {vs vr:List Value} {sE:List (Nat×Value)} {R:List Oper} {i:Nat},RA P ops n I m l s vs sE R->gY (fun _=>true) i l (vs++vr) s=gY (fun _=>true) (i+m) R vr sE
 | 0,l,s,[],vr,sE,R,i,h=>by rw[h.1,h.2];rfl
 | m+1,o :: l,s,v :: vs,vr,sE,R,i,h=>by
  rw[qc,NV (fun _=>rfl),RA.sl h.2,show i+1+m=i+(m+1) by omega]
 | 0,_,_,_ :: _,_,_,_,_,h=>h.elim
 | m+1,[],_,_,_,_,_,_,h=>h.elim
 | m+1,_ :: _,_,[],_,_,_,_,h=>h.elim
theorem P5{I0:World->Prop}{s0:List (Nat×Value)}{mem:List Nat}{V:List (Γ->Value)}{M:Nat->Γ->World->Prop}{Post:Γ->Prop}{W:Γ->World->Prop}{k:List Nat}{Vr:List (Γ->Value)}{R:List Oper}{sA:List (Nat×Value)}(hM0:∀ g,M 0 g=I0)(hM1:∀ g w,M 1 g w->W g w/\Post g)(hM1' : ∀ g w,W g w->Post g->M 1 g w)(hM2:∀ p g w,¬ M (p+2) g w)
 (hk:∀ i,i∈k->uS pre mem i=0):∀ (m:Nat) (l:List Oper) (i:Nat) (s:List (Nat×Value)) (vA:List Value),(∀ j,i<=j->j<i+m->mem.contains j=false)->RA P ops n I0 m l s vA sA R->(∀ g,Post g->RC P ops n (W g) i k l s vA) ->
 mq P ops Q n ds s0 l0 pre mem V M (i+m) (fun _=>sA) R Vr->mq P ops Q n ds s0 l0 pre mem V M i (fun _=>s) l (vA.map (fun v _=>v)++Vr)
 | 0,l,i,s,[],hm,hA,hC,K=>by rw[hA.1,hA.2];simpa using K
 | m+1,o :: l,i,s,v :: vs,hm,hA,hC,K=>by
  refine⟨?_,P5 hM0 hM1 hM1' hM2 hk m l (i+1) _ vs (fun j h1 h2=>hm j o_ o_) hA.2 (fun g hg=>(hC g hg).2) (by rw[show i+1+m=i+(m+1) by omega];exact K)⟩
  rw[hm i (zp _) o_]
  intro p g w h1 h2 hM
  match p with
  | 0=>rw[hM0 g]at hM ⊢;exact hA.1 w hM
  | 1 =>
   obtain⟨hW,hP⟩:=hM1 g w hM
   rcases(hC g hP).1 with h3|h3
   . have:=hk i h3;omega
   . exact mT.congr (fun w' h=>hM1' g w' h hP) (h3 w hW)
  | p+2=>exact absurd hM (hM2 p g w)
 | 0,_,_,_,_ :: _,_,h,_,_=>h.elim
 | m+1,[],_,_,_,_,h,_,_=>h.elim
 | m+1,_ :: _,_,_,[],_,h,_,_=>h.elim
theorem JZ(g0:Γ){I0:World->Prop}{s0:List (Nat×Value)}{mem:List Nat}{V:List (Γ->Value)}{M:Nat->Γ->World->Prop}{Post:Γ->Prop}{W:Γ->World->Prop}{F:Γ->List Value}(hM0:∀ g,M 0 g=I0)(hM1:∀ g w,M 1 g w->W g w/\Post g)(hM1' : ∀ g w,W g w->Post g->M 1 g w)(hM2:∀ p g w,¬ M (p+2) g w) :
 ∀ (B:List Oper) (i j:Nat) (s:Γ->List (Nat×Value)) (cs:List (Option Value)),(∀ q,j<=q->mem.contains q=false)->(∀ q∈pX j cs,1<=u9 pre mem q)->(∀ g,Post g->∃ sE,RA P ops n (W g) B.length B (s g) ((su F i cs).map (· g)) sE [])->(∀ g,RU P ops n I0 B (s g) cs) ->
 mq P ops Q n ds s0 l0 pre mem V M j s B (su F i cs)
 | [],i,j,s,[],hm,hn,h1,hU=>trivial
 | o :: B,i,j,s,none :: cs,hm,hn,h1,hU=>by
  refine⟨?_,JZ g0 hM0 hM1 hM1' hM2 B (i+1) (j+1) _ cs (fun q hq=>hm q o_) (fun q hq=>hn q (by simp only[pX,zg];exact .inr hq)) (fun g hg=>?_) (fun g=>hU g _)⟩
  . rw[hm j (zp _)]
    intro p g w h2 h3 hM
    have h4:=hn j (by simp[pX])
    match p with
    | 0=>omega
    | 1 =>
     obtain⟨hW,hP⟩:=hM1 g w hM
     obtain⟨sE,h5⟩:=h1 g hP
     exact mT.congr (fun w' h=>hM1' g w' h hP) (h5.1 w hW)
    | p+2=>exact absurd hM (hM2 p g w)
  . obtain⟨sE,h5⟩:=h1 g hg
    exact⟨sE,h5.2⟩
 | o :: B,i,j,s,some c :: cs,hm,hn,h1,hU=>by
  refine⟨?_,JZ g0 hM0 hM1 hM1' hM2 B (i+1) (j+1) _ cs (fun q hq=>hm q o_) (fun q hq=>hn q (by simpa[pX]using hq)) (fun g hg=>?_) (fun g=>(hU g).2)⟩
  . rw[hm j (zp _)]
    intro p g w h2 h3 hM
    match p with
    | 0=>rw[hM0 g]at hM ⊢;exact(hU g).1 w hM
    | 1 =>
     obtain⟨hW,hP⟩:=hM1 g w hM
     obtain⟨sE,h5⟩:=h1 g hP
     exact mT.congr (fun w' h=>hM1' g w' h hP) (h5.1 w hW)
    | p+2=>exact absurd hM (hM2 p g w)
  . obtain⟨sE,h5⟩:=h1 g hg
    exact⟨sE,h5.2⟩
 | [],_,_,_,_ :: _,_,_,_,hU=>(hU g0).elim
 | _ :: _,_,_,_,[],_,_,_,hU=>(hU g0).elim
theorem Pd{i:Nat}{g g' : Γ}{Vr:List (Γ->Value)}:∀ (vA:List Value) (k:Nat),jD pre i g g' (k+vA.length) Vr->jD pre i g g' k (vA.map (fun v _=>v)++Vr)
 | [],k,h=>by simpa using h
 | v :: vA,k,h=>⟨by cases ((pre.getD k []).contains i||k==i)<;>simp,Pd vA (k+1) (by rw[show k+1+vA.length=k+(vA.length+1) by omega];exact h)⟩
theorem JP{i:Nat}{g g' : Γ}{F:Γ->List Value}:∀ (cs:List (Option Value)) (a k:Nat),(∀ q∈pX k cs,(pre.getD q []).contains i=true)->jD pre i g g' k (su F a cs)
 | [],_,_,_=>trivial
 | none :: cs,a,k,h=>⟨by rw[h k (by simp[pX])];simp,JP cs (a+1) (k+1) fun q hq=>h q (by simp only[pX,zg];exact .inr hq)⟩
 | some c :: cs,a,k,h=>⟨by cases ((pre.getD k []).contains i||k==i)<;>simp,JP cs (a+1) (k+1) fun q hq=>h q (by simpa[pX]using hq)⟩
def J1(l:List Oper)(m:Nat)(k:List Nat)(nb:List Nat):Bool :=
 let pre:=sH l
 Ai l pre [m]&&(k.all fun i=>(pre.getD m []).contains i)&&(nb.all fun q=>(pre.getD q []).contains m)
theorem aaG{id m:Nat}{w:World}{I0:World->Prop}{s sA:List (Nat×Value)}{vA:List Value}{k:List Nat}{o:Oper}{B:List Oper}{cs:List (Option Value)}(hmx:P.follows .mixedOrders=true)(hok:J1 l m k (pX (m+1) cs)=true)(hI0:I0 w.drew)
 (hA:RA P l.toArray n I0 m l s vA sA (o :: B)) (hU:∀ v,RU P l.toArray n I0 B (jJ o.dst v sA) cs)
 (h:∀ w', I0 w' -> lB P l.toArray Q n ds s l o sA (Kw P l.toArray n ds Q l s vA sA k o.dst B cs) w'):WP r P (.region id l.toArray true) Q (Fr n s ds) w:=by
 simp only[J1,zt]at hok
 obtain⟨⟨hreg,hk⟩,hn⟩:=hok
 have hk' : ∀ i,i∈k->uS (sH l) [m] i=0:=fun i hi=>by
  have:=zz.1 hk i hi
  simp only[uS,u5,List.countP_nil,this]
  simp
 have hn' : ∀ q∈pX (m+1) cs,((sH l).getD q []).contains m=true:=fun q hq=>zz.1 hn q hq
 have hn'' : ∀ q∈pX (m+1) cs,1<=u9 (sH l) [m] q:=fun q hq=>by
  simp only[u9,u5,List.countP_nil,hn' q hq]
  simp
 obtain⟨hlA,hll⟩:=hA.len
 have hcB:=(hU undef).len
 let Post:Value×(World->Prop)->Prop:=fun g=>RC P l.toArray n g.2 0 k l s vA/\∃ vB sE,RA P l.toArray n g.2 B.length B (jJ o.dst g.1 sA) vB sE []/\MC cs vB/\∀ w', g.2 w' -> Q .normal (Fr n sE ds) w'
 let F:Value×(World->Prop)->List Value:=fun g=>open Classical in if h:Post g then Classical.choose h.2 else[]
 have hF:∀ g,Post g->∃ sE,RA P l.toArray n g.2 B.length B (jJ o.dst g.1 sA) (F g) sE []/\MC cs (F g)/\∀ w', g.2 w' -> Q .normal (Fr n sE ds) w' := fun g hg=>by
  have e:F g=Classical.choose hg.2:=dif_pos hg
  rw[e]
  exact Classical.choose_spec hg.2
 let M:Nat->Value×(World->Prop)->World->Prop:=fun p g=>match p with
  | 0=>I0
  | 1=>fun w' => g.2 w' /\ Post g
  | _=>fun _=>False
 have hM0:∀ g,M 0 g=I0:=fun g=>rfl
 have hM1:∀ g w', M 1 g w' -> g.2 w' /\ Post g:=fun g w' h=>h
 have hM1' : ∀ g w', g.2 w' -> Post g->M 1 g w' := fun g w' h h' => ⟨h,h'⟩
 have hM2:∀ p g w', ¬ M (p+2) g w' := fun p g w' h=>h
 have hVm:∀ g,Post g->(su F 0 cs).map (· g)=F g:=fun g hg=>by
  obtain⟨sE,_,h2,_⟩:=hF g hg
  exact HZ h2 rfl
 let V:List (Value×(World->Prop)->Value):=vA.map (fun v _=>v)++(fun g=>g.1) :: su F 0 cs
 refine Lb hmx (sH l) [m] hreg V M (undef,I0) (fun g=>gY (fun _=>true) 0 l (V.map (· g)) s) hI0 ?_ (fun g=>rfl) fun g w' hM=>?_
 . refine P5 (W:=fun g=>g.2) hM0 hM1 hM1' hM2 hk' m l 0 s vA (fun j _ hj=>by simp;omega) hA (fun g hg=>hg.1) ?_
   refine⟨?_,?_⟩
   . have e1:([m]:List Nat).contains (0+m)=true:=by simp
     have e2:([m]:List Nat).idxOf (0+m)=0:=by simp
     rw[e1,e2]
     intro g w' hM
     refine lB.mono (fun v' w1 hAft=>?_) (h w' hM)
     obtain⟨I1,hI1,hA1,vB,sE,hA2,hA3,hA4⟩:=hAft
     refine⟨(v', I1),⟨hI1,hA1,vB,sE,hA2,hA3,hA4⟩,rfl,Pd vA 0 ?_⟩
     refine⟨by simp[hlA],JP cs 0 _ fun q hq=>?_⟩
     have:=hn' q (by rw[show m+1=0+vA.length+1 by omega];exact hq)
     rwa [jF]
   . refine JZ (undef,I0) (W:=fun g=>g.2) hM0 hM1 hM1' hM2 B 0 (0+m+1) _ cs (fun q hq=>by simp;omega) (fun q hq=>hn'' q (by rw[show m+1=0+m+1 by omega];exact hq)) (fun g hg=>?_) fun g=>hU g.1
     obtain⟨sE,h1,_,_⟩:=hF g hg
     exact⟨sE,by rw[hVm g hg];exact h1⟩
 . obtain⟨hW,hP⟩:=hM1 g w' hM
   obtain⟨sE,h1,_,h3⟩:=hF g hP
   have e:gY (fun _=>true) 0 l (V.map (· g)) s=sE:=by
    have e1:V.map (· g)=vA++(g.1 :: F g):=by
     show (vA.map (fun v (_:Value×(World->Prop))=>v)++(fun g:Value×(World->Prop)=>g.1) :: su F 0 cs).map (fun f=>f g)=_
     simp only[qM,Bd,zy,hVm g hP]
     congr 1
     conv=>rhs;rw[<-List.map_id vA]
     rfl
    rw[e1,hA.sl,NV (fun _=>rfl)]
    have:=h1.sl (i:=0+m+1) (vr:=[])
    rw[mD]at this
    rw[this]
    simp[gY]
   rw[e]
   exact h3 w' hW
theorem aar{id:Nat}{w:World}{I0:World->Prop}{s sE:List (Nat×Value)}{vA:List Value}(hmx:P.follows .mixedOrders=true)(hok:Ai l (sH l) []=true)(hI0:I0 w.drew)(hA:RA P l.toArray n I0 l.length l s vA sE [])(h:∀ w', I0 w' -> Q .normal (Fr n sE ds) w') :
 WP r P (.region id l.toArray true) Q (Fr n s ds) w:=by
 let M:Nat->Unit->World->Prop:=fun p g=>match p with
  | 0=>I0
  | _=>fun _=>False
 have key:∀ (l' : List Oper) (i:Nat) (s' : List (Nat×Value)) (vs:List Value),RA P l.toArray n I0 l'.length l' s' vs sE []->mq P l.toArray Q n ds s l (sH l) [] (vA.map (fun v _=>v)) M i (fun _=>s') l' (vs.map (fun v _=>v)):=by
  intro l'
  induction l' with
  | nil=>intro i s' vs h;cases vs with|nil=>trivial|cons v vs=>exact h.elim
  | cons o l' ih =>
   intro i s' vs h
   cases vs with
   | nil=>exact h.elim
   | cons v vs =>
    refine⟨?_,ih (i+1) _ vs h.2⟩
    show ∀ p g w', _->_->M p g w' -> _
    intro p g w' _ _ hM
    match p with
    | 0=>exact h.1 w' hM
    | p+1=>exact hM.elim
 refine Lb hmx (sH l) [] hok (vA.map (fun v _=>v)) M () (fun _=>sE) hI0 (key l 0 s vA hA) (fun g=>?_) fun g w' hM=>h w' hM
 have:=hA.sl (i:=0) (vr:=[])
 rw[mD]at this
 rw[Bd]
 have e:vA.map ((fun x=>x g)∘fun v (_:Unit)=>v)=vA:=by
  conv=>rhs;rw[<-List.map_id vA]
  rfl
 rw[e,this]
 simp[gY]
end
end Go.Sx
namespace Go.Sx
open Go
section
variable {P:Program}
def Rw(P:Program)(n:Nat)(s:List (Nat×Value))(o:Oper)(v:Value)(C:World->Prop)(w:World):Prop:=(execOp (ev n s) o).run P w = .ok (.value v) w\/∃ f args,(execOp (ev n s) o).run P w = .ok (.enter f args) w/\CR P f args w (fun v' w' => v' = v/\C w')
theorem rv{o:Oper}{v:Value}{n:Nat}{s:List (Nat×Value)}{C:World->Prop}{w:World}(h:(execOp (ev n s) o).run P w = .ok (.value v) w):Rw P n s o v C w:=.inl h
theorem rc{o:Oper}{v:Value}{n:Nat}{s:List (Nat×Value)}{C:World->Prop}{w:World}{f:FuncId}{args:Array Value}(h:(execOp (ev n s) o).run P w = .ok (.enter f args) w)(hc:CR P f args w (fun v' w' => v' = v/\C w')):Rw P n s o v C w:=.inr ⟨f,args,h,hc⟩
structure Rf (T:TT P) (bs:List (World×List Nat)) (L:List gh) (ops:Array Oper) (n:Nat) (o:Oper) (s:List (Nat×Value)) (v:Value):Prop where
 out:Rd P ops n o s v (St bs L)
structure DA (T:TT P) (bs:List (World×List Nat)) (L:List gh) (ops:Array Oper) (n m:Nat) (l:List Oper) (s:List (Nat×Value)) (vs:List Value) (sE:List (Nat×Value)) (R:List Oper):Prop where
 out:RA P ops n (St bs L) m l s vs sE R
structure DC (T:TT P) (bs:List (World×List Nat)) (L:List gh) (ops:Array Oper) (n i:Nat) (k:List Nat) (l:List Oper) (s:List (Nat×Value)) (vs:List Value):Prop where
 out:RC P ops n (St bs L) i k l s vs
structure DU (T:TT P) (bs:List (World×List Nat)) (L:List gh) (ops:Array Oper) (n:Nat) (l:List Oper) (s:List (Nat×Value)) (cs:List (Option Value)):Prop where
 out:RU P ops n (St bs L) l s cs
variable {T:TT P} {bs bs' : List (World×List Nat)} {L L1:List gh} {r:Option Nat} {ops:Array Oper} {Q:Exit->Act->World->Prop} {n m:Nat} {s sA sE:List (Nat×Value)} {ds:List Deferred} {w w' w0 w1:World}
variable {d i j:Nat} {ty t:TypeId} {pos:String} {af:Array Edge} {g:Option (Nat×Bool)} {v u:Value} {x y z:Operand} {l B:List Oper} {o:Oper} {vs vA vB:List Value} {cs:List (Option Value)} {k:List Nat} {R:List Oper} {op:Op} {dd:Option Nat}
theorem Rf.sk{gg:Nat×Bool}(hg:gy ops n s (some gg)=false:=by exact rfl):Rf T bs L ops n ⟨dd,op,ty,pos,af,some gg⟩ s undef:=⟨fun w h=>.inr ⟨hg,rfl⟩⟩
theorem Rf.mv  (hx:ev n s x=v:=by conv=>lhs;whnf) (hg:gy ops n s g=true:=by exact rfl):Rf T bs L ops n ⟨some d,.move x,ty,pos,af,g⟩ s (v):=⟨fun w h=>.inl ⟨hg,rfl,.inl (iy hx)⟩⟩
theorem Rf.KC{i b k sz off off' szf byf:Nat}{zf:Value}{fields:Array Field}{f:Field}(hx:ev n s x = .pointer (some ⟨b,k*sz+off,none⟩):=by exact rfl)(hT:ku T.u t=some (.struct fields):=by exact rfl)(hf:fields[i]? = some f:=by exact rfl)(ht:ku T.i f.type=some (szf+1,byf,zf):=by exact rfl)(ho:off+f.offset=off' := by conv=>lhs;whnf)(hg:gy ops n s g=true:=by exact rfl):Rf T bs L ops n ⟨some d,.fieldAddr t x i,ty,pos,af,g⟩ s (.pointer (some ⟨b,k*sz+off', none⟩)):=⟨fun w h=>.inl ⟨hg,rfl,.inl (jy hx (nZ T.oK hT) hf (q8 T.sx ht) (by rw[<-ho,ko]))⟩⟩
theorem Rf.fa{i b o o' szf byf:Nat}{zf:Value}{fields:Array Field}{f:Field}(hx:ev n s x = .pointer (some ⟨b,o,none⟩):=by exact rfl)(hT:ku T.u t=some (.struct fields):=by exact rfl)(hf:fields[i]? = some f:=by exact rfl)(ht:ku T.i f.type=some (szf+1,byf,zf):=by exact rfl)(ho:o+f.offset=o' := by conv=>lhs;whnf)(hg:gy ops n s g=true:=by exact rfl):Rf T bs L ops n ⟨some d,.fieldAddr t x i,ty,pos,af,g⟩ s (.pointer (some ⟨b,o', none⟩)):=⟨fun w h=>.inl ⟨hg,rfl,.inl (jy hx (nZ T.oK hT) hf (q8 T.sx ht) ho)⟩⟩
theorem Rf.ld{b o i:Nat}{Tb:TypeId}{cs:List Value}{ud:TypeDesc}(hx:ev n s x = .pointer (some ⟨b,o,none⟩):=by exact rfl)(hT:ku T.u t=some ud:=by exact rfl)(hn:lK ud=false:=by exact rfl)(hi:L[i]? = some (blk b Tb cs):=by first|exact uR|exact u7|exact o4|exact pE|exact vw|exact uU|exact at6|exact at7)(hv:cs[o]? = some v:=by exact rfl)(hg:gy ops n s g=true:=by exact rfl):Rf T bs L ops n ⟨some d,.load t x,ty,pos,af,g⟩ s (v):=⟨fun w h=>.inl ⟨hg,rfl,.inl (gU hx (nZ T.oK hT) hn (h.zP hi hv))⟩⟩
theorem Rf.Kl{α:Type}{cf:α->List Value}{xs:List α}{b k sz off i:Nat}{Tb:TypeId}{ud:TypeDesc}(hx:ev n s x = .pointer (some ⟨b,k*sz+off,none⟩):=by exact rfl)(hT:ku T.u t=some ud:=by exact rfl)(hn:lK ud=false:=by exact rfl)(hi:L[i]? = some (blk b Tb (xs.flatMap cf)):=by first|exact uR|exact u7|exact o4|exact pE|exact vw|exact uU|exact at6|exact at7)(inst:Inhabited α:=by infer_instance)(hl:∀ x:α,(cf x).length=sz:=by exact fun _=>rfl)(hk:k<xs.length:=by first|omega|(simp only[gJ];omega))(hv:(cf (fM xs k))[off]? = some v:=by exact rfl)(hg:gy ops n s g=true:=by exact rfl):Rf T bs L ops n ⟨some d,.load t x,ty,pos,af,g⟩ s (v):=⟨fun w h=>.inl ⟨hg,rfl,.inl (gU hx (nZ T.oK hT) hn (St.Iu h hi hl hk hv))⟩⟩
theorem Rf.Gh{b o:Nat}{Tb:TypeId}{cs:List Value}{ud:TypeDesc}(hx:ev n s x = .pointer (some ⟨b,o,none⟩):=by exact rfl)(hT:ku T.u t=some ud:=by exact rfl)(hn:lK ud=false:=by exact rfl)(hi:(blk b Tb cs).holds w0:=by assumption)(hb:(w0,[])∈bs:=by simp)(hv:cs[o]? = some v:=by exact rfl)(hg:gy ops n s g=true:=by exact rfl):Rf T bs L ops n ⟨some d,.load t x,ty,pos,af,g⟩ s (v):=⟨fun w h=>.inl ⟨hg,rfl,.inl (gU hx (nZ T.oK hT) hn (St.Jg h hb hi hv))⟩⟩
theorem Rf.u6  (hx:ev n s x=v:=by conv=>lhs;whnf) (hg:gy ops n s g=true:=by exact rfl):Rf T bs L ops n ⟨some d,.assign x,ty,pos,af,g⟩ s (v):=⟨fun w h=>.inl ⟨hg,rfl,.inl (pV hx)⟩⟩
theorem Rf.si{p:Addr}(hx:ev n s x = .pointer (some p):=by exact rfl)(hg:gy ops n s g=true:=by exact rfl):Rf T bs L ops n ⟨some d,.nilCheck x,ty,pos,af,g⟩ s (.pointer (some p)):=⟨fun w h=>.inl ⟨hg,rfl,.inl (j6 hx)⟩⟩
theorem Rf.cmp{op:BinOp}{t' : TypeId}{k:IntKind}{a b:Int}{c:Bool}(hx:ev n s x = .int k a:=by exact rfl)(hy:ev n s y = .int k b:=by exact rfl)(hc:j9 op a b=some c:=by first|exact tD (by first|assumption|decide)|exact Ca (by first|assumption|decide)|exact p5 (by first|assumption|decide)|exact mL (by first|assumption|decide)|exact Cn (by first|assumption|decide)|exact Jq (by first|assumption|decide)|exact Fk (by first|assumption|decide)|exact vT (by first|assumption|decide)|exact c_gt (by first|assumption|decide)|exact uA (by first|assumption|decide)|exact qF (by first|assumption|decide)|exact xK (by first|assumption|decide))(hg:gy ops n s g=true:=by exact rfl):Rf T bs L ops n ⟨some d,.binOp op t x y t', ty,pos,af,g⟩ s (.bool c):=⟨fun w h=>.inl ⟨hg,rfl,.inl (rA hx hy hc)⟩⟩
theorem Rf.ar{op:BinOp}{t' : TypeId}{k:IntKind}{a b c e:Int}(hx:ev n s x = .int k a:=by exact rfl)(hy:ev n s y = .int k b:=by exact rfl)(hc:AU op a b=some c:=by exact rfl)(hw:k.wrap c=e:=by first|exact iZ o_|exact Ax o_|exact w8u o_|exact w32u o_)(hg:gy ops n s g=true:=by exact rfl):Rf T bs L ops n ⟨some d,.binOp op t x y t', ty,pos,af,g⟩ s (.int k e):=⟨fun w h=>.inl ⟨hg,rfl,.inl (kV hx hy hc hw)⟩⟩
theorem Rf.ex{i:Nat}{vs:Array Value}(hx:ev n s x = .tuple vs:=by exact rfl)(hv:vs[i]? = some v:=by exact rfl)(hg:gy ops n s g=true:=by exact rfl):Rf T bs L ops n ⟨some d,.extract x i,ty,pos,af,g⟩ s (v):=⟨fun w h=>.inl ⟨hg,rfl,.inl (xS hx hv)⟩⟩
theorem Rf.KT{e:TypeId}{kk:IntKind}{b m c k sz by_:Nat}{zv:Value}(hx:ev n s x = .slice (some ⟨b,0,none⟩) m c:=by exact rfl)(hy:ev n s y = .int kk (k:Nat):=by exact rfl)(hT:ku T.u t=some (.slice e):=by exact rfl)(ht:ku T.i e=some (sz,by_,zv):=by exact rfl)(h0:(k:Int)<m:=by first|omega|(simp only[gJ];omega))(hg:gy ops n s g=true:=by exact rfl):Rf T bs L ops n ⟨some d,.indexAddr t x y,ty,pos,af,g⟩ s (.pointer (some ⟨b,k*sz+0,none⟩)):=⟨fun w h=>.inl ⟨hg,rfl,.inl (pW hx hy (nZ T.oK hT) (q8 T.sx ht) ⟨o_,h0⟩ s_)⟩⟩
theorem Rf.KQ{α:Type}{cf:α->List Value}{xs:List α}{e e' : TypeId}{kk:IntKind}{k sz by_ i:Nat}{zv:Value}(hx:ev n s x=v:=by conv=>lhs;whnf)(hy:ev n s y = .int kk (k:Nat):=by exact rfl)(hT:ku T.u t=some (.slice e):=by exact rfl)(ht:ku T.i e=some (sz,by_,zv):=by exact rfl)(hi:L[i]? = some (fV cf v e' sz xs):=by first|exact uR|exact u7|exact o4|exact pE|exact vw|exact uU|exact at6|exact at7)(inst:Inhabited α:=by infer_instance)(hl:∀ x:α,(cf x).length=sz:=by exact fun _=>rfl)(hk:k<xs.length:=by first|omega|(simp only[gJ];omega))(hg:gy ops n s g=true:=by exact rfl):Rf T bs L ops n ⟨some d,.indexAddr t x y,ty,pos,af,g⟩ s (jC sz v k 0):=⟨fun w h=>.inl ⟨hg,rfl,.inl (kz hx hy (nZ T.oK hT) (q8 T.sx ht) (St.Ec h hi hl) o_ o_ (gA hk))⟩⟩
theorem Rf.K3{α:Type}{cf:α->List Value}{xs:List α}{e' : TypeId}{i q k sz off off' szf byf:Nat}{zf:Value}{fields:Array Field}{f:Field}(hx:ev n s x=jC sz v k off:=by exact rfl)(hT:ku T.u t=some (.struct fields):=by exact rfl)(hf:fields[i]? = some f:=by exact rfl)(ht:ku T.i f.type=some (szf+1,byf,zf):=by exact rfl)(ho:off+f.offset=off' := by conv=>lhs;whnf)(hi:L[q]? = some (fV cf v e' sz xs):=by first|exact uR|exact u7|exact o4|exact pE|exact vw|exact uU|exact at6|exact at7)(inst:Inhabited α:=by infer_instance)(hl:∀ x:α,(cf x).length=sz:=by exact fun _=>rfl)(hk:k<xs.length:=by first|omega|(simp only[gJ];omega))(hg:gy ops n s g=true:=by exact rfl):Rf T bs L ops n ⟨some d,.fieldAddr t x i,ty,pos,af,g⟩ s (jC sz v k off'):=⟨fun w h=>.inl ⟨hg,rfl,.inl (mJ hx (nZ T.oK hT) hf (q8 T.sx ht) ho (St.Ec h hi hl) (gA hk))⟩⟩
theorem Rf.Kf{α:Type}{cf:α->List Value}{xs:List α}{e' : TypeId}{q k sz off:Nat}{ud:TypeDesc}{u:Value}(hx:ev n s x=jC sz u k off:=by exact rfl)(hT:ku T.u t=some ud:=by exact rfl)(hn:lK ud=false:=by exact rfl)(hi:L[q]? = some (fV cf u e' sz xs):=by first|exact uR|exact u7|exact o4|exact pE|exact vw|exact uU|exact at6|exact at7)(inst:Inhabited α:=by infer_instance)(hl:∀ x:α,(cf x).length=sz:=by exact fun _=>rfl)(hk:k<xs.length:=by first|omega|(simp only[gJ];omega))(hv:(cf (fM xs k))[off]? = some v:=by exact rfl)(hg:gy ops n s g=true:=by exact rfl):Rf T bs L ops n ⟨some d,.load t x,ty,pos,af,g⟩ s (v):=⟨fun w h=>.inl ⟨hg,rfl,.inl (mc hx (nZ T.oK hT) hn (St.Ec h hi hl) (gA hk) hv)⟩⟩
theorem Rf.pH{b o i sz by_:Nat}{zv:Value}{Tb:TypeId}{cs vs:List Value}{ud:TypeDesc}(hx:ev n s x = .pointer (some ⟨b,o,none⟩):=by exact rfl)(hT:ku T.u t=some ud:=by exact rfl)(hn:lK ud=true:=by exact rfl)(ht:ku T.i t=some (sz,by_,zv):=by exact rfl)(hi:L[i]? = some (blk b Tb cs):=by first|exact uR|exact u7|exact o4|exact pE|exact vw|exact uU|exact at6|exact at7)(hv:sub' cs o sz=some vs:=by exact rfl)(hg:gy ops n s g=true:=by exact rfl):Rf T bs L ops n ⟨some d,.load t x,ty,pos,af,g⟩ s (.agg vs.toArray):=⟨fun w h=>.inl ⟨hg,rfl,.inl (pU hx (nZ T.oK hT) hn (q8 T.sx ht) (HE hv) (h.HT hi (NW hv)))⟩⟩
theorem Rf.not{b:Bool}(hx:ev n s x = .bool b:=by exact rfl)(hg:gy ops n s g=true:=by exact rfl):Rf T bs L ops n ⟨some d,.unOp .not t x,ty,pos,af,g⟩ s (.bool !b):=⟨fun w h=>.inl ⟨hg,rfl,.inl (JJ hx rfl)⟩⟩
theorem Rf.pT  (hc:ev n s x = .bool true:=by exact rfl) (hx:ev n s y=v:=by conv=>lhs;whnf) (hg:gy ops n s g=true:=by exact rfl):Rf T bs L ops n ⟨some d,.pick x y z,ty,pos,af,g⟩ s (v):=⟨fun w h=>.inl ⟨hg,rfl,.inl (JL hc hx)⟩⟩
theorem Rf.pF  (hc:ev n s x = .bool false:=by exact rfl) (hx:ev n s z=v:=by conv=>lhs;whnf) (hg:gy ops n s g=true:=by exact rfl):Rf T bs L ops n ⟨some d,.pick x y z,ty,pos,af,g⟩ s (v):=⟨fun w h=>.inl ⟨hg,rfl,.inl (JG hc hx)⟩⟩
theorem Rf.mA{e:TypeId}{k:IntKind}{b o o' m i sz by_:Nat}{zv:Value}(hx:ev n s x = .pointer (some ⟨b,o,none⟩):=by exact rfl)(hy:ev n s y = .int k i:=by exact rfl)(hT:ku T.u t=some (.array m e):=by exact rfl)(ht:ku T.i e=some (sz,by_,zv):=by exact rfl)(ho:o+i*sz=o' := by conv=>lhs;whnf)(h0:(i:Int)<m:=by decide)(hg:gy ops n s g=true:=by exact rfl):Rf T bs L ops n ⟨some d,.indexAddr t x y,ty,pos,af,g⟩ s (.pointer (some ⟨b,o', none⟩)):=⟨fun w h=>.inl ⟨hg,rfl,.inl (vM hx hy (nZ T.oK hT) (q8 T.sx ht) ⟨o_,h0⟩ (by simpa using ho))⟩⟩
theorem DA.nil:DA T bs L ops n 0 l s [] s l:=⟨⟨rfl,rfl⟩⟩
theorem DA.c(hv:Rf T bs L ops n ⟨some d,op,ty,pos,af,g⟩ s v)(K:DA T bs L ops n m l ((d,v) :: s) vs sE R):DA T bs L ops n (m+1) (⟨some d,op,ty,pos,af,g⟩ :: l) s (v :: vs) sE R:=⟨⟨hv.out,K.out⟩⟩
theorem DC.nil:DC T bs L ops n i k l s []:=⟨by cases l<;>exact trivial⟩
theorem DC.c(hv:Rf T bs L ops n o s v)(K:DC T bs L ops n (i+1) k l (jJ o.dst v s) vs):DC T bs L ops n i k (o :: l) s (v :: vs):=⟨⟨.inr hv.out,K.out⟩⟩
theorem DC.sk(K:DC T bs L ops n (i+1) k l (jJ o.dst v s) vs)(hk:k.contains i=true:=by kernel_rfl):DC T bs L ops n i k (o :: l) s (v :: vs):=⟨⟨.inl (by simpa using hk),K.out⟩⟩
theorem DU.nil:DU T bs L ops n [] s []:=⟨trivial⟩
theorem DU.c(hv:Rf T bs L ops n o s v)(K:DU T bs L ops n l (jJ o.dst v s) cs):DU T bs L ops n (o :: l) s (some v :: cs):=⟨⟨hv.out,K.out⟩⟩
theorem DU.gb(K:∀ u,DU T bs L ops n l (jJ o.dst u s) cs):DU T bs L ops n (o :: l) s (none :: cs):=⟨fun u=>(K u).out⟩
theorem MC.no(h:MC cs vs):MC (none :: cs) (v :: vs):=h
theorem MC.so(h:MC cs vs):MC (some v :: cs) (v :: vs):=⟨rfl,h⟩
theorem MC.nil:MC [] []:=trivial
theorem iA{p:Prop} (h:p:=by
 repeat (first|exact DA.nil|exact DC.nil|exact DU.nil|((first|apply DA.c|apply DA.cN|apply DC.c|apply DU.c);(first|exact Rf.sk|exact Rf.mv|exact Rf.KC|exact Rf.fa|exact Rf.ld|exact Rf.Kl|exact Rf.Gh|exact Rf.ldoK|exact Rf.u6|exact Rf.si|exact Rf.cmp|exact Rf.ar|exact Rf.ex|exact Rf.KT|exact Rf.KQ|exact Rf.K3|exact Rf.Kf|exact Rf.jj|exact Rf.Bb|exact Rf.l6|exact Rf.pH|exact Rf.ldoA|exact Rf.ldKA|exact Rf.ldoKA|exact Rf.not|exact Rf.pT|exact Rf.pF|exact Rf.mA|exact Rf.ixG|exact Rf.fldG|exact Rf.len|exact Rf.nP|exact Rf.eP))|refine DC.sk ?_|(apply DU.gb;intro _))):p:=h
theorem iR[T:TT P]{id:Nat}(hst:St bs L w)(h:∀ w', St bs L w' -> Q .normal (Fr n sE ds) w')(hok:Ai l (sH l) []=true:=by kernel_rfl)
 (hA:DA T bs L l.toArray n l.length l s vA sE []:=by exact iA):WP r P (.region id l.toArray true) Q (Fr n s ds) w :=
 aar T.mx hok hst.drew hA.out h
theorem jN[T:TT P]{id:Nat}(hst:St bs L w)(m:Nat)
 (h:∀ w', St bs L w' -> lB P l.toArray Q n ds s l o sA (Kw P l.toArray n ds Q l s vA sA ((sH l).getD m []) o.dst B cs) w')
 (hA:DA T bs L l.toArray n m l s vA sA (o :: B):=by exact iA)
 (hU:∀ v,DU T bs L l.toArray n B (jJ o.dst v sA) cs:=by exact fun _=>iA)
 (hok:J1 l m ((sH l).getD m []) (pX (m+1) cs)=true:=by kernel_rfl):WP r P (.region id l.toArray true) Q (Fr n s ds) w :=
 aaG T.mx hok hst.drew hA.out (fun v=>(hU v).out) h
theorem jM[T:TT P](hst:St bs' L1 w1)(h:∀ w', St bs' L1 w' -> Q .normal (Fr n sE ds) w')
 (hB:DA T bs' L1 ops n B.length B (jJ dd v sA) vB sE []:=by exact iA)
 (hM:MC cs vB:=by repeat (first|exact MC.nil|refine MC.no ?_|refine MC.so ?_))
 (hC:DC T bs' L1 ops n 0 k l s vA:=by exact iA):Kw P ops n ds Q l s vA sA k dd B cs v w1 :=
 ⟨_,hst,hC.out,vB,sE,hB.out,hM,h⟩
structure DF (T:TT P) (bs:List (World×List Nat)) (L:List gh) (ops:Array Oper) (n N m:Nat) (l:List Oper) (s:List (Nat×Value)) (vs:List Value) (sE:List (Nat×Value)) (R:List Oper):Prop where
 out:DA T bs L ops n m l s vs sE R
variable {N:Nat}
theorem DF.c(hv:Rf T bs L ops n ⟨some d,op,ty,pos,af,g⟩ s v)(K:DF T bs L ops n N m l ((d,v) :: s) vs sE R):DF T bs L ops n (N+1) (m+1) (⟨some d,op,ty,pos,af,g⟩ :: l) s (v :: vs) sE R:=⟨.c hv K.out⟩
theorem aat{p q:Prop} (h:p->q:=by
 intro h
 repeat (first|((first|apply DF.c|apply DF.cN|apply CF.c|apply UF.c);(first|exact Rf.sk|exact Rf.mv|exact Rf.KC|exact Rf.fa|exact Rf.ld|exact Rf.Kl|exact Rf.Gh|exact Rf.ldoK|exact Rf.u6|exact Rf.si|exact Rf.cmp|exact Rf.ar|exact Rf.ex|exact Rf.KT|exact Rf.KQ|exact Rf.K3|exact Rf.Kf|exact Rf.jj|exact Rf.Bb|exact Rf.l6|exact Rf.pH|exact Rf.ldoA|exact Rf.ldKA|exact Rf.ldoKA|exact Rf.not|exact Rf.pT|exact Rf.pF|exact Rf.mA|exact Rf.ixG|exact Rf.fldG|exact Rf.len|exact Rf.nP|exact Rf.eP))|refine CF.sk ?_|(apply UF.gb;intro _))
 exact h):p->q:=h
theorem gI{m' : Nat}{l' : List Oper}{s' : List (Nat×Value)}{vs' : List Value}(N:Nat)(K:DA T bs L ops n m' l' s' vs' sE R)(h:DF T bs L ops n 0 m' l' s' vs' sE R->DF T bs L ops n N m l s vs sE R:=by exact aat):DA T bs L ops n m l s vs sE R:=(h ⟨K⟩).out
theorem gq(hv:∀ wq,St bs L wq->Rw P n s ⟨some d,op,ty,pos,af,g⟩ v (St bs L) wq)(K:DA T bs L ops n m l ((d,v) :: s) vs sE R)(hg:gy ops n s g=true:=by exact rfl)(hd:nr op=true:=by exact rfl):DA T bs L ops n (m+1) (⟨some d,op,ty,pos,af,g⟩ :: l) s (v :: vs) sE R:=.c ⟨fun w h=>.inl ⟨hg,hd,hv w h⟩⟩ K
end
end Go.Sx
namespace Go.Sx
open Go
structure Nd where
 k0:Nat
 k1:Nat
 up:Nat
 flip:Bool
 key:Int
 size:Int
 first:Nat
 iP:Int
 total:Int
 deriving Inhabited
def Nd.cells(x:Nd):List Value:=[.int .i64 x.k0,.int .i64 x.k1,.int .i64 x.up,.bool x.flip,.int .i64 x.key,.int .i64 x.size,.int .i64 x.first,.int .i64 x.iP,.int .i64 x.total]
def jw(xs:List Nd)(i:Nat):Nat×Bool :=
 if (fM xs i).up=0 then(0,false)else if (fM xs (fM xs i).up).k0=i then(0,true)else if (fM xs (fM xs i).up).k1=i then(1,true)else(0,false)
def lI(xs:List Nd)(i j:Nat):Bool:=decide ((fM xs i).key<(fM xs j).key\/(fM xs i).key=(fM xs j).key/\i<j)
def iS(xs:List Nd)(i s k:Nat):List Nd :=
 let ys:=if s=0 then fR xs i (fun x=>{ x with k0:=k })else fR xs i (fun x=>{ x with k1:=k })
 if k=0 then ys else fR ys k (fun x=>{ x with up:=i })
def jY(xs:List Nd)(i:Nat):List Nd :=
 if (fM xs i).flip=true then
  let y0:=fR xs i (fun x=>{ x with flip:=false })
  let y1:=fR y0 i (fun x=>{ x with k0:=(fM y0 i).k1 })
  let y2:=fR y1 i (fun x=>{ x with k1:=(fM y0 i).k0 })
  let y3:=if (fM y2 i).k0=0 then y2 else fR y2 (fM y2 i).k0 (fun x=>{ x with flip := !(fM y2 (fM y2 i).k0).flip })
  if (fM y2 i).k1=0 then y3 else fR y3 (fM y2 i).k1 (fun x=>{ x with flip := !(fM y3 (fM y2 i).k1).flip })
 else xs
structure ga (xs:List Nd):Prop where
 k0:∀ i,i<xs.length->(fM xs i).k0<xs.length
 k1:∀ i,i<xs.length->(fM xs i).k1<xs.length
 up:∀ i,i<xs.length->(fM xs i).up<xs.length
 first:∀ i,i<xs.length->(fM xs i).first<xs.length
 key:∀ i,i<xs.length->ij .i64 (fM xs i).key
theorem ga.iF{xs:List Nd}{k:Nat}{f:Nd->Nd}(h:ga xs)(hk:k<xs.length)
 (hf:∀ x:Nd,x.k0<xs.length->x.k1<xs.length->x.up<xs.length->x.first<xs.length->ij .i64 x.key->(f x).k0<xs.length/\(f x).k1<xs.length/\(f x).up<xs.length/\(f x).first<xs.length/\ij .i64 (f x).key):ga (fR xs k f):=by
 have key:∀ i,i<xs.length->(fM (fR xs k f) i).k0<xs.length/\(fM (fR xs k f) i).k1<xs.length/\(fM (fR xs k f) i).up<xs.length/\(fM (fR xs k f) i).first<xs.length/\ij .i64 (fM (fR xs k f) i).key:=by
  intro i hi
  rw[kN hk]
  split
  . exact hf _ (h.k0 k hk) (h.k1 k hk) (h.up k hk) (h.first k hk) (h.key k hk)
  . exact⟨h.k0 i hi,h.k1 i hi,h.up i hi,h.first i hi,h.key i hi⟩
 refine⟨fun i hi=>?_,fun i hi=>?_,fun i hi=>?_,fun i hi=>?_,fun i hi=>?_⟩<;>(rw[gJ]at hi;try rw[gJ])
 . exact(key i hi).1
 . exact(key i hi).2.1
 . exact(key i hi).2.2.1
 . exact(key i hi).2.2.2.1
 . exact(key i hi).2.2.2.2
end Go.Sx
namespace Go.Sx
open Go
inductive Tr where
 | nil:Tr
 | nd (l:Tr) (i:Nat) (r:Tr):Tr
namespace Tr
def root:Tr->Nat
 | .nil=>0
 | .nd _ i _=>i
def mem:Tr->List Nat
 | .nil=>[]
 | .nd l i r=>l.mem++i :: r.mem
end Tr
def ja(xs:List Nd)(d:Bool)(i:Nat):Nat:=bif d then(fM xs i).k0 else(fM xs i).k1
def nJ(xs:List Nd)(L:List Nat):Int:=(L.map fun j=>1+(fM xs j).iP).sum
def Jk(xs:List Nd)(m:Nat)(L:List Nat):Prop:=m∈L/\∀ j∈L,j=m\/lI xs m j=true
structure oZ (xs:List Nd) (i:Nat) (L:List Nat):Prop where
 size:(fM xs i).size=(L.length:Int)
 total:(fM xs i).total=IntKind.i64.wrap (nJ xs L)
 first:Jk xs (fM xs i).first L
def gO(xs:List Nd):Tr->Nat->Prop
 | .nil,_=>True
 | .nd l i r,p=>(i≠0/\i<xs.length)/\((fM xs i).k0=l.root/\(fM xs i).k1=r.root/\(fM xs i).up=p)/\oZ xs i (l.mem++i :: r.mem)/\gO xs l i/\gO xs r i
abbrev Cx:=List (Bool×Nat×Tr)
def mw(d:Bool)(t:Tr)(g:Nat)(s:Tr):Tr:=bif d then .nd t g s else .nd s g t
def j4(d:Bool)(L:List Nat)(g:Nat)(s:Tr):List Nat:=bif d then L++g :: s.mem else s.mem++g :: L
def j7:Cx->Tr->Tr
 | [],t=>t
 | (d,g,s) :: c,t=>j7 c (mw d t g s)
def lN:Cx->List Nat->List Nat
 | [],L=>L
 | (d,g,s) :: c,L=>lN c (j4 d L g s)
def vW:Cx->Nat->Nat
 | [],p=>p
 | (_,g,_) :: _,_=>g
def jX:Cx->List Nat
 | []=>[]
 | (_,g,s) :: c=>g :: s.mem++jX c
def mM(xs:List Nd):Cx->Nat->List Nat->Nat->Prop
 | [],_,_,_=>True
 | (d,g,s) :: c,h,L,p=>(g≠0/\g<xs.length)/\(ja xs d g=h/\ja xs (!d) g=s.root/\(fM xs g).up=vW c p)/\oZ xs g (j4 d L g s)/\gO xs s g/\mM xs c g (j4 d L g s) p
theorem LA(d:Bool)(t:Tr)(g:Nat)(s:Tr):(mw d t g s).root=g:=by cases d<;>rfl
theorem Hl(d:Bool)(t:Tr)(g:Nat)(s:Tr):(mw d t g s).mem=j4 d t.mem g s:=by cases d<;>rfl
theorem oM:∀ (c:Cx) (t:Tr),(j7 c t).mem=lN c t.mem
 | [],t=>rfl
 | (d,g,s) :: c,t=>by rw[j7,oM c,Hl,lN]
theorem T3{xs:List Nd}{d:Bool}{t s:Tr}{g p:Nat}:gO xs (mw d t g s) p↔(g≠0/\g<xs.length)/\(ja xs d g=t.root/\ja xs (!d) g=s.root/\(fM xs g).up=p)/\oZ xs g (j4 d t.mem g s)/\gO xs t g/\gO xs s g:=by
 cases d
 . simp only[mw,cond_false,gO,ja,Bool.not_false,cond_true,j4]
   constructor
   . rintro⟨h1,⟨h2,h3,h4⟩,h5,h6,h7⟩;exact⟨h1,⟨h3,h2,h4⟩,h5,h7,h6⟩
   . rintro⟨h1,⟨h2,h3,h4⟩,h5,h6,h7⟩;exact⟨h1,⟨h3,h2,h4⟩,h5,h7,h6⟩
 . simp only[mw,cond_true,gO,ja,Bool.not_true,cond_false,j4]
theorem xk{xs:List Nd}:∀ (c:Cx) (t:Tr) (p:Nat),gO xs (j7 c t) p↔gO xs t (vW c p)/\mM xs c t.root t.mem p
 | [],t,p=>by simp[j7,vW,mM]
 | (d,g,s) :: c,t,p=>by
  rw[j7,xk c,T3,LA,Hl]
  simp only[vW,mM]
  constructor
  . rintro⟨⟨h1,h2,h3,h4,h5⟩,h6⟩;exact⟨h4,h1,h2,h3,h5,h6⟩
  . rintro⟨h4,h1,h2,h3,h5,h6⟩;exact⟨⟨h1,h2,h3,h4,h5⟩,h6⟩
structure KL (xs ys:List Nd):Prop where
 len:ys.length=xs.length
 key:∀ j,(fM ys j).key=(fM xs j).key
 iP:∀ j,(fM ys j).iP=(fM xs j).iP
theorem KL.refl(xs:List Nd):KL xs xs:=⟨rfl,fun _=>rfl,fun _=>rfl⟩
theorem KL.trans{xs ys zs:List Nd}(h:KL xs ys)(k:KL ys zs):KL xs zs:=⟨k.len.trans h.len,fun j=>(k.key j).trans (h.key j),fun j=>(k.iP j).trans (h.iP j)⟩
theorem KL.before{xs ys:List Nd}(h:KL xs ys)(i j:Nat):lI ys i j=lI xs i j:=by simp[lI,h.key]
theorem KL.Ff{xs ys:List Nd}(h:KL xs ys)(L:List Nat):nJ ys L=nJ xs L:=by simp[nJ,h.iP]
theorem KL.JI{xs ys:List Nd}(h:KL xs ys){m:Nat}{L:List Nat}(k:Jk xs m L):Jk ys m L:=⟨k.1,fun j hj=>by rw[h.before];exact k.2 j hj⟩
theorem oZ.to{xs ys:List Nd}{i:Nat}{L:List Nat}(h:oZ xs i L)(k:KL xs ys)(hs:(fM ys i).size=(fM xs i).size)(ht:(fM ys i).total=(fM xs i).total)(hf:(fM ys i).first=(fM xs i).first):oZ ys i L :=
 ⟨hs.trans h.size,by rw[ht,h.total,k.Ff],by rw[hf];exact k.JI h.first⟩
theorem gO.to{xs ys:List Nd}(k:KL xs ys):∀ {t:Tr} {p:Nat},gO xs t p->(∀ j∈t.mem,fM ys j=fM xs j)->gO ys t p
 | .nil,_,_,_=>trivial
 | .nd l i r,p,h,hs=>by
  obtain⟨⟨h0,h1⟩,⟨h2,h3,h4⟩,h5,h6,h7⟩:=h
  have hi:=hs i (by simp[Tr.mem])
  refine⟨⟨h0,by rw[k.len];exact h1⟩,⟨by rw[hi];exact h2,by rw[hi];exact h3,by rw[hi];exact h4⟩,h5.to k (by rw[hi]) (by rw[hi]) (by rw[hi]),gO.to k h6 fun j hj=>hs j (by simp[Tr.mem,hj]),gO.to k h7 fun j hj=>hs j (by simp[Tr.mem,hj])⟩
theorem gO.up{xs ys:List Nd}(k:KL xs ys){t:Tr}{p q:Nat}(h:gO xs t p)(hs:∀ j∈t.mem,j≠t.root->fM ys j=fM xs j)(hr:fM ys t.root={ fM xs t.root with up:=q })(hn:t.mem.Nodup):gO ys t q:=by
 cases t with
 | nil=>trivial
 | nd l i r =>
  obtain⟨⟨h0,h1⟩,⟨h2,h3,h4⟩,h5,h6,h7⟩:=h
  simp only[Tr.root]at hr hs
  simp only[Tr.mem]at hn hs
  rw[zw]at hn
  obtain⟨n1,n2,n3⟩:=hn
  rw[zx]at n2
  refine⟨⟨h0,by rw[k.len];exact h1⟩,⟨by rw[hr];exact h2,by rw[hr];exact h3,by rw[hr]⟩,h5.to k (by rw[hr]) (by rw[hr]) (by rw[hr]),gO.to k h6 fun j hj=>hs j (by simp[hj]) ?_,gO.to k h7 fun j hj=>hs j (by simp[hj]) ?_⟩
  . rintro rfl;exact n3 j hj j s_ rfl
  . rintro rfl;exact n2.1 hj
theorem mM.to{xs ys:List Nd}(k:KL xs ys):∀ {c:Cx} {r p:Nat} {L:List Nat},mM xs c r L p->(∀ j∈jX c,fM ys j=fM xs j)->mM ys c r L p
 | [],_,_,_,_,_=>trivial
 | (d,g,s) :: c,r,p,L,h,hs=>by
  obtain⟨⟨h0,h1⟩,⟨h2,h3,h4⟩,h5,h6,h7⟩:=h
  have hg:=hs g (by simp[jX])
  refine⟨⟨h0,by rw[k.len];exact h1⟩,⟨by simp only[ja,hg]at h2 ⊢;exact h2,by simp only[ja,hg]at h3 ⊢;exact h3,by rw[hg];exact h4⟩,h5.to k (by rw[hg]) (by rw[hg]) (by rw[hg]),gO.to k h6 fun j hj=>hs j (by simp[jX,hj]),mM.to k h7 fun j hj=>hs j (by simp[jX,hj])⟩
theorem mM.kid{xs ys:List Nd}(k:KL xs ys){d:Bool}{g r r' p:Nat}{s:Tr}{c:Cx}{L:List Nat}(h:mM xs ((d,g,s) :: c) r L p)(hs:∀ j∈s.mem++jX c,fM ys j=fM xs j)
 (hg:fM ys g=bif d then { fM xs g with k0:=r' } else { fM xs g with k1:=r' }):mM ys ((d,g,s) :: c) r' L p:=by
 obtain⟨⟨h0,h1⟩,⟨h2,h3,h4⟩,h5,h6,h7⟩:=h
 refine⟨⟨h0,by rw[k.len];exact h1⟩,⟨?_,?_,?_⟩,h5.to k ?_ ?_ ?_,gO.to k h6 fun j hj=>hs j (by simp[hj]),mM.to k h7 fun j hj=>hs j (by simp[hj])⟩
 . cases d<;>simp[ja,hg]
 . cases d<;>simp[ja,hg]at h3 ⊢ <;> exact h3
 all_goals cases d<;>simp[hg]<;>exact h4
theorem BI:∀ {c:Cx} {L:List Nat} {j:Nat},j∈lN c L↔j∈L\/j∈jX c
 | [],L,j=>by simp[lN,jX]
 | (d,g,s) :: c,L,j=>by
  rw[lN,BI (c:=c)]
  cases d<;>simp only[j4,jX,cond_true,cond_false,zr,zg]<;>simp only[or_assoc,or_left_comm,or_comm]
theorem Bv:∀ {c:Cx} {L:List Nat},(lN c L).Nodup->L.Nodup/\(jX c).Nodup/\∀ j∈L,j∉jX c
 | [],L,h=>⟨h,by simp[jX],by simp[jX]⟩
 | (d,g,s) :: c,L,h=>by
  obtain⟨h1,h2,h3⟩:=Bv (c:=c) h
  have key:L.Nodup/\s.mem.Nodup/\g∉L/\g∉s.mem/\∀ j∈L,j∉s.mem:=by
   cases d
   . simp only[j4,cond_false,zw,zx,zg]at h1
     obtain⟨k1,⟨k2,k3⟩,k4⟩:=h1
     exact⟨k3,k1,k2,fun hg=>k4 g hg g (.inl rfl) rfl,fun j hj hs=>k4 j hs j (.inr hj) rfl⟩
   . simp only[j4,cond_true,zw,zx,zg]at h1
     obtain⟨k1,⟨k2,k3⟩,k4⟩:=h1
     exact⟨k1,k3,fun hg=>k4 g hg g (.inl rfl) rfl,k2,fun j hj hs=>k4 j hj j (.inr hs) rfl⟩
  obtain⟨k1,k2,k3,k4,k5⟩:=key
  have hin:∀ j,j∈j4 d L g s↔j∈L\/j=g\/j∈s.mem:=fun j=>by cases d<;>simp only[j4,cond_true,cond_false,zr,zg,or_assoc,or_left_comm,or_comm]
  refine⟨k1,?_,fun j hj hc=>?_⟩
  . rw[jX,zw,zx]
    refine⟨⟨k4,k2⟩,h2,fun a ha b hb e=>?_⟩
    subst e
    rcases zg.1 ha with rfl|ha
    . exact h3 a ((hin a).2 (.inr (.inl rfl))) hb
    . exact h3 a ((hin a).2 (.inr (.inr ha))) hb
  . rw[jX,zr,zg]at hc
    rcases hc with (rfl|hc)|hc
    . exact k3 hj
    . exact k5 j hj hc
    . exact h3 j ((hin j).2 (.inl hj)) hc
end Go.Sx
namespace Go.Sx
open Go
theorem Vf{l l' : List Int}(h:l.Perm l'):l.sum=l'.sum:=by
 induction h with
 | nil=>rfl
 | cons x _ ih=>simp only[List.sum_cons,ih]
 | swap x y l=>simp only[List.sum_cons];omega
 | trans _ _ h1 h2=>exact h1.trans h2
theorem SJ{xs:List Nd}{L L' : List Nat}(h:L.Perm L'):nJ xs L=nJ xs L' := Vf (h.map _)
theorem oZ.perm{xs:List Nd}{i:Nat}{L L' : List Nat}(h:oZ xs i L)(k:L.Perm L'):oZ xs i L' := by
 refine⟨by rw[h.size,k.length_eq],?_,⟨k.mem_iff.1 h.first.1,fun j hj=>h.first.2 j (k.mem_iff.2 hj)⟩⟩
 rw[h.total,SJ k]
theorem RQ(xs:List Nd)(L M:List Nat):nJ xs (L++M)=nJ xs L+nJ xs M:=by simp[nJ]
theorem HI(x:Int):IntKind.i64.wrap x=if 9223372036854775808<=x%18446744073709551616 then x%18446744073709551616-18446744073709551616 else x%18446744073709551616:=by
 show (if (true&&decide (x%18446744073709551616≥9223372036854775808))=true then x%18446744073709551616-18446744073709551616 else x%18446744073709551616)=_
 simp
theorem MO(x:Int):IntKind.i64.wrap x=(x+9223372036854775808)%18446744073709551616-9223372036854775808:=by
 rw[HI];split<;>omega
theorem T9(a b:Int):IntKind.i64.wrap (IntKind.i64.wrap a+IntKind.i64.wrap b)=IntKind.i64.wrap (a+b):=by
 simp only[MO];omega
theorem U3{x:Int}(h : -9223372036854775808<=x)(h' : x<=9223372036854775807):IntKind.i64.wrap x=x:=by rw[MO];omega
def mu(xs:List Nd)(i k:Nat):List Nd :=
 if k=0 then xs else
  let y0:=fR xs i (fun x=>{ x with size:=IntKind.i64.wrap (x.size+(fM xs k).size) })
  let y1:=fR y0 i (fun x=>{ x with total:=IntKind.i64.wrap (x.total+(fM y0 k).total) })
  if lI y1 (fM y1 k).first (fM y1 i).first then fR y1 i (fun x=>{ x with first:=(fM y1 k).first })else y1
def iK(xs:List Nd)(i:Nat):List Nd :=
 let y:=fR xs i (fun x=>{ x with size:=1,first:=i,total:=IntKind.i64.wrap (1+x.iP) })
 mu (mu y i (fM xs i).k0) i (fM xs i).k1
structure od (xs ys:List Nd) (i:Nat):Prop where
 len:ys.length=xs.length
 other:∀ j,j≠i->fM ys j=fM xs j
 here:∃ s t f,fM ys i={ fM xs i with size:=s,total:=t,first:=f }
theorem od.refl(xs:List Nd)(i:Nat):od xs xs i:=⟨rfl,fun _ _=>rfl,_,_,_,rfl⟩
theorem od.trans{xs ys zs:List Nd}{i:Nat}(h:od xs ys i)(k:od ys zs i):od xs zs i:=by
 obtain⟨s,t,f,e⟩:=h.here
 obtain⟨s', t', f', e'⟩:=k.here
 exact⟨k.len.trans h.len,fun j hj=>(k.other j hj).trans (h.other j hj),s', t', f', by rw[e', e]⟩
theorem od.kl{xs ys:List Nd}{i:Nat}(h:od xs ys i):KL xs ys:=by
 obtain⟨s,t,f,e⟩:=h.here
 refine⟨h.len,fun j=>?_,fun j=>?_⟩<;>(by_cases hj:j=i)
 . subst hj;rw[e]
 . rw[h.other j hj]
 . subst hj;rw[e]
 . rw[h.other j hj]
theorem od.flip{xs ys:List Nd}{i:Nat}(h:od xs ys i)(j:Nat):(fM ys j).flip=(fM xs j).flip:=by
 obtain⟨s,t,f,e⟩:=h.here
 by_cases hj:j=i
 . subst hj;rw[e]
 . rw[h.other j hj]
theorem Lh{xs:List Nd}{i k:Nat}{L M:List Nat}(hi:i<xs.length)(hk:k<xs.length)(h:oZ xs i L)(hM:k≠0->k≠i/\oZ xs k M)(h0:k=0->M=[])(hlen:L.length+M.length<=1000001) :
 od xs (mu xs i k) i/\oZ (mu xs i k) i (L++M):=by
 unfold mu
 by_cases hk0:k=0
 . rw[if_pos hk0,h0 hk0,mD];exact⟨od.refl _ _,h⟩
 . rw[if_neg hk0]
   obtain⟨hne,hv⟩:=hM hk0
   obtain⟨y0,e0⟩:∃ y,y=fR xs i (fun x=>{ x with size:=IntKind.i64.wrap (x.size+(fM xs k).size) }):=⟨_,rfl⟩
   obtain⟨y1,e1⟩:∃ y,y=fR y0 i (fun x=>{ x with total:=IntKind.i64.wrap (x.total+(fM y0 k).total) }):=⟨_,rfl⟩
   simp only[<-e0,<-e1]
   have l0:y0.length=xs.length:=by rw[e0,gJ]
   have l1:y1.length=xs.length:=by rw[e1,gJ,l0]
   have a0:fM y0 i={ fM xs i with size:=IntKind.i64.wrap ((fM xs i).size+(fM xs k).size) }:=by rw[e0,kQ hi]
   have b0:∀ j,j≠i->fM y0 j=fM xs j:=fun j hj=>by rw[e0,kM (fun e=>hj e.symm)]
   have a1:fM y1 i={ fM xs i with size:=IntKind.i64.wrap ((fM xs i).size+(fM xs k).size),total:=IntKind.i64.wrap ((fM xs i).total+(fM xs k).total) }:=by
    rw[e1,kQ o_,a0,b0 k hne]
   have b1:∀ j,j≠i->fM y1 j=fM xs j:=fun j hj=>by rw[e1,kM (fun e=>hj e.symm),b0 j hj]
   have o1:od xs y1 i:=⟨l1,b1,_,_,_,a1⟩
   have hs:IntKind.i64.wrap ((fM xs i).size+(fM xs k).size)=((L++M).length:Int):=by
    rw[h.size,hv.size,U3 o_ o_,zn];omega
   have ht:IntKind.i64.wrap ((fM xs i).total+(fM xs k).total)=IntKind.i64.wrap (nJ xs (L++M)):=by
    rw[h.total,hv.total,T9,RQ]
   have hb:∀ a b,lI y1 a b=lI xs a b:=o1.kl.before
   have fk:(fM y1 k).first=(fM xs k).first:=by rw[b1 k hne]
   have fi:(fM y1 i).first=(fM xs i).first:=by rw[a1]
   have tr:∀ a b c,lI xs a b=true->lI xs b c=true->lI xs a c=true:=by
    intro a b c h1 h2
    simp only[lI,decide_eq_true_eq]at h1 h2 ⊢;omega
   have tot:∀ a b,lI xs a b=false->a=b\/lI xs b a=true:=by
    intro a b h1
    simp only[lI,decide_eq_true_eq,decide_eq_false_iff_not]at h1 ⊢;omega
   rw[fk,fi,hb]
   cases hc:lI xs (fM xs k).first (fM xs i).first with
   | true =>
    rw[if_pos rfl]
    have e2:fM (fR y1 i (fun x=>{ x with first:=(fM xs k).first })) i={ fM xs i with size:=IntKind.i64.wrap ((fM xs i).size+(fM xs k).size),total:=IntKind.i64.wrap ((fM xs i).total+(fM xs k).total),first:=(fM xs k).first }:=by
     rw[kQ o_,a1]
    have o2:od xs (fR y1 i (fun x=>{ x with first:=(fM xs k).first })) i:=⟨by rw[gJ,l1],fun j hj=>by rw[kM (fun e=>hj e.symm),b1 j hj],_,_,_,e2⟩
    refine⟨o2,⟨by rw[e2];exact hs,by rw[e2,o2.kl.Ff];exact ht,?_⟩⟩
    rw[e2]
    refine o2.kl.JI ⟨wu _ hv.first.1,fun j hj=>?_⟩
    rcases zr.1 hj with hj|hj
    . rcases h.first.2 j hj with rfl|hj
      . exact .inr hc
      . exact .inr (tr _ _ _ hc hj)
    . exact hv.first.2 j hj
   | false =>
    rw[if_neg s_]
    refine⟨o1,⟨by rw[a1];exact hs,by rw[a1,o1.kl.Ff];exact ht,?_⟩⟩
    rw[fi]
    refine o1.kl.JI ⟨uO _ h.first.1,fun j hj=>?_⟩
    rcases zr.1 hj with hj|hj
    . exact h.first.2 j hj
    . rcases tot _ _ hc with e|e
      . rw[<-e];exact hv.first.2 j hj
      . rcases hv.first.2 j hj with rfl|hj
        . exact .inr e
        . exact .inr (tr _ _ _ e hj)
theorem gO.vals{xs:List Nd}{t:Tr}{p:Nat}(h:gO xs t p):t.root≠0->oZ xs t.root t.mem:=by
 cases t with
 | nil=>intro h;exact absurd rfl h
 | nd l i r=>intro _;exact h.2.2.1
theorem gO.mV{xs:List Nd}{t:Tr}{p:Nat}(h:gO xs t p):t.root≠0->t.root∈t.mem:=by
 cases t with
 | nil=>intro h;exact absurd rfl h
 | nd l i r=>intro _;simp[Tr.root,Tr.mem]
theorem gO.Ij{xs:List Nd}{t:Tr}{p:Nat}(h:gO xs t p):t.root=0->t.mem=[]:=by
 cases t with
 | nil=>intro _;rfl
 | nd l i r=>intro e;exact absurd e h.1.1
theorem gO.zR{xs:List Nd}{t:Tr}{p:Nat}(h:gO xs t p)(h0:0<xs.length):t.root<xs.length:=by
 cases t with
 | nil=>exact h0
 | nd l i r=>exact h.1.2
theorem gO.pR{xs:List Nd}:∀ {t:Tr} {p:Nat},gO xs t p->∀ j∈t.mem,j≠0/\j<xs.length
 | .nil,_,_,j,hj=>by simp[Tr.mem]at hj
 | .nd l i r,p,h,j,hj=>by
  obtain⟨h1,_,_,h4,h5⟩:=h
  simp only[Tr.mem,zr,zg]at hj
  rcases hj with hj|rfl|hj
  . exact gO.pR h4 j hj
  . exact h1
  . exact gO.pR h5 j hj
theorem zC{xs:List Nd}{i:Nat}{l r:Tr}(hi:i≠0/\i<xs.length)(hl:gO xs l i)(hr:gO xs r i)(h0:(fM xs i).k0=l.root)(h1:(fM xs i).k1=r.root)(hn:(l.mem++i :: r.mem).Nodup)(hlen:(l.mem++i :: r.mem).length<=1000000) :
 od xs (iK xs i) i/\gO (iK xs i) (.nd l i r) (fM xs i).up:=by
 have hpos:0<xs.length:=by omega
 rw[zw,zx]at hn
 obtain⟨n1,⟨n2,n3⟩,n4⟩:=hn
 have nl:i∉l.mem:=fun h=>n4 i h i s_ rfl
 simp only[zn,zk]at hlen
 unfold iK
 obtain⟨y,ey⟩:∃ y,y=fR xs i (fun x=>{ x with size:=1,first:=i,total:=IntKind.i64.wrap (1+x.iP) }):=⟨_,rfl⟩
 simp only[<-ey]
 have ay:fM y i={ fM xs i with size:=1,first:=i,total:=IntKind.i64.wrap (1+(fM xs i).iP) }:=by rw[ey,kQ hi.2]
 have ly:y.length=xs.length:=by rw[ey,gJ]
 have by_:∀ j,j≠i->fM y j=fM xs j:=fun j hj=>by rw[ey,kM (fun e=>hj e.symm)]
 have oy:od xs y i:=⟨ly,by_,_,_,_,ay⟩
 have vy:oZ y i [i]:=⟨by rw[ay];rfl,by rw[ay,oy.kl.Ff];simp[nJ],by rw[ay];exact⟨s_,fun j hj=>.inl (by simpa using hj)⟩⟩
 have hl' : gO y l i:=hl.to oy.kl fun j hj=>by_ j (fun e=>nl (e▸hj))
 have hr' : gO y r i:=hr.to oy.kl fun j hj=>by_ j (fun e=>n2 (e▸hj))
 rw[h0,h1]
 obtain⟨o1,v1⟩:=Lh (xs:=y) (i:=i) (k:=l.root) (L:=[i]) (M:=l.mem) o_ (hl'.zR o_) vy (fun h=>⟨fun e=>nl (e▸hl.mV h),hl'.vals h⟩) (hl'.Ij) (by simp;omega)
 have hr2:=hr'.to o1.kl fun j hj=>o1.other j (fun e=>n2 (e▸hj))
 have hl2:=hl'.to o1.kl fun j hj=>o1.other j (fun e=>nl (e▸hj))
 obtain⟨o2,v2⟩:=Lh (xs:=mu y i l.root) (i:=i) (k:=r.root) (L:=[i]++l.mem) (M:=r.mem) (by rw[o1.len];omega) (hr2.zR (by rw[o1.len];omega)) v1 (fun h=>⟨fun e=>n2 (e▸hr.mV h),hr2.vals h⟩) (hr2.Ij) (by simp;omega)
 have o3:=(oy.trans o1).trans o2
 obtain⟨s,t,f,e3⟩:=o3.here
 refine⟨o3,⟨hi.1,by rw[o3.len];exact hi.2⟩,⟨by rw[e3];exact h0,by rw[e3];exact h1,by rw[e3]⟩,v2.perm ?_,hl2.to o2.kl fun j hj=>o2.other j (fun e=>nl (e▸hj)),hr2.to o2.kl fun j hj=>o2.other j (fun e=>n2 (e▸hj))⟩
 simp only[List.singleton_append,qc]
 exact wA.symm
end Go.Sx
