/- Plain lemmas: rules for walking through code, one for each operation, over any program; an evaluator of closed calls with its soundness; and plain mathematics. No conditions. -/
import Derived.Test.YtjhkmopeagfnlaaGreatDoorFa
import Derived.Laws.Externs
import Derived.Laws.BytesString
import Derived.Deep.AppendSrc
import Derived.ControlIn
import Derived.KernelRfl
set_option linter.unusedVariables false
set_option linter.unusedSectionVars false
set_option linter.unusedSimpArgs false
namespace Go.Ex
open Go Go.Sx
def XR.next(E:Env):XR->Next
 | .val v=>.value (fT E v)
 | .unit=>.skip
 | .enter f args=>.enter f (args.map (fT E)).toArray
 | .yield _ _=>.skip
def XR.Wf(k:Nat):XR->Prop
 | .val v=>nm v<=k
 | .unit=>True
 | .enter _ args=>gT args<=k
 | .yield l args=>l<k/\gT args<=k
def yC(E:Env)(k:Nat)(ρ:jb)(n:Nat)(s:List (Nat×Value)):Prop:=∀ x v,ρ x=some v->ev n s x=fT E v/\nm v<=k
def iw(P:Program)(E:Env)(A:AH)(w:World)(s:Sem Next)(A' : AH):XR->Prop
 | .yield l args=>A' = A/\l<A.nf/\gT args<=A.nf/\s.run P w=(Instr.yield (E l).blk (args.map (fT E)).toArray).run P w
 | r=>∃ E' w', s.run P w = .ok (r.next E') w' /\ Rel E' A' w' /\ To E A w E' A' w' /\ r.Wf A'.nf
section
variable {P:Program} {E:Env} {A A' : AH} {w:World} {s:Sem Next} {v:Value} {b o n:Nat} {cs l:List Value}
theorem iw.val(h:Rel E A w)(hr:s.run P w = .ok (.value (fT E v)) w)(hn:nm v<=A.nf):iw P E A w s A (.val v):=⟨E,w,hr,h,To.refl E A w,hn⟩
theorem vJ(h:pH cs o n=some l):l=(cs.drop o).take n/\l.length=n:=by
 unfold pH at h
 simp only[nS]at h
 by_cases hb:((cs.drop o).take n).length=n
 . rw[decide_eq_true hb]at h;simp only[cond_true,Option.some.injEq]at h;subst h;exact⟨rfl,hb⟩
 . rw[decide_eq_false hb]at h;simp at h
theorem SZ(h:pH cs o n=some l)(j:Nat)(u:Value)(hj:l[j]? = some u):cs[o+j]? = some u:=by
 obtain⟨rfl,_⟩:=vJ h
 rw[pZ]at hj
 split at hj
 . simpa using hj
 . cases hj
theorem Hi(base:List Value)(d:Value)(t:Tr Value):∀ (n o:Nat),yF base d t n o=(List.range' o n).map (rowAt base d t)
 | 0,o=>rfl
 | n+1,o=>by
  rw[List.range'_succ,z1,<-Hi base d t n (o+1)];rfl
theorem K6(m:Nat)(base:List Value)(d:Value)(t:Tr Value)(o n:Nat):pH (oh m base d t) o n=bif Nat.ble (o+n) m||Nat.beq n 0 then some (yF base d t n o)else none:=by
 have hl:(((oh m base d t).drop o).take n).length=min n (m-o):=by simp[xm]
 unfold pH
 simp only[hl,nS]
 by_cases h0:n=0
 . subst h0;simp[yF];rfl
 . by_cases h:o+n<=m
   . rw[decide_eq_true o_,BT h]
     simp only[cond_true,Bool.true_or,Option.some.injEq]
     rw[Hi]
     refine nq fun i=>?_
     rw[pZ,kJ]
     by_cases hi:i<n
     . rw[if_pos hi,zV,vQ,if_pos o_,List.getElem?_range' hi];simp
     . rw[if_neg hi,mB (by simp;omega)];rfl
   . rw[decide_eq_false o_,decide_eq_false h0]
     have:Nat.ble (o+n) m=false:=by
      cases hb:Nat.ble (o+n) m with
      | false=>rfl
      | true=>exact absurd (za hb) h
     rw[this];rfl
theorem LU(A:AH)(b o n:Nat):se A b o n=match A.get b with
 | some (.cells cs _ _ _)=>pH cs o n
 | _=>none:=by
 unfold se AH.get
 cases hp:A.h.get b with
 | none=>rfl
 | some p =>
  cases p with
  | ao ob=>cases ob<;>rfl
  | row m base d t T op ro=>simp only[PO.to];rw[K6]
theorem Sd(h:se A b o n=some l):∃ cs T op ro,A.get b=some (.cells cs T op ro)/\pH cs o n=some l:=by
 rw[LU]at h
 split at h
 . rename_i cs T op ro hg;exact⟨cs,T,op,ro,hg,h⟩
 . cases h
theorem T8{m:Nat}{base:List Value}{d:Value}{t:Tr Value}{vs:List Value}(h:o+vs.length<=m):oh m base d (we vs o t)=setAt (oh m base d t) o vs:=by
 refine nq fun i=>?_
 rw[vQ]
 unfold setAt
 simp only[mT]
 by_cases h1:i<o
 . rw[sS (by simp[xm];omega),pZ,if_pos h1,vQ]
   unfold rowAt
   rw[vN,if_neg (show ¬ (o<=i/\i<o+vs.length) by omega)]
 . rw[u9 (by simp[xm];omega)]
   have e1:((oh m base d t).take o).length=o:=by simp[xm];omega
   rw[e1]
   by_cases h2:i<o+vs.length
   . rw[sS o_,if_pos o_]
     unfold rowAt
     rw[vN,if_pos (show o<=i/\i<o+vs.length by omega)]
     have:vs[i-o]? = some vs[i-o]:=zk o_
     rw[this]
   . rw[u9 o_,zV,show o+vs.length+(i-o-vs.length)=i by omega,vQ]
     unfold rowAt
     rw[vN,if_neg (show ¬ (o<=i/\i<o+vs.length) by omega)]
theorem RE{vs:List Value}(h:A7 A b o vs=some A'):∃ cs T op,A.get b=some (.cells cs T op false)/\o+vs.length<=cs.length/\vs.all one=true/\lN A' (A.set b (.cells (setAt cs o vs) T op false)):=by
 unfold A7 at h
 split at h
 . rename_i m base d t T op hg
   cases hb:(Nat.ble (o+vs.length) m&&vs.all one)with
   | false=>rw[hb]at h;cases h
   | true =>
    rw[hb]at h
    simp only[cond_true,Option.some.injEq]at h
    subst h
    rw[zo]at hb
    have hfit:=za hb.1
    refine⟨oh m base d t,T,op,by unfold AH.get;rw[hg];rfl,by rw[xm];exact hfit,hb.2,rfl,fun b' => ?_⟩
    rw[uB,AH.xV (n' := A.nf)]
    simp only[PO.to,T8 hfit]
 . cases h
theorem Rel.cell(h:Rel E A w){T:TypeId}{op:Option Nat}{ro:Bool}(hb:A.get b=some (.cells cs T op ro)){u:Value}(hu:cs[o]? = some u):w.cell? ⟨(E b).blk,(E b).sh+o,none⟩=some (fT E u):=by
 obtain⟨c,hc,hlies⟩:=h.obj b _ hb
 cases ro with
 | true =>
  obtain⟨arr,T', mk,rfl,h1⟩:=hlies
  rw[cell_of_row w _ _ _ T' mk hc]
  exact h1 o u hu
 | false =>
  obtain⟨pre,post,rfl,hl,_⟩:=hlies
  rw[cell_of_row w _ _ _ T (0,0) hc]
  have hlt:=(zd.1 hu).1
  simp only[qH,mT]
  rw[u9 o_,<-hl,JQ,sS (by simpa using hlt)]
  simp[hu]
theorem Rel.read(h:Rel E A w)(hr:se A b o n=some l):l.length=n/\gT l<=A.nf/\∀ j u,(l.map (fT E))[j]? = some u->w.cell? ⟨(E b).blk,(E b).sh+o+j,none⟩=some u:=by
 obtain⟨cs,T,op,ro,hg,ht⟩:=Sd hr
 refine⟨(vJ ht).2,?_,fun j u hj=>?_⟩
 . refine ku.2 fun v hv=>?_
   rw[(vJ ht).1]at hv
   exact ku.1 (h.wf b _ hg).2 v (J8 (JV hv))
 . rw[kJ]at hj
   cases hlj:l[j]? with
   | none=>rw[hlj]at hj;cases hj
   | some u' =>
    rw[hlj]at hj
    simp only[nu,Option.some.injEq]at hj
    subst hj
    rw[j4]
    exact h.cell hg (SZ ht j u' hlj)
theorem GK{t:TypeId}(h:l6 P t=some n):∃ i,P.info? t=some i/\i.size=n:=by
 unfold l6 at h
 cases hi:P.info? t with
 | none=>rw[hi]at h;cases h
 | some i=>rw[hi]at h;simp at h;exact⟨i,rfl,h⟩
theorem run_sizeOf{t:TypeId}(h:l6 P t=some n)(w:World):(sizeOf t).run P w = .ok n w:=by
 obtain⟨i,hi,rfl⟩:=GK h
 simp[sizeOf,typeInfo,hi]
theorem qo{t:TypeId}{z:Value}(h:tz P t=some z):∃ i,P.info? t=some i/\i.zero=some z/\nm z=0/\z.cells.toList.length=i.size:=by
 unfold tz at h
 cases hi:P.info? t with
 | none=>rw[hi]at h;cases h
 | some i =>
  rw[hi]at h
  simp only at h
  cases hz:i.zero with
  | none=>rw[hz]at h;cases h
  | some z' =>
   rw[hz]at h
   simp only[nS]at h
   by_cases h0:nm z' = 0
   . by_cases h1:z'.cells.toList.length=i.size
     . rw[decide_eq_true h0,decide_eq_true h1]at h
       simp only[Bool.and_self,cond_true,Option.some.injEq]at h
       subst h
       exact⟨i,rfl,hz,h0,h1⟩
     . rw[decide_eq_false h1]at h;simp at h
   . rw[decide_eq_false h0]at h;simp at h
theorem De{t:TypeId}{z:Value}(h:tz P t=some z)(w:World):(zeroValue t).run P w = .ok z w:=by
 obtain⟨i,hi,hz,_,_⟩:=qo h
 simp[zeroValue,typeInfo,hi,hz]
theorem xH(d:TypeDesc):zA d=kQ d:=by cases d<;>rfl
section
variable {ρ:jb} {m:Nat} {sl:List (Nat×Value)} {t:TypeId} {x y:Operand} {dd:Option Nat} {ty:TypeId} {pos:String} {af:Array Edge} {g:Option (Nat×Bool)}
theorem SH(h:Rel E A w)(hx:ev m sl x=fT E v){r:XR}(he:x8 P A t v=some r):iw P E A w (execOp (ev m sl) ⟨dd,.load t x,ty,pos,af,g⟩) A r:=by
 unfold x8 at he
 split at he
 . rename_i b o
   split at he
   . rename_i d hd
     cases ha:zA d with
     | true =>
      rw[ha]at he
      simp only[cond_true]at he
      split at he
      . rename_i n hn
        split at he
        . rename_i l hl
          simp only[Option.some.injEq]at he
          subst he
          obtain⟨h1,h2,h3⟩:=h.read hl
          refine iw.val h ?_ (by simp only[nm,jA];exact h2)
          have:=run_loadCells_list (P:=P) w ⟨(E b).blk,(E b).sh+o,none⟩ (l.map (fT E)) (fun j u hj=>by rw[Addr.add_lit];exact h3 j u hj)
          rw[zr,h1]at this
          simp only[execOp,hx,fT,iZ,Instr.loadAt,Instr.sureAddr,loadVar,zj,zm,ze,qf hd,<-xH,ha,run_sizeOf hn,this,if_true,uq]
        . cases he
      . cases he
     | false =>
      rw[ha]at he
      simp only[cond_false]at he
      split at he
      . rename_i u hu
        simp only[Option.some.injEq]at he
        subst he
        obtain⟨h1,h2,h3⟩:=h.read hu
        refine iw.val h ?_ (by simp only[gT]at h2;omega)
        exact gZ (a:=⟨(E b).blk,(E b).sh+o,none⟩) (by rw[hx];rfl) hd (by rw[<-xH];exact ha) (h3 0 (fT E u) s_)
      . cases he
   . cases he
 . cases he
theorem NP(v:Value):one v=v.oneCell' := by cases v<;>rfl
theorem Nt(E:Env)(v:Value):(fT E v).oneCell' = v.oneCell' := by
 cases v<;>first
  | rfl
  | (rename_i o;cases o<;>rfl)
  | (rename_i o _ _;cases o<;>rfl)
theorem Ld(f:Value->Value)(cs vs:List Value)(o:Nat):(setAt cs o vs).map f=setAt (cs.map f) o (vs.map f):=by simp[setAt]
theorem MH{k:Nat}{vs:List Value}(h:gT cs<=k)(hv:gT vs<=k):gT (setAt cs o vs)<=k:=by
 rw[ku]at *
 intro v hm
 simp only[setAt,zq]at hm
 rcases hm with (hm|hm)|hm
 . exact h v (JV hm)
 . exact hv v hm
 . exact h v (J8 hm)
theorem KB{vs:List Value}(h:Rel E A w)(hn:gT vs<=A.nf)(he:A7 A b o vs=some A') :
 ∃ w', (storeCells ⟨(E b).blk,(E b).sh+o,none⟩ (vs.map (fT E))).run P w = .ok () w' /\ Rel E A' w' /\ To E A w E A' w' /\ A'.nf=A.nf:=by
 obtain⟨cs,T,op,hg,hfit,hall,hsm⟩:=RE he
 obtain⟨c,hc,pre,post,rfl,hl,hop⟩:=h.obj b _ hg
 have h1:∀ u∈vs.map (fT E),u.oneCell' = true:=by
  intro u hu
  obtain⟨v,hv,rfl⟩:=jW.1 hu
  rw[Nt,<-NP]
  exact zz.1 hall v hv
 have hrun:=run_storeCells_at P (E b).blk ((E b).sh+o) T (vs.map (fT E)) 0 _ w hc (by simp;omega) h1
 have hrow:setAt (pre++cs.map (fT E)++post) ((E b).sh+o) (vs.map (fT E))=pre++(setAt cs o vs).map (fT E)++post:=by
  rw[Ld]
  simp only[setAt,<-hl,mT]
  rw[Ao,B5]
  simp only[JQ,zr]
  rw[rE o_,Ao,List.drop_eq_nil_of_le o_,show pre.length+o+vs.length-pre.length=o+vs.length by omega,B5]
  simp only[zr,rK,mT]
  rw[show o-cs.length=0 by omega,show o+vs.length-cs.length=0 by omega]
  simp
 refine⟨_,hrun,?_⟩
 have hset:(w.setRow (E b).blk (List.toArray (setAt (pre++cs.map (fT E)++post) ((E b).sh+o) (vs.map (fT E))))).heap[(E b).blk]? = some (.cells (pre++(setAt cs o vs).map (fT E)++post).toArray T (0,0)):=by
  rw[<-hrow];exact setRow_heap w _ _ _ T (0,0) hc
 have:=h.iE (b:=b) (o' := .cells (setAt cs o vs) T op false) (w' := w.setRow (E b).blk (List.toArray (setAt (pre++cs.map (fT E)++post) ((E b).sh+o) (vs.map (fT E))))) hg rfl rfl hset ⟨pre,post,rfl,hl,hop⟩ (MH (h.wf b _ hg).2 hn) (gD.setRow w _ _)
 have e2:(List.take ((E b).sh+o+0) (pre++cs.map (fT E)++post)++vs.map (fT E)++List.drop ((E b).sh+o+0+(vs.map (fT E)).length) (pre++cs.map (fT E)++post))=setAt (pre++cs.map (fT E)++post) ((E b).sh+o) (vs.map (fT E)):=by simp[setAt]
 simp only at this ⊢
 refine⟨?_,?_,hsm.1⟩
 . refine Rel.same ?_ hsm
   simpa[setAt]using this.1
 . refine To.same ?_ hsm
   simpa[setAt]using this.2
end
end
end Go.Ex
namespace Go.Ex
open Go Go.Sx
section
variable {P:Program} {E:Env} {A A' : AH} {w:World} {v:Value} {b o n:Nat} {cs l:List Value} {r:XR}
variable {ρ:jb} {m:Nat} {sl:List (Nat×Value)} {t:TypeId} {x y:Operand} {dd:Option Nat} {ty:TypeId} {pos:String} {af:Array Edge} {g:Option (Nat×Bool)}
abbrev kj(P:Program)(op:Op):Prop:=∀ (E:Env) (A A' : AH) (w:World) (ρ:jb) (m:Nat) (sl:List (Nat×Value)) (r:XR) (dd:Option Nat) (ty:TypeId) (pos:String) (af:Array Edge) (g:Option (Nat×Bool)),
 Rel E A w->yC E A.nf ρ m sl->jh P ty op ρ A=some (r,A')->iw P E A w (execOp (ev m sl) ⟨dd,op,ty,pos,af,g⟩) A' r
theorem map_some{α β:Type}{f:α->β}{o:Option α}{y:β}(h:o.map f=some y):∃ x,o=some x/\f x=y:=by
 cases o with
 | none=>cases h
 | some x=>exact⟨x,rfl,by simpa using h⟩
theorem Ya(x:Operand):kj P (.move x):=by
 intro E A A' w ρ m sl r dd ty pos af g h hρ he
 obtain⟨v,hv,e⟩:=map_some he
 cases e
 exact iw.val h (iD (hρ x v hv).1) (hρ x v hv).2
theorem Vj(x:Operand):kj P (.assign x):=by
 intro E A A' w ρ m sl r dd ty pos af g h hρ he
 obtain⟨v,hv,e⟩:=map_some he
 cases e
 exact iw.val h (tB (hρ x v hv).1) (hρ x v hv).2
theorem XI(c x y:Operand):kj P (.pick c x y):=by
 intro E A A' w ρ m sl r dd ty pos af g h hρ he
 simp only[jh,HF]at he
 split at he
 . rename_i hc
   obtain⟨v,hv,e⟩:=map_some he
   cases e
   exact iw.val h (Iz (hρ c _ hc).1 (hρ x v hv).1) (hρ x v hv).2
 . rename_i hc
   obtain⟨v,hv,e⟩:=map_some he
   cases e
   exact iw.val h (IG (hρ c _ hc).1 (hρ y v hv).1) (hρ y v hv).2
 . cases he
theorem X9(t:TypeId)(a:Operand):kj P (.load t a):=by
 intro E A A' w ρ m sl r dd ty pos af g h hρ he
 simp only[jh,Ht]at he
 split at he
 . rename_i v hv
   obtain⟨r', hr,e⟩:=map_some he
   cases e
   exact SH h (hρ a v hv).1 hr
 . cases he
theorem Xq(t:TypeId)(a x:Operand):kj P (.store t a x):=by
 intro E A A' w ρ m sl r dd ty pos af g h hρ he
 simp only[jh,Mh]at he
 split at he
 . rename_i p v hp hv
   obtain⟨A1,hr,e⟩:=map_some he
   cases e
   unfold Oo at hr
   split at hr
   . rename_i b o
     split at hr
     . rename_i n hn
       cases hb:Nat.beq v.cells.toList.length n with
       | false=>rw[hb]at hr;cases hr
       | true =>
        rw[hb]at hr
        simp only[cond_true]at hr
        have hnv:gT v.cells.toList<=A.nf:=by
         have h1:=(hρ x v hv).2
         rw[<-AU]at h1
         cases hc:v.cells with|mk l=>rw[hc]at h1;exact h1
        obtain⟨w', h1,h2,h3,h4⟩:=KB (P:=P) h hnv hr
        refine⟨E,w', ?_,h2,h3,trivial⟩
        have hsz:(fT E v).cells.size=n:=by rw[CU];simpa using zt hb
        have hl:(fT E v).cells.toList=v.cells.toList.map (fT E):=by rw[CU];simp
        simp only[execOp,(hρ a _ hp).1,(hρ x v hv).1,fT,iZ,Instr.storeAt,Instr.sureAddr,storeVar,zj,zm,ze,run_sizeOf hn,hsz,ne_eq,not_true,if_false,hl,h1,XR.next]
     . cases hr
   . cases hr
 . cases he
theorem CT{P:Program}{T:TypeId}{vs:List Value}{s:Sem Next}{v:Value}(h:Rel E A w)(hn:gT vs<=A.nf)(op:Option Nat)(hop:∀ sz,op=some sz->False)
 (hs:s.run P w = .ok (.value (fT (kP E A.nf ⟨w.heap.size,0,0⟩) v)) (w.alloc (.cells (vs.map (fT E)).toArray T))) (hv:nm v<=A.nf+1):iw P E A w s (A.add (.cells vs T op false)) (.val v):=by
 have:=h.new (o:=.cells vs T op false) (x:=⟨w.heap.size,0,0⟩) (w' := w.alloc (.cells (vs.map (fT E)).toArray T)) (c:=.cells (vs.map (fT E)).toArray T) (heap_alloc_new w _) (zn _)
  ⟨[],[],s_,rfl,fun sz e=>(hop sz e).elim⟩ hn (gD.alloc [] w _)
 exact⟨_,_,hs,this.1,this.2,hv⟩
theorem WG(t:TypeId):kj P (.alloc t):=by
 intro E A A' w ρ m sl r dd ty pos af g h hρ he
 obtain⟨z,hz,e⟩:=map_some he
 cases e
 obtain⟨i,_,_,h0,_⟩:=qo hz
 have hn:gT z.cells.toList=0:=by
  rw[<-AU]at h0
  cases hc:z.cells with|mk l=>rw[hc]at h0;exact h0
 refine CT (vs:=z.cells.toList) h o_ none (fun sz e=>by cases e) ?_ (by simp[ptr,nm])
 have hid:z.cells.toList.map (fT E)=z.cells.toList:=by rw[<-qT,DD _ hn]
 rw[hid]
 simp only[execOp,Instr.alloc,zj,De hz,ze,ptr,fT,iZ,kL]
 rfl
theorem aau(t:TypeId)(x:Operand):kj P (.box t x):=by
 intro E A A' w ρ m sl r dd ty pos af g h hρ he
 obtain⟨v,hv,e⟩:=map_some he
 cases e
 have hn:gT v.cells.toList<=A.nf:=by
  have h1:=(hρ x v hv).2
  rw[<-AU]at h1
  cases hc:v.cells with|mk l=>rw[hc]at h1;exact h1
 refine CT (vs:=v.cells.toList) h hn none (fun sz e=>by cases e) ?_ (by simp[ptr,nm])
 have hl:(v.cells.toList.map (fT E)).toArray=(fT E v).cells:=by rw[CU];apply Array.ext'; simp
 rw[hl]
 simp only[execOp,(hρ x v hv).1,Instr.box,ptr,fT,iZ,kL]
 rfl
theorem Tp(x:Operand)(i:Nat):kj P (.extract x i):=by
 intro E A A' w ρ m sl r dd ty pos af g h hρ he
 simp only[jh,F8]at he
 split at he
 . rename_i vs hv
   obtain⟨u,hu,e⟩:=map_some he
   cases e
   have h1:=(hρ x _ hv).2
   simp only[nm]at h1
   refine iw.val h (BF (vs:=vs.map (fT E)) (by rw[(hρ x _ hv).1];simp only[fT,AQ]) (by simp only[Array.getElem?_map];rw[<-rM,hu];rfl)) (XM.1 h1 u ?_)
   rw[rM]at hu
   exact Array.mem_of_getElem? hu
 . cases he
theorem aa0(op:UnOp)(t:TypeId)(x:Operand):kj P (.unOp op t x):=by
 intro E A A' w ρ m sl r dd ty pos af g h hρ he
 simp only[jh,HR]at he
 split at he
 . rename_i u hu
   obtain⟨v,hv,e⟩:=map_some he
   cases e
   unfold Qq at hv
   split at hv
   . rename_i k a
     split at hv
     . cases hv;exact iw.val h (ZO (hρ x _ hu).1 rfl) (by simp[nm])
     . obtain⟨c,hc,e⟩:=map_some hv
       cases e
       exact iw.val h (ZF (hρ x _ hu).1 hc) (by simp[nm])
     . cases hv
   . rename_i b
     split at hv
     . cases hv;exact iw.val h (IP (hρ x _ hu).1 rfl) (by simp[nm])
     . cases hv
   . cases hv
 . cases he
theorem RY(T:TypeId)(x:Operand)(f:Nat):kj P (.fieldAddr T x f):=by
 intro E A A' w ρ m sl r dd ty pos af g h hρ he
 simp only[jh,FI]at he
 split at he
 . rename_i b o fs hx hT
   split at he
   . rename_i fl hf
     split at he
     . rename_i k hk
       cases he
       have h1:=hρ x _ hx
       refine iw.val h ?_ (by have:=h1.2;simpa[ptr,nm]using this)
       rw[rM]at hf
       simp only[execOp,h1.1,fT,iZ,Instr.fieldAt,run_underlying hT,hf,Instr.sureAddr,fieldPlace,zj,zm,ze,run_sizeOf hk,Addr.add_lit,ptr]
       simp[j4]
     . cases he
   . cases he
 . cases he
theorem uv{v:Value}{i:Nat}(h:sG v=some i):∃ k,v = .int k (i:Int):=by
 unfold sG at h
 split at h
 . cases h;exact⟨_,rfl⟩
 . cases h
theorem RZ(T:TypeId)(x y:Operand):kj P (.indexAddr T x y):=by
 intro E A A' w ρ m sl r dd ty pos af g h hρ he
 simp only[jh,FQ]at he
 split at he
 . rename_i b o n c vi e hx hy hT
   split at he
   . rename_i i sz hi hsz
     cases hb:Nat.blt i n with
     | false=>rw[hb]at he;cases he
     | true =>
      rw[hb]at he
      cases he
      obtain⟨k,rfl⟩:=uv hi
      have h1:=hρ x _ hx
      have h2:=hρ y _ hy
      have hlt:i<n:=by simpa[Nat.blt,uc]using hb
      refine iw.val h ?_ (by have:=h1.2;simpa[ptr,nm]using this)
      simp only[execOp,h1.1,h2.1,fT,iZ,Instr.indexAt,run_underlying hT,asIntOf,zj,zm,ze]
      have:(0:Int)<=(i:Int)/\(i:Int)<(n:Int):=by omega
      simp[this,run_sizeOf hsz,Addr.add_lit,ptr,fT,iZ,j4]
   . cases he
 . rename_i b o vi n e hx hy hT
   split at he
   . rename_i i sz hi hsz
     cases hb:Nat.blt i n with
     | false=>rw[hb]at he;cases he
     | true =>
      rw[hb]at he
      cases he
      obtain⟨k,rfl⟩:=uv hi
      have h1:=hρ x _ hx
      have h2:=hρ y _ hy
      have hlt:i<n:=by simpa[Nat.blt,uc]using hb
      refine iw.val h ?_ (by have:=h1.2;simpa[ptr,nm]using this)
      simp only[execOp,h1.1,h2.1,fT,iZ,Instr.indexAt,run_underlying hT,asIntOf,Instr.sureAddr,zj,zm,ze]
      have:(0:Int)<=(i:Int)/\(i:Int)<(n:Int):=by omega
      simp[this,run_sizeOf hsz,Addr.add_lit,ptr,fT,iZ,j4]
   . cases he
 . cases he
end
end Go.Ex
namespace Go.Ex
open Go Go.Sx
section
variable {P:Program} {E:Env} {A A' : AH} {w:World} {v:Value} {b o n:Nat} {cs l:List Value} {r:XR}
theorem s9{ρ:jb}{m k:Nat}{sl:List (Nat×Value)}(hρ:yC E k ρ m sl):∀ {az:List Operand} {vs:List Value},mapM' ρ az=some vs->az.map (ev m sl)=vs.map (fT E)/\gT vs<=k
 | [],vs,h=>by cases h;exact⟨rfl,by simp[gT]⟩
 | x :: az,vs,h=>by
  simp only[mapM']at h
  split at h
  . rename_i y hy
    split at h
    . rename_i r' hr
      cases h
      obtain⟨h1,h2⟩:=s9 hρ hr
      have:=hρ x y hy
      exact⟨by simp only[z1,this.1,h1],by simp only[gT,nv];exact⟨this.2,h2⟩⟩
    . cases h
  . cases h
theorem Rj(t:TypeId)(x:Operand):kj P (.makeInterface t x):=by
 intro E A A' w ρ m sl r dd ty pos af g h hρ he
 simp only[jh,FE]at he
 split at he
 . rename_i v d hv hd
   have h1:=hρ x v hv
   split at he
   . cases he
   . rename_i hni
     cases he
     refine iw.val h (aaq (v:=fT E v) h1.1 hd ?_) (by simpa[nm]using h1.2)
     cases d<;>first|rfl|(exact absurd rfl (hni _))
 . cases he
theorem SG(fn:Fn)(fi ca:Array Operand):kj P (.makeFunc fn fi ca):=by
 intro E A A' w ρ m sl r dd ty pos af g h hρ he
 simp only[jh,FX]at he
 split at he
 . rename_i u v hu hv
   have h1:=s9 hρ hu
   have h2:=s9 hρ hv
   split at he
   . cases he
   . rename_i hny
     cases he
     have hfn:mP E fn=fn:=by cases fn<;>first|rfl|(exact absurd rfl (hny _))
     refine iw.val h ?_ ?_
     . have e1:fi.map (ev m sl)=(u.map (fT E)).toArray:=by apply Array.ext'; simp[h1.1]
       have e2:ca.map (ev m sl)=(v.map (fT E)).toArray:=by apply Array.ext'; simp[h2.1]
       simp only[execOp,Instr.makeFunc,e1,e2,zj,zm,ze,fT,hfn,uq]
     . simp only[nm,jA,nv]
       refine⟨?_,h1.2,h2.2⟩
       cases fn<;>first|exact mS _|(exact absurd rfl (hny _))
 . cases he
theorem Lt{t:TypeId}{name:String}{f:FuncId}(h:wF P t name=some f):∃ i mt,P.info? t=some i/\i.methods.find? (fun m=>m.name==name)=some mt/\mt.path = #[]/\mt.func=some (f,true)/\∃ e,P.underlying t=some (.pointer e):=by
 unfold wF at h
 split at h
 . rename_i i hi
   split at h
   . rename_i mt hm
     cases hp:mt.path.isEmpty with
     | false=>rw[hp]at h;cases h
     | true =>
      rw[hp]at h
      simp only[cond_true]at h
      split at h
      . rename_i f' e hf hu
        cases h
        exact⟨i,mt,hi,hm,by simpa using hp,hf,e,hu⟩
      . cases h
   . cases h
 . cases h
theorem Gl{t:TypeId}{name:String}{f:FuncId}(h:wF P t name=some f)(k:Nat)(v:Value)(w:World):(method (k+1) t v name).run P w = .ok (f,v) w:=by
 obtain⟨i,mt,hi,hm,hp,hf,e,hu⟩:=Lt h
 simp[run_underlying hu,Place.get,method,typeInfo,hi,hm,hp,hf,follow,receiverAt]
theorem RF{t:TypeId}{name:String}{f:FuncId}(h:wF P t name=some f)(k:Nat)(v:Value)(w:World):(nilAhead (k+1) t v name).run P w = .ok (some false) w:=by
 obtain⟨i,mt,hi,hm,hp,hf,_⟩:=Lt h
 simp[nilAhead,typeInfo,hi,hm,hp,hf,followBlind]
theorem Ss(x:Operand):kj P (.nilCheck x):=by
 intro E A A' w ρ m sl r dd ty pos af g h hρ he
 simp only[jh,FR]at he
 split at he
 . rename_i a hx
   cases he
   have h1:=hρ x _ hx
   exact iw.val h (jY (a:=iZ E a) h1.1) h1.2
 . rename_i f fi ca hx
   cases he
   have h1:=hρ x _ hx
   refine iw.val h ?_ h1.2
   simp only[execOp,h1.1,fT,mP,zm]
 . rename_i name t a fi ca hx
   split at he
   . rename_i f hm
     cases he
     have h1:=hρ x _ hx
     refine iw.val h ?_ h1.2
     have:=RF hm (P.types.size+(Made.depth-1)) (.pointer (some (iZ E a))) w
     simp only[execOp,h1.1,fT,mP,ko,lF]
     rw[show P.types.size+(Made.depth-1)+1=P.types.size+Made.depth from rfl]at this
     simp[this]
   . cases he
 . cases he
theorem rQ{t:TypeId}{u:Value}(h:uG P t cs o=some u){k:Nat}(hk:gT cs<=k)(w:World):(part t (cs.map (fT E)).toArray o).run P w = .ok (fT E u) w/\nm u<=k:=by
 unfold uG at h
 split at h
 . rename_i d hd
   cases ha:zA d with
   | true =>
    rw[ha]at h
    simp only[cond_true]at h
    split at h
    . rename_i n hn
      split at h
      . rename_i l hl
        cases h
        obtain⟨rfl,h2⟩:=vJ hl
        constructor
        . simp only[part,zj,qf hd,<-xH,ha,ze,if_true,run_sizeOf hn,zm,fT,uq]
          congr 3
          apply Array.ext'
          simp[List.extract_eq_take_drop]
        . simp only[nm,jA]
          refine ku.2 fun v hv=>ku.1 hk v (J8 (JV hv))
      . cases h
    . cases h
   | false =>
    rw[ha]at h
    simp only[cond_false]at h
    constructor
    . simp only[part,zj,qf hd,<-xH,ha,ze]
      simp[h]
    . exact ku.1 hk u (zh h)
 . cases h
theorem XC(t:TypeId)(x:Operand)(f:Nat):kj P (.field t x f):=by
 intro E A A' w ρ m sl r dd ty pos af g h hρ he
 simp only[jh,GN]at he
 split at he
 . rename_i cs fs hx hT
   split at he
   . rename_i fl hf
     obtain⟨u,hu,e⟩:=map_some he
     cases e
     have h1:=hρ x _ hx
     obtain⟨cs⟩:=cs
     have h2:=rQ (E:=E) hu (k:=A.nf) (by have:=h1.2;simpa[nm,jA]using this) w
     rw[rM]at hf
     refine iw.val h ?_ h2.2
     simp only[execOp,h1.1,fT,AQ,Instr.field,run_underlying hT,hf,asAgg,zj,zm,ze]
     have e:(Array.map (fT E) ⟨cs⟩)=(cs.map (fT E)).toArray:=by simp
     rw[e,h2.1]
     rfl
   . cases he
 . cases he
theorem Yk(s:ByteArray)(i:Nat):s[i]? = s.data.toList[i]? := by
 rw[rM]
 by_cases h:i<s.size
 . rw[getElem?_pos s i h,getElem?_pos s.data i h];rfl
 . rw[getElem?_neg s i h,getElem?_neg s.data i h]
theorem WQ(t:TypeId)(x y:Operand):kj P (.index t x y):=by
 intro E A A' w ρ m sl r dd ty pos af g h hρ he
 simp only[jh,G2]at he
 split at he
 . rename_i cs vi n e hx hy hT
   split at he
   . rename_i i sz hi hsz
     cases hb:Nat.blt i n with
     | false=>rw[hb]at he;cases he
     | true =>
      rw[hb]at he
      simp only[cond_true]at he
      obtain⟨u,hu,e⟩:=map_some he
      cases e
      obtain⟨k,rfl⟩:=uv hi
      have h1:=hρ x _ hx
      have h2:=hρ y _ hy
      obtain⟨cs⟩:=cs
      have h3:=rQ (E:=E) hu (k:=A.nf) (by have:=h1.2;simpa[nm,jA]using this) w
      have hlt:i<n:=by simpa[Nat.blt,uc]using hb
      refine iw.val h ?_ h3.2
      have e:(Array.map (fT E) ⟨cs⟩)=(cs.map (fT E)).toArray:=by simp
      simp only[execOp,h1.1,h2.1,fT,AQ,e,Instr.index,run_underlying hT,asIntOf,zj,zm,ze]
      have:(0:Int)<=(i:Int)/\(i:Int)<(n:Int):=by omega
      simp[this,run_sizeOf hsz,h3.1]
   . cases he
 . rename_i s vi hx hy hT
   split at he
   . rename_i i hi
     obtain⟨u,hu,e⟩:=map_some he
     cases e
     obtain⟨k,rfl⟩:=uv hi
     have h1:=hρ x _ hx
     have h2:=hρ y _ hy
     refine iw.val h (VX h1.1 h2.1 hT o_ ?_) (by simp[nm])
     rw[Yk];exact hu
   . cases he
 . cases he
end
end Go.Ex
namespace Go.Ex
open Go Go.Sx
section
variable {P:Program} {E:Env} {w:World} {t t' : TypeId} {m:Nat} {sl:List (Nat×Value)} {x y:Operand} {dd:Option Nat} {ty:TypeId} {pos:String} {af:Array Edge} {g:Option (Nat×Bool)} {k:IntKind} {a b:Int} {u:Value}
theorem SB{op:BinOp}(hx:ev m sl x = .int k a)(hy:ev m sl y = .int k b)(h:P6 op k a b=some u)(hs:op ≠ .shl/\op ≠ .shr) :
 (execOp (ev m sl) ⟨dd,.binOp op t x y t', ty,pos,af,g⟩).run P w = .ok (.value u) w/\(nm u=0/\∀ E,fT E u=u):=by
 have dec:∀ (c:Int->Value),(bif decide (b=0)then none else some (c b))=some u->b≠0/\c b=u:=by
  intro c h
  by_cases hb:b=0
  . simp[hb]at h
  . simp[hb]at h;exact⟨hb,h⟩
 cases op with
 | add=>cases h;exact⟨kG hx hy rfl rfl,rfl,fun _=>rfl⟩
 | sub=>cases h;exact⟨kG hx hy rfl rfl,rfl,fun _=>rfl⟩
 | mul=>cases h;exact⟨kG hx hy rfl rfl,rfl,fun _=>rfl⟩
 | quo=>obtain⟨h0,rfl⟩:=dec (fun b=>.int k (k.wrap (a.tdiv b))) h;exact⟨Pg hx hy h0 rfl,rfl,fun _=>rfl⟩
 | rem=>obtain⟨h0,rfl⟩:=dec (fun b=>.int k (a.tmod b)) h;exact⟨Bu hx hy h0 rfl,rfl,fun _=>rfl⟩
 | and=>obtain⟨c,hc,rfl⟩:=map_some (f:=Value.int k) (o:=mV .and k a b) h;exact⟨BJ hx hy hc,rfl,fun _=>rfl⟩
 | or=>obtain⟨c,hc,rfl⟩:=map_some (f:=Value.int k) (o:=mV .or k a b) h;exact⟨BJ hx hy hc,rfl,fun _=>rfl⟩
 | xor=>obtain⟨c,hc,rfl⟩:=map_some (f:=Value.int k) (o:=mV .xor k a b) h;exact⟨BJ hx hy hc,rfl,fun _=>rfl⟩
 | andNot=>obtain⟨c,hc,rfl⟩:=map_some (f:=Value.int k) (o:=mV .andNot k a b) h;exact⟨BJ hx hy hc,rfl,fun _=>rfl⟩
 | shl=>exact absurd rfl hs.1
 | shr=>exact absurd rfl hs.2
 | eql=>obtain⟨c,hc,rfl⟩:=map_some (f:=Value.bool) (o:=jQ .eql a b) h;exact⟨mz hx hy hc,rfl,fun _=>rfl⟩
 | neq=>obtain⟨c,hc,rfl⟩:=map_some (f:=Value.bool) (o:=jQ .neq a b) h;exact⟨mz hx hy hc,rfl,fun _=>rfl⟩
 | lss=>obtain⟨c,hc,rfl⟩:=map_some (f:=Value.bool) (o:=jQ .lss a b) h;exact⟨mz hx hy hc,rfl,fun _=>rfl⟩
 | leq=>obtain⟨c,hc,rfl⟩:=map_some (f:=Value.bool) (o:=jQ .leq a b) h;exact⟨mz hx hy hc,rfl,fun _=>rfl⟩
 | gtr=>obtain⟨c,hc,rfl⟩:=map_some (f:=Value.bool) (o:=jQ .gtr a b) h;exact⟨mz hx hy hc,rfl,fun _=>rfl⟩
 | geq=>obtain⟨c,hc,rfl⟩:=map_some (f:=Value.bool) (o:=jQ .geq a b) h;exact⟨mz hx hy hc,rfl,fun _=>rfl⟩
theorem Wt(s:ByteArray):∀ (k i:Nat) (acc:List UInt8),s.size-i=k->ByteArray.toList.loop s i acc=acc.reverse++s.data.toList.drop i:=by
 intro k
 induction k with
 | zero =>
  intro i acc h
  unfold ByteArray.toList.loop
  have:¬ i<s.size:=by omega
  rw[if_neg this]
  rw[List.drop_eq_nil_of_le (by show s.data.size<=i;have:s.data.size=s.size:=rfl;omega),qC]
 | succ k ih =>
  intro i acc h
  unfold ByteArray.toList.loop
  have hi:i<s.size:=by omega
  rw[if_pos hi,ih (i+1) _ o_]
  have hi' : i<s.data.toList.length:=hi
  rw[wY hi']
  simp only[List.reverse_cons,mT,List.singleton_append]
  congr 2
  have:s.get! i=s.data[i]! := rfl
  rw[this]
  exact getElem!_pos s.data i hi
theorem TS(s:ByteArray):s.toList=s.data.toList:=by
 unfold ByteArray.toList
 rw[Wt s s.size 0 [] o_]
 simp
theorem Bj(a b:ByteArray):(a==b)=(a.data.toList==b.data.toList):=by
 have h1:(a==b)=(a.data==b.data):=by cases a;cases b;rfl
 rw[h1,Bool.eq_iff_iff]
 simp only[beq_iff_eq,Array.toList_inj]
theorem S9{op:BinOp}{p q:ByteArray}(hx:ev m sl x = .string p)(hy:ev m sl y = .string q)(h:Ja op p q=some u) :
 (execOp (ev m sl) ⟨dd,.binOp op t x y t', ty,pos,af,g⟩).run P w = .ok (.value u) w/\(nm u=0/\∀ E,fT E u=u):=by
 have hg:(eqGuard op t x y (.string p) (.string q)).run P w = .ok () w:=by unfold eqGuard;cases op<;>simp
 unfold Ja at h
 cases op<;>simp only at h<;>first
  | (cases h;refine⟨?_,rfl,fun _=>rfl⟩;simp only[execOp,hx,hy,zj,hg,ze,binOp,Op.stringOp,zm,TS];done)
  | (
   cases hb:Nat.ble (p.size+q.size) 9223372036854775807 with
   | false=>rw[hb]at h;cases h
   | true =>
    rw[hb]at h
    cases h
    have:=za hb
    have h2:¬ (((p.size+q.size:Nat):Int)>IntKind.i64.max):=by
     have:IntKind.i64.max=9223372036854775807:=rfl
     rw[this];omega
    refine⟨?_,rfl,fun _=>rfl⟩
    simp only[execOp,hx,hy,zj,hg,ze,binOp,Op.stringOp,if_neg h2,zm])
  | cases h
end
end Go.Ex
namespace Go.Ex
open Go Go.Sx
section
variable {P:Program} {E:Env} {w:World}
theorem MG{β:Type}(f:β->Option Bool)(B:β->Option Bool×Unit->Sem (ForInStep (Option Bool×Unit))):∀ (l:List β) (r:Bool),
 (∀ x∈l,f x=some true->(B x (none,())).run P w = .ok (.yield (none,())) w)->(∀ x∈l,f x=some false->(B x (none,())).run P w = .ok (.done (some false,())) w) ->
 allM f l=some r->(forIn l ((none,()):Option Bool×Unit) B).run P w = .ok (bif r then none else some false,()) w:=by
 intro l
 induction l with
 | nil=>intro r _ _ h;cases h;simp
 | cons x l ih =>
  intro r h1 h2 h
  simp only[allM]at h
  rw[List.forIn_cons]
  split at h
  . rename_i hx
    simp only[zj,h1 x s_ hx,ze]
    exact ih r (fun y hy=>h1 y (by simp[hy])) (fun y hy=>h2 y (by simp[hy])) h
  . rename_i hx
    cases h
    simp[zj,h2 x s_ hx,ze]
  . cases h
theorem Rq(f:Nat->Option Bool)(n:Nat):allM f (List.range n)=allM f (List.range' 0 n):=by rw[List.range_eq_range']
theorem Vy(a b:Addr)(h:a.block=b.block):(iZ E a==iZ E b)=(a==b):=by
 rw[Bool.eq_iff_iff]
 simp only[beq_iff_eq]
 constructor
 . intro e
   simp only[iZ,Addr.mk.injEq]at e
   obtain⟨_,e2,e3⟩:=e
   rw[h]at e2
   cases a;cases b
   simp only at h e2 e3
   simp only[Addr.mk.injEq]
   exact⟨h,o_,e3⟩
 . rintro rfl;rfl
theorem Ue:∀ (k k' : Nat) (t:TypeId) (x y:Value) (r:Bool),k<=k' -> sV P k t x y=some r->(Op.equalIn k' t (fT E x) (fT E y)).run P w = .ok r w:=by
 intro k
 induction k with
 | zero=>intro k' t x y r _ h;cases h
 | succ k ih =>
  intro k' t x y r hk h
  obtain⟨d,rfl⟩:∃ d,k' = d+1:=⟨k' - 1,o_⟩
  unfold sV at h
  split at h
  . rename_i a b hu;cases h;simp[Op.equalIn,run_underlying hu,fT]
  . rename_i _ j a k2 b hu
    by_cases e:j=k2
    . subst e;simp at h;subst h;simp[Op.equalIn,run_underlying hu,fT]
    . simp[e]at h
  . rename_i a b hu;cases h;simp[Op.equalIn,run_underlying hu,fT,Bj]
  . rename_i _ hu;cases h;simp[Op.equalIn,run_underlying hu,fT]
  . rename_i _ _ hu;cases h;simp[Op.equalIn,run_underlying hu,fT]
  . rename_i _ _ hu;cases h;simp[Op.equalIn,run_underlying hu,fT]
  . rename_i e a b hu
    split at h
    . rename_i n hn
      by_cases hb:a.block=b.block
      . simp[nS,hb]at h
        subst h
        simp[Op.equalIn,run_underlying hu,fT,run_sizeOf hn,sameAddr,show (iZ E a).block=(iZ E b).block by simp[iZ,hb],Vy a b hb]
      . simp[nS,hb]at h
    . cases h
  . rename_i b _ _ hu;cases h;cases b<;>simp[Op.equalIn,run_underlying hu,fT]
  . rename_i a _ _ _ _ hu;cases h;simp[Op.equalIn,run_underlying hu,fT]
  . rename_i b hu;cases h;cases b<;>simp[Op.equalIn,run_underlying hu,fT]
  . rename_i a hu;cases h;simp[Op.equalIn,run_underlying hu,fT]
  . rename_i hu;cases h;simp[Op.equalIn,run_underlying hu,fT]
  . rename_i hu;cases h;simp[Op.equalIn,run_underlying hu,fT]
  . rename_i hu;cases h;simp[Op.equalIn,run_underlying hu,fT]
  . rename_i hu;cases h;simp[Op.equalIn,run_underlying hu,fT]
  . rename_i hu;cases h;simp[Op.equalIn,run_underlying hu,fT]
  . rename_i fs xs ys hu
    cases hs:(P.stoodInHeld t||P.eqGuardType P.depth t)with
    | true=>rw[hs]at h;cases h
    | false =>
     rw[hs]at h
     simp only[cond_false]at h
     have hs1:P.stoodInHeld t=false:=by rw[Bool.or_eq_false_iff]at hs;exact hs.1
     obtain⟨xs⟩:=xs
     obtain⟨ys⟩:=ys
     simp[Op.equalIn,run_underlying hu,fT,hs1,uq]
     rw[<-Array.forIn_toList]
     rw[MG _ _ fs.toList r ?_ ?_ h]
     . cases r<;>simp
     . intro f hf hx
       by_cases hn : f.name = "_"
       . simp[hn]
       . have hn' : (f.name == "_") = false := by simpa using hn
         rw[hn']at hx
         simp only[cond_false]at hx
         split at hx
         . rename_i u v hu1 hv1
           have p1:=(rQ (E:=E) hu1 (zn _) w).1
           have p2:=(rQ (E:=E) hv1 (zn _) w).1
           simp[hn,p1,p2,ih d f.type u v true o_ hx]
         . cases hx
     . intro f hf hx
       by_cases hn : f.name = "_"
       . simp[hn]at hx
       . have hn' : (f.name == "_") = false := by simpa using hn
         rw[hn']at hx
         simp only[cond_false]at hx
         split at hx
         . rename_i u v hu1 hv1
           have p1:=(rQ (E:=E) hu1 (zn _) w).1
           have p2:=(rQ (E:=E) hv1 (zn _) w).1
           simp[hn,p1,p2,ih d f.type u v false o_ hx]
         . cases hx
  . rename_i n e xs ys hu
    cases hs:P.eqGuardType P.depth t with
    | true=>rw[hs]at h;cases h
    | false =>
     rw[hs]at h
     simp only[cond_false]at h
     split at h
     . rename_i sz hsz
       obtain⟨xs⟩:=xs
       obtain⟨ys⟩:=ys
       rw[Rq]at h
       simp[Op.equalIn,run_underlying hu,fT,uq,run_sizeOf hsz]
       rw[MG _ _ (List.range' 0 n) r ?_ ?_ h]
       . cases r<;>simp
       . intro i hi hx
         split at hx
         . rename_i u v hu1 hv1
           have p1:=(rQ (E:=E) hu1 (zn _) w).1
           have p2:=(rQ (E:=E) hv1 (zn _) w).1
           simp[p1,p2,ih d e u v true o_ hx]
         . cases hx
       . intro i hi hx
         split at hx
         . rename_i u v hu1 hv1
           have p1:=(rQ (E:=E) hu1 (zn _) w).1
           have p2:=(rQ (E:=E) hv1 (zn _) w).1
           simp[p1,p2,ih d e u v false o_ hx]
         . cases hx
     . cases h
  . cases h
end
end Go.Ex
namespace Go.Ex
open Go Go.Sx
section
variable {P:Program}
theorem binOp_eql{t:TypeId}{x y:Value}{E:Env}{w:World}{r:Bool}(h:sV P 100 t x y=some r)(hi:∀ k a k' b,¬ (x = .int k a/\y = .int k' b))(hs:∀ a b,¬ (x = .string a/\y = .string b)) :
 (binOp .eql t (fT E x) (fT E y)).run P w = .ok (.bool r) w/\(binOp .neq t (fT E x) (fT E y)).run P w = .ok (.bool !r) w:=by
 have he:(Op.equal t (fT E x) (fT E y)).run P w = .ok r w:=Ue 100 10000 t x y r d_ h
 have e1:binOp .eql t (fT E x) (fT E y)=(do pure (.bool (<- Op.equal t (fT E x) (fT E y))))/\binOp .neq t (fT E x) (fT E y)=(do pure (.bool (!(<- Op.equal t (fT E x) (fT E y))))):=by
  unfold sV at h
  split at h<;>first
   | (exact absurd ⟨rfl,rfl⟩ (hi _ _ _ _))
   | (exact absurd ⟨rfl,rfl⟩ (hs _ _))
   | (cases h;done)
   | (constructor<;>simp only[fT,binOp])
   | (rename_i o _ _ _;cases o<;>constructor<;>simp only[fT,binOp])
   | (rename_i o _;cases o<;>constructor<;>simp only[fT,binOp])
 rw[e1.1,e1.2]
 simp[he]
theorem Mi{t:TypeId}{x y:Value}{X Y:Operand}{E:Env}{w:World}{r:Bool}{op:BinOp}(h:sV P 100 t x y=some r):(eqGuard op t X Y (fT E x) (fT E y)).run P w = .ok () w:=by
 unfold eqGuard
 unfold sV at h
 split at h<;>first
  | (cases h;done)
  | (cases op<;>simp[fT];done)
  | (rename_i o _ _ _;cases o<;>cases op<;>simp[fT];done)
  | (rename_i o _;cases o<;>cases op<;>simp[fT];done)
  | skip
 . rename_i fs xs ys hu
   cases hs:(P.stoodInHeld t||P.eqGuardType P.depth t)with
   | true=>rw[hs]at h;cases h
   | false =>
    rw[Bool.or_eq_false_iff]at hs
    cases op<;>simp[fT,hs.2]
 . rename_i n e xs ys hu
   cases hs:P.eqGuardType P.depth t with
   | true=>rw[hs]at h;cases h
   | false=>cases op<;>simp[fT,hs]
theorem YO(op:BinOp)(t:TypeId)(x y:Operand)(t' : TypeId):kj P (.binOp op t x y t'):=by
 intro E A A' w ρ m sl r dd ty pos af g h hρ he
 simp only[jh,Hl]at he
 split at he
 . rename_i u v hu hv
   obtain⟨c,hc,e⟩:=map_some he
   cases e
   have h1:=hρ x u hu
   have h2:=hρ y v hv
   unfold PX at hc
   split at hc
   . rename_i k a k' b
     have i1:ev m sl x = .int k a:=h1.1
     have i2:ev m sl y = .int k' b:=h2.1
     split at hc
     . by_cases hb:0<=b
       . simp[hb]at hc
         subst hc
         exact iw.val h (aax i1 i2 hb rfl) (by simp[nm])
       . simp[hb]at hc
     . by_cases hb:0<=b
       . simp[hb]at hc
         subst hc
         exact iw.val h (Pq i1 i2 hb rfl) (by simp[nm])
       . simp[hb]at hc
     . rename_i n1 n2
       by_cases hk:k=k'
       . subst hk
         simp at hc
         obtain⟨r1,r2,r3⟩:=SB (P:=P) (w:=w) (t:=t) (t' := t') (dd:=dd) (ty:=ty) (pos:=pos) (af:=af) (g:=g) i1 i2 hc ⟨fun e=>n1 e,fun e=>n2 e⟩
         exact iw.val h (by rw[r3 E];exact r1) o_
       . simp[hk]at hc
   . rename_i a b
     obtain⟨r1,r2,r3⟩:=S9 (P:=P) (w:=w) (t:=t) (t' := t') (dd:=dd) (ty:=ty) (pos:=pos) (af:=af) (g:=g) (show ev m sl x = .string a from h1.1) (show ev m sl y = .string b from h2.1) hc
     exact iw.val h (by rw[r3 E];exact r1) o_
   . rename_i hni hns
     split at hc
     . obtain⟨b,hb,e⟩:=map_some hc
       cases e
       have:=(binOp_eql (E:=E) (w:=w) hb (fun k a k' b ⟨e1,e2⟩=>hni k a k' b e1 e2) (fun a b ⟨e1,e2⟩=>hns a b e1 e2)).1
       refine iw.val h ?_ (by simp[nm])
       simp only[execOp,h1.1,h2.1,zj,Mi hb,ze,this,zm,fT]
     . obtain⟨b,hb,e⟩:=map_some hc
       cases e
       have:=(binOp_eql (E:=E) (w:=w) hb (fun k a k' b ⟨e1,e2⟩=>hni k a k' b e1 e2) (fun a b ⟨e1,e2⟩=>hns a b e1 e2)).2
       refine iw.val h ?_ (by simp[nm])
       simp only[execOp,h1.1,h2.1,zj,Mi hb,ze,this,zm,fT]
     . cases hc
 . cases he
end
end Go.Ex
namespace Go.Ex
open Go Go.Sx
section
variable {P:Program}
theorem Wx(zs:List Value):∀ (c i:Nat),(rep zs c)[i]? = if i<c*zs.length then zs[i%zs.length]? else none:=by
 intro c
 induction c with
 | zero=>intro i;simp[rep]
 | succ c ih =>
  intro i
  rw[rep,nw,Nat.one_mul]
  by_cases h:i<zs.length
  . rw[sS h,if_pos o_,Nat.mod_eq_of_lt h]
  . rw[u9 o_,ih]
    by_cases h2:i<c*zs.length+zs.length
    . rw[if_pos h2,if_pos o_]
      congr 1
      exact(Nat.mod_eq_sub_mod o_).symm
    . rw[if_neg h2,if_neg o_]
theorem KS(zs:List Value)(c:Nat):(rep zs c).length=c*zs.length:=by
 induction c with
 | zero=>simp[rep]
 | succ c ih=>rw[rep,zw,ih,nw];omega
theorem Mu(z:Value)(c:Nat):(Array.range (c*z.cells.toList.length)).map (z.cells[· % z.cells.size]!)=(rep z.cells.toList c).toArray:=by
 apply Array.ext
 . simp[KS]
 . intro i h1 h2
   have h3:i<c*z.cells.toList.length:=by simpa[KS]using h2
   have hp:0<z.cells.size:=by
    rcases vt z.cells.size with h|h
    . simp[h]at h3
    . exact h
   have:=Wx z.cells.toList c i
   rw[if_pos h3]at this
   have e:(rep z.cells.toList c).toArray[i]=z.cells[i%z.cells.size]'(tZ _ hp):=by
    apply Option.some.inj
    rw[<-zM h2,qH,this]
    simp[tZ _ hp]
   rw[e]
   simp[tZ _ hp]
theorem Gn{zs:List Value}(h:gT zs=0)(c:Nat):gT (rep zs c)=0:=by
 induction c with
 | zero=>rfl
 | succ c ih =>
  have:gT (zs++rep zs c)<=0:=ku.2 fun v hv=>by
   rcases zq.1 hv with h1|h1
   . exact ku.1 (by omega:gT zs<=0) v h1
   . exact ku.1 (by omega:gT (rep zs c)<=0) v h1
  rw[rep];omega
theorem xy{z:Value}(h:nm z=0):gT z.cells.toList=0:=by
 rw[<-AU]at h
 cases hc:z.cells with|mk l=>rw[hc]at h;exact h
theorem CI{l:List Value}(h:gT l=0)(E:Env):l.map (fT E)=l:=by rw[<-qT,DD _ h]
theorem Tq(t:TypeId)(x:Option Operand):kj P (.makeMap t x):=by
 intro E A A' w ρ m sl r dd ty pos af g h hρ he
 simp only[jh,Gi]at he
 split at he
 . rename_i k e q hu hq
   cases he
   have hn:=h.new (o:=.map [] 0) (x:=⟨w.heap.size,0,0⟩) (w' := w.alloc (.map #[] 0)) (c:=.map #[] 0) (heap_alloc_new w _) (zn _) (by simp[ot]) (fun e he=>by simp at he) (gD.alloc [] w _)
   refine⟨_,_,?_,hn.1,hn.2,by simp[XR.Wf,nm,AH.add]⟩
   simp only[XR.next,fT,kL]
   cases x with
   | none=>simp[execOp,Instr.makeMap]
   | some x =>
    simp only at hq
    split at hq
    . rename_i v hv
      obtain⟨k', rfl⟩:=uv hq
      have:=(hρ x _ hv).1
      simp only[fT]at this
      simp[execOp,Instr.makeMap,this,run_underlying hu,asInt,asIntOf]
    . cases hq
 . cases he
theorem R1(t:TypeId)(x y:Operand):kj P (.makeSlice t x y):=by
 intro E A A' w ρ m sl r dd ty pos af g h hρ he
 simp only[jh,FL]at he
 split at he
 . rename_i e vl vc hu hl hc
   split at he
   . rename_i l c sz by_ z h1 h2 h3 h4 h5
     cases hb:(Nat.ble l c&&Nat.ble (c*by_) 140737488355328&&Nat.ble c 9223372036854775807)with
     | false=>rw[hb]at he;cases he
     | true =>
      rw[hb]at he
      cases he
      simp only[zo]at hb
      obtain⟨⟨b1,b2⟩,b3⟩:=hb
      have b1:=za b1
      have b2:=za b2
      have b3:=za b3
      obtain⟨k1,rfl⟩:=uv h1
      obtain⟨k2,rfl⟩:=uv h2
      obtain⟨i,hi,hz,h0,hlen⟩:=qo h5
      have hby:i.bytes=by_:=by
       unfold B9 at h4;rw[hi]at h4;simpa using h4
      subst hby
      have hcl:=Gn (xy h0) c
      refine CT (vs:=rep z.cells.toList c) h o_ none (fun sz e=>by cases e) ?_ (by simp[nm])
      rw[CI hcl]
      have hr:=run_make (P:=P) w t e i z hu hi hz k1 k2 l c o_ o_ (by rw[<-Int.natCast_mul,Nat.mul_comm];omega) o_
      simp only[rD,<-hlen]at hr
      rw[show madeCells z.cells (c*z.cells.toList.length)=(rep z.cells.toList c).toArray from Mu z c]at hr
      simp only[execOp,(hρ x _ hl).1,(hρ y _ hc).1,fT,zj,hr,ze,zm,iZ,kL,jT,if_neg (show ¬ iU<=c by simp[iU];omega)]
   . cases he
 . cases he
end
end Go.Ex
namespace Go.Ex
open Go Go.Sx
section
variable {P:Program}
theorem GA(f:Value->Value)(pl:List (Nat×Nat)):∀ (qs:List (Nat×List Value)) (cs out:List Value),nj pl cs qs=some out->nj pl (cs.map f) (qs.map fun q=>(q.1,q.2.map f))=some (out.map f):=by
 intro qs
 induction qs with
 | nil=>intro cs out h;cases h;rfl
 | cons q qs ih =>
  intro cs out h
  obtain⟨i,vs⟩:=q
  simp only[nj]at h
  simp only[z1,nj,zr]
  cases hp:pl[i]? with
  | none=>rw[hp]at h;cases h
  | some p =>
   obtain⟨off,sz⟩:=p
   rw[hp]at h
   simp only at h ⊢
   cases hb:(Nat.beq vs.length sz&&Nat.ble (off+vs.length) cs.length)with
   | false=>rw[hb]at h;cases h
   | true =>
    rw[hb]at h
    simp only[cond_true]at h ⊢
    rw[<-Ld]
    exact ih _ _ h
theorem G3{k:Nat}(pl:List (Nat×Nat)):∀ (qs:List (Nat×List Value)) (cs out:List Value),gT cs<=k->(∀ q∈qs,gT q.2<=k)->nj pl cs qs=some out->gT out<=k:=by
 intro qs
 induction qs with
 | nil=>intro cs out h1 _ h;cases h;exact h1
 | cons q qs ih =>
  intro cs out h1 h2 h
  obtain⟨i,vs⟩:=q
  simp only[nj]at h
  cases hp:pl[i]? with
  | none=>rw[hp]at h;cases h
  | some p =>
   obtain⟨off,sz⟩:=p
   rw[hp]at h
   simp only at h
   cases hb:(Nat.beq vs.length sz&&Nat.ble (off+vs.length) cs.length)with
   | false=>rw[hb]at h;cases h
   | true =>
    rw[hb]at h
    simp only[cond_true]at h
    exact ih _ _ (MH h1 (h2 (i,vs) s_)) (fun q hq=>h2 q (by simp[hq])) h
theorem Dd{E:Env}{ρ:jb}{m k:Nat}{sl:List (Nat×Value)}(hρ:yC E k ρ m sl):∀ {ps:List (Nat×Operand)} {qs:List (Nat×List Value)},
 mapM' (fun p:Nat×Operand=>(ρ p.2).map fun v=>(p.1,v.cells.toList)) ps=some qs ->
 r8 (ps.map fun p=>(p.1,ev m sl p.2)) (qs.map fun q=>(q.1,q.2.map (fT E)))/\∀ q∈qs,gT q.2<=k
 | [],qs,h=>by cases h;exact⟨trivial,fun q hq=>by simp at hq⟩
 | p :: ps,qs,h=>by
  simp only[mapM']at h
  split at h
  . rename_i y hy
    split at h
    . rename_i r' hr
      cases h
      obtain⟨v,hv,rfl⟩:=map_some hy
      obtain⟨h1,h2⟩:=Dd hρ hr
      have:=hρ p.2 v hv
      have hn:gT v.cells.toList<=k:=by
       have h3:=this.2
       rw[<-AU]at h3
       cases hc:v.cells with|mk l=>rw[hc]at h3;exact h3
      refine⟨⟨rfl,by rw[this.1,CU];simp,h1⟩,fun q hq=>?_⟩
      rcases zb.1 hq with rfl|hq
      . exact hn
      . exact h2 q hq
    . cases h
  . cases h
theorem LR {β γ:Type}{f:β->Option γ}{F:β->Sem γ}{w:World}:∀ {l:List β} {r:List γ},(∀ x y,f x=some y->(F x).run P w = .ok y w)->mapM' f l=some r->(l.mapM F).run P w = .ok r w
 | [],r,_,h=>by cases h;simp
 | x :: l,r,hf,h=>by
  simp only[mapM']at h
  split at h
  . rename_i y hy
    split at h
    . rename_i r' hr
      cases h
      simp[hf x y hy,LR hf hr]
    . cases h
  . cases h
theorem Ts{t:TypeId}{pl:List (Nat×Nat)}(h:places P t=some pl):mJ P t pl:=by
 unfold places at h
 split at h
 . rename_i fs hu
   refine⟨fs,hu,fun w=>?_⟩
   rw[Array.mapM_eq_mapM_toList]
   have:=LR (P:=P) (w:=w) (F:=fun f:Field=>do pure (f.offset,<-sizeOf f.type)) (fun f y hy=>by
    obtain⟨s,hs,rfl⟩:=map_some hy
    simp[run_sizeOf hs]) h
   simp at this
   simp[this]
 . cases h
theorem L8(pl:List (Nat×Nat)):∀ (qs:List (Nat×List Value)) (cs out:List Value),nj pl cs qs=some out->∀ q∈qs,q.1<pl.length:=by
 intro qs
 induction qs with
 | nil=>intro cs out _ q hq;simp at hq
 | cons q qs ih =>
  intro cs out h q' hq'
  obtain⟨i,vs⟩:=q
  simp only[nj]at h
  cases hp:pl[i]? with
  | none=>rw[hp]at h;cases h
  | some p =>
   obtain⟨off,sz⟩:=p
   rw[hp]at h
   simp only at h
   cases hb:(Nat.beq vs.length sz&&Nat.ble (off+vs.length) cs.length)with
   | false=>rw[hb]at h;cases h
   | true =>
    rw[hb]at h
    simp only[cond_true]at h
    rcases zb.1 hq' with rfl|hq'
    . exact(zd.1 hp).1
    . exact ih _ _ h q' hq'
theorem r8.fst:∀ {ps:List (Nat×Value)} {qs:List (Nat×List Value)},r8 ps qs->∀ p∈ps,∃ q∈qs,q.1=p.1
 | [],[],_,p,hp=>by simp at hp
 | (i,v) :: ps,(j,vs) :: qs,h,p,hp=>by
  rcases zb.1 hp with rfl|hp
  . exact⟨(j,vs),s_,h.1.symm⟩
  . obtain⟨q,hq,e⟩:=r8.fst h.2.2 p hp
    exact⟨q,by simp[hq],e⟩
theorem IV{t:TypeId}{z:Value}(hz:tz P t=some z):∃ by_,TI P t z.cells.toList.length by_ z:=by
 obtain⟨i,hi,h1,_,h2⟩:=qo hz
 exact⟨i.bytes,by unfold TI;rw[hi];simp[h1,h2]⟩
theorem SJ{n sz:Nat}:∀ (l:List (Nat×Value)) (arr:Array Value),(∀ p∈l,p.1<n)->Instr.fill (fun i=>some (i*sz,sz)) arr l=Instr.fill ((((List.range n).map fun i=>(i*sz,sz)).toArray)[·]?) arr l:=by
 intro l
 induction l with
 | nil=>intro arr _;rfl
 | cons p l ih =>
  intro arr h
  obtain⟨i,v⟩:=p
  have hi:=h (i,v) s_
  simp only at hi
  simp only[Instr.fill,qH,kJ,Ad hi,nu]
  split
  . rfl
  . simpa only[qH,kJ]using ih _ (fun p hp=>h p (by simp[hp]))
theorem RI(t:TypeId)(n:Nat)(parts:Array (Nat×Operand)):kj P (.buildSlice t n parts):=by
 intro E A A' w ρ m sl r dd ty pos af g h hρ he
 simp only[jh,Km]at he
 split at he
 . rename_i e qs hu hq
   split at he
   . rename_i sz z hsz hz
     cases hb:(Nat.ble (n*sz) 16777216&&Nat.ble n 16777216)with
     | false=>rw[hb]at he;cases he
     | true =>
      rw[hb]at he
      simp only[cond_true]at he
      rw[zo]at hb
      obtain⟨hb,hb2⟩:=hb
      obtain⟨out,hf,e'⟩:=map_some he
      cases e'
      obtain⟨h1,h2⟩:=Dd hρ hq
      obtain⟨i,hi,hzz,h0,hlen⟩:=qo hz
      obtain⟨by_,hTI⟩:=IV hz
      obtain⟨ie,hie,hes⟩:=GK hsz
      have hss:z.cells.toList.length=sz:=by
       rw[hlen,<-hes];rw[hi]at hie;cases hie;rfl
      rw[hss]at hTI
      have hcl:=Gn (xy h0) n
      have hf' := GA (fT E) _ qs _ _ hf
      rw[CI hcl]at hf'
      have hlt:∀ p∈(parts.toList.map fun p=>(p.1,ev m sl p.2)),p.1<n:=by
       intro p hp
       obtain⟨q,hq', e1⟩:=r8.fst h1 p hp
       have:=L8 _ _ _ _ hf' q hq'
       rw[e1]at this
       simpa using this
      have g1:=CK _ _ _ _ _ h1 hf'
      rw[<-SJ _ _ hlt,<-Mu z n,hss]at g1
      have hr:=ID (P:=P) (w:=w) (dd:=dd) (ty:=ty) (pos:=pos) (af:=af) (g:=g) (ps:=parts.toList) (n:=m) (s:=sl) (cs:=out.map (fT E)) rfl hu hTI g1 (za hb)
      refine CT (vs:=out) h (G3 _ qs _ _ o_ h2 hf) none (fun sz e=>by cases e) ?_ (by simp[nm])
      simp only[Ck]at hr
      rw[hr]
      have hn:¬ iU<=n:=by
       have:=za hb2
       simp only[iU]
       omega
      simp only[fT,iZ,kL,jT,if_neg hn]
   . cases he
 . cases he
theorem Ws(t:TypeId)(parts:Array (Nat×Operand)):kj P (.build t parts):=by
 intro E A A' w ρ m sl r dd ty pos af g h hρ he
 simp only[jh,GP]at he
 have key:(parts.map fun(i,x)=>(i,ev m sl x))=(parts.toList.map fun p=>(p.1,ev m sl p.2)).toArray:=by apply Array.ext'; simp
 split at he
 . rename_i z qs fs hz hq hu
   split at he
   . rename_i pl hpl
     obtain⟨out,hf,e⟩:=map_some he
     cases e
     obtain⟨h1,h2⟩:=Dd hρ hq
     obtain⟨i,hi,hzz,h0,hlen⟩:=qo hz
     obtain⟨by_,hTI⟩:=IV hz
     have hz0:=xy h0
     have hf' := GA (fT E) pl qs _ _ hf
     rw[CI hz0]at hf'
     have hr:=kV (w:=w) _ hTI (Ts hpl) rfl h1 hf'
     refine iw.val h ?_ (by simp only[nm,jA];exact G3 pl qs _ _ o_ h2 hf)
     simp only[execOp,key,zj,hr,ze,zm,fT,uq]
   . cases he
 . rename_i z qs n e hz hq hu
   split at he
   . rename_i sz hsz
     obtain⟨out,hf,e'⟩:=map_some he
     cases e'
     obtain⟨h1,h2⟩:=Dd hρ hq
     obtain⟨i,hi,hzz,h0,hlen⟩:=qo hz
     obtain⟨by_,hTI⟩:=IV hz
     obtain⟨ie,hie,hes⟩:=GK hsz
     have hz0:=xy h0
     have hf' := GA (fT E) _ qs _ _ hf
     rw[CI hz0]at hf'
     have hlt:∀ p∈(parts.toList.map fun p=>(p.1,ev m sl p.2)),p.1<n:=by
      intro p hp
      obtain⟨q,hq', e1⟩:=r8.fst h1 p hp
      have:=L8 _ _ _ _ hf' q hq'
      rw[e1]at this
      simpa using this
     have hr:(Instr.build t (parts.toList.map fun p=>(p.1,ev m sl p.2)).toArray).run P w = .ok (.agg (out.map (fT E)).toArray) w:=by
      have g1:=CK _ _ _ _ _ h1 hf'
      have g2:∀ (l:List (Nat×Value)) (arr:Array Value),(∀ p∈l,p.1<n)->Instr.fill (fun i=>some (i*sz,sz)) arr l=Instr.fill ((((List.range n).map fun i=>(i*sz,sz)).toArray)[·]?) arr l:=by
       intro l
       induction l with
       | nil=>intro arr _;rfl
       | cons p l ih =>
        intro arr h
        obtain⟨i,v⟩:=p
        have hi:=h (i,v) s_
        simp only at hi
        simp only[Instr.fill,qH,kJ,Ad hi,nu]
        split
        . rfl
        . simpa only[qH,kJ]using ih _ (fun p hp=>h p (by simp[hp]))
      simp only[Ck]at g1
      simp only[Instr.build,zj,hTI.ux,ze,run_underlying hu,run_sizeOf hsz,g2 _ _ hlt,g1,zm]
     refine iw.val h ?_ (by simp only[nm,jA];exact G3 _ qs _ _ o_ h2 hf)
     simp only[execOp,key,zj,hr,ze,zm,fT,uq]
   . cases he
 . cases he
end
end Go.Ex
namespace Go.Ex
open Go Go.Sx
section
variable {P:Program}
abbrev jX(E:Env)(e:Value×Value×Nat):MapEntry:=⟨fT E e.1,fT E e.2.1,e.2.2⟩
def sw(ki:Bool)(d:TypeDesc):Prop:=if ki then ∃ k,d = .int k else d = .string
theorem FM{t:TypeId}{ki:Bool}{k e:TypeId}(h:AY P t=some (ki,k,e)):P.underlying t=some (.map k e)/\∃ d,P.underlying k=some d/\sw ki d:=by
 unfold AY at h
 split at h
 . rename_i k' e' hu
   split at h
   . rename_i kk hk;cases h;exact⟨hu,_,hk,by simp[sw]⟩
   . rename_i hk;cases h;exact⟨hu,_,hk,by simp[sw]⟩
   . cases h
 . cases h
theorem run_checkKey{k:TypeId}{ki:Bool}{d:TypeDesc}(hk:P.underlying k=some d)(hd:sw ki d)(em:Bool)(n:Nat)(v:Value)(w:World):(Instr.checkKey em (n+1) k v).run P w = .ok () w:=by
 cases ki with
 | true =>
  obtain⟨kk,rfl⟩:∃ k,d = .int k:=by simpa[sw]using hd
  simp[Instr.checkKey,run_underlying hk]
 | false =>
  obtain rfl:d = .string:=by simpa[sw]using hd
  simp[Instr.checkKey,run_underlying hk]
theorem Rs{E:Env}{ki:Bool}{d:TypeDesc}(hd:sw ki d){k:Value}:∀ (es:List (Value×Value×Nat)) (i:Nat) (r:Option (Nat×Value×Nat)),oJ ki k es i=some r ->
 Instr.findNow d (fT E k) (es.map (jX E)) i=some (r.map fun q=>(q.1,fT E q.2.1)):=by
 intro es
 induction es with
 | nil=>intro i r h;cases h;rfl
 | cons e es ih =>
  intro i r h
  obtain⟨k', v,born⟩:=e
  simp only[oJ]at h
  split at h
  . rename_i a x b y
    obtain⟨kk,rfl⟩:∃ k,d = .int k:=by simpa[sw]using hd
    by_cases hab:a=b
    . subst hab
      simp only[decide_true,cond_true]at h
      cases hxy:(x==y)with
      | true=>rw[hxy]at h;cases h;simp[Instr.findNow,Instr.sameNow,fT,hxy]
      | false=>rw[hxy]at h;simp only[cond_false]at h;simp only[z1,Instr.findNow,Instr.sameNow,fT,hxy,if_true];exact ih (i+1) r h
    . simp[hab]at h
  . rename_i x y
    obtain rfl:d = .string:=by simpa[sw]using hd
    cases hxy:(x.data.toList==y.data.toList)with
    | true=>rw[hxy]at h;cases h;simp[Instr.findNow,Instr.sameNow,fT,Bj,hxy]
    | false=>rw[hxy]at h;simp only[cond_false]at h;simp only[z1,Instr.findNow,Instr.sameNow,fT,Bj,hxy];exact ih (i+1) r h
  . cases h
theorem FZ{ki:Bool}{k:Value}:∀ (es:List (Value×Value×Nat)) (i:Nat) (q:Nat×Value×Nat),oJ ki k es i=some (some q)->i<=q.1/\∃ k', es[q.1-i]? = some (k', q.2.1,q.2.2)/\(k' = k):=by
 intro es
 induction es with
 | nil=>intro i q h;cases h
 | cons e es ih =>
  intro i q h
  obtain⟨k', v,born⟩:=e
  have step:oJ ki k es (i+1)=some (some q)->i<=q.1/\∃ k'', ((k', v,born) :: es)[q.1-i]? = some (k'', q.2.1,q.2.2)/\k'' = k:=fun h=>by
   obtain⟨h1,k'', h2,h3⟩:=ih (i+1) q h
   refine⟨o_,k'', ?_,h3⟩
   rw[show q.1-i=(q.1-(i+1))+1 by omega]
   simpa using h2
  simp only[oJ]at h
  split at h
  . rename_i a x b y
    by_cases hab:a=b
    . subst hab
      simp only[decide_true,cond_true]at h
      cases hxy:(x==y)with
      | true=>rw[hxy]at h;cases h;exact⟨zn _,.int a y,s_,by rw[eq_of_beq hxy]⟩
      | false=>rw[hxy]at h;exact step h
    . simp[hab]at h
  . rename_i x y
    cases hxy:(x.data.toList==y.data.toList)with
    | true =>
     rw[hxy]at h;cases h
     refine⟨zn _,.string y,s_,?_⟩
     rw[<-Bj]at hxy
     have h1:(x==y)=(x.data==y.data):=by cases x;cases y;rfl
     rw[h1]at hxy
     cases x;cases y
     exact congrArg (fun d=>Value.string (ByteArray.mk d)) (eq_of_beq hxy).symm
    | false=>rw[hxy]at h;exact step h
  . cases h
theorem Rel.yA{E:Env}{A:AH}{w:World}{b clock:Nat}{es:List (Value×Value×Nat)}(h:Rel E A w)(hb:A.get b=some (.map es clock)):w.heap[(E b).blk]? = some (.map (es.map (jX E)).toArray clock):=by
 obtain⟨c,hc,hl⟩:=h.obj b _ hb
 simp only[ot]at hl
 rw[hc,hl]
theorem run_findKey{E:Env}{w:World}{kt:TypeId}{ki:Bool}{d:TypeDesc}(hkd:P.underlying kt=some d)(hd:sw ki d){k:Value}{es:List (Value×Value×Nat)}{q:Option (Nat×Value×Nat)}(h:oJ ki k es 0=some q) :
 (Instr.findKey kt (fT E k) (es.map (jX E))).run P w = .ok (q.map fun q=>(q.1,fT E q.2.1)) w:=by
 simp[Instr.findKey,run_underlying hkd,Rs (E:=E) hd es 0 q h]
end
end Go.Ex
namespace Go.Ex
open Go Go.Sx
section
variable {P:Program}
theorem VZ(t:TypeId)(x y:Operand)(ok:Bool):kj P (.lookup t x y ok):=by
 intro E A A' w ρ m sl r dd ty pos af g h hρ he
 simp only[jh,Gu]at he
 split at he
 . rename_i r0 k ki kt e hx hy hk
   obtain⟨hu,d,hkd,hd⟩:=FM hk
   have h1:=hρ x _ hx
   have h2:=hρ y _ hy
   split at he
   . rename_i es z hes hz
     obtain⟨i,hi,hzz,h0,hlen⟩:=qo hz
     have hz0:∀ E,fT E z=z:=xY z h0
     have hfind:∀ q,oJ ki k es 0=some q->(∀ p∈es,nm p.2.1<=A.nf)/\(execOp (ev m sl) ⟨dd,.lookup t x y ok,ty,pos,af,g⟩).run P w =
      .ok (.value (match q with
       | some q=>if ok then .tuple #[fT E q.2.1,.bool true]else fT E q.2.1
       | none=>if ok then .tuple #[z,.bool false]else z)) w:=by
      intro q hq
      have hf:=run_findKey (P:=P) (E:=E) (w:=w) hkd hd hq
      cases r0 with
      | none =>
       simp only[Option.some.injEq]at hes
       subst hes
       cases hq
       refine⟨fun q hq=>by simp at hq,?_⟩
       have c:=run_checkKey (P:=P) hkd hd true 9999 (fT E k) w
       simp only[wQ]at hf
       simp only[execOp,h1.1,h2.1,fT,Instr.lookup,zj,run_underlying hu,ze,zm]
       simp[c,hf,De hz]
      | some r0 =>
       simp only at hes
       split at hes
       . rename_i es' clock hg
         cases hes
         have hh:=h.yA hg
         refine⟨fun q hq=>((h.wf r0 _ hg).2 q hq).2,?_⟩
         have c:=run_checkKey (P:=P) hkd hd (es.map (jX E)).toArray.isEmpty 9999 (fT E k) w
         have hgo:(getObj (E r0).blk).run P w = .ok (.map (es.map (jX E)).toArray clock) w:=by simp[getObj,Sem.run,hh]
         simp only[execOp,h1.1,h2.1,fT,Instr.lookup,zj,run_underlying hu,ze,zm,hgo]
         simp only[c,ze,hf]
         cases q<;>simp[De hz]
       . cases hes
     split at he
     . rename_i i' v b hq
       cases he
       obtain⟨hn,hr⟩:=hfind _ hq
       obtain⟨_,k', hk', _⟩:=FZ es 0 _ hq
       have hv:nm v<=A.nf:=hn _ (zh hk')
       cases ok with
       | true=>exact iw.val h (by simpa[fT,ko,lF]using hr) (by simp[nm,jA,gT];exact hv)
       | false=>exact iw.val h (by simpa using hr) hv
     . rename_i hq
       cases he
       obtain⟨hn,hr⟩:=hfind _ hq
       cases ok with
       | true=>exact iw.val h (by simpa[fT,ko,lF,hz0]using hr) (by simp[nm,jA,gT,h0])
       | false=>exact iw.val h (by simpa[hz0]using hr) (by simp[h0])
     . cases he
   . cases he
 . cases he
theorem map_set{E:Env}{A:AH}{w:World}{r0 clock clock' : Nat}{es es' : List (Value×Value×Nat)}(h:Rel E A w)(hg:A.get r0=some (.map es clock))(hn:∀ e∈es', nm e.1<=A.nf/\nm e.2.1<=A.nf) :
 ∃ w', (setObj (E r0).blk (.map (es'.map (jX E)).toArray clock')).run P w = .ok () w' /\ Rel E (A.set r0 (.map es' clock')) w' /\ To E A w E (A.set r0 (.map es' clock')) w' := by
 have hh:=h.yA hg
 have hlt:=h.lt hg
 refine⟨w.putObj (E r0).blk (.map (es'.map (jX E)).toArray clock'),?_,?_⟩
 . simp only[setObj,Sem.run,hh,World.putObj]
 . exact h.iE hg rfl rfl (World.putObj_heap_same hlt) rfl hn (gD.putObj w _ _)
end
end Go.Ex
namespace Go.Ex
open Go Go.Sx
section
variable {P:Program}
def isKey:Value->Bool
 | .int _ _=>true
 | .string _=>true
 | _=>false
theorem Mq{ki:Bool}{k:Value}:∀ (es:List (Value×Value×Nat)) (i:Nat) (q:Nat×Value×Nat),oJ ki k es i=some (some q)->isKey k=true:=by
 intro es
 cases es with
 | nil=>intro i q h;cases h
 | cons e es =>
  intro i q h
  obtain⟨k', v,born⟩:=e
  simp only[oJ]at h
  split at h
  . rfl
  . rfl
  . cases h
theorem Mc{k:Value}(hk:isKey k=true)(E:Env)(w:World):(Instr.keyThatStays (fT E k) (fT E k)).run P w = .ok (fT E k) w:=by
 cases k<;>simp[isKey]at hk
 . simp[Instr.keyThatStays,Instr.sameBits,fT]
 . simp[Instr.keyThatStays,Instr.sameBits,fT,Bj]
theorem Sg(t:TypeId)(mo x y:Operand):kj P (.mapUpdate t mo x y):=by
 intro E A A' w ρ m sl r dd ty pos af g h hρ he
 simp only[jh,Kv]at he
 split at he
 . rename_i r0 k v ki kt e hm hx hy hk
   obtain⟨hu,d,hkd,hd⟩:=FM hk
   have h0:=hρ mo _ hm
   have h1:=hρ x _ hx
   have h2:=hρ y _ hy
   split at he
   . rename_i es clock hg
     have hh:=h.yA hg
     have hgo:(getObj (E r0).blk).run P w = .ok (.map (es.map (jX E)).toArray clock) w:=by simp[getObj,Sem.run,hh]
     have c:=run_checkKey (P:=P) hkd hd false 9999 (fT E k) w
     have hwf:=(h.wf r0 _ hg).2
     split at he
     . rename_i i v' born hq
       cases he
       have hf:=run_findKey (P:=P) (E:=E) (w:=w) hkd hd hq
       obtain⟨_,k', hk', rfl⟩:=FZ es 0 _ hq
       simp only[wS]at hk'
       obtain⟨w', hs,hr,ht⟩:=map_set (P:=P) (clock' := clock) (es' := es.set i (k', v,born)) h hg (fun e he=>by
        rcases JB he with h3|rfl
        . exact hwf e h3
        . exact⟨h1.2,h2.2⟩)
       refine⟨E,w', ?_,hr,ht,trivial⟩
       have key:((es.map (jX E)).toArray.modify i fun e=>{ e with key:=fT E k', val:=fT E v })=((es.set i (k', v,born)).map (jX E)).toArray:=by
        apply Array.ext'
        apply nq
        intro j
        simp only[EZ,Cm,List.map_set,rN,kJ]
        by_cases hj:i=j
        . subst hj
          have h3:=(zd.1 hk').1
          have h4:=(zd.1 hk').2
          simp[hk', h3,h4]
        . simp[hj]
       have hold:(((es.map (jX E)).toArray[i]?).map (·.key)).getD (fT E k')=fT E k' := by simp[hk']
       simp only[execOp,h0.1,h1.1,h2.1,fT,Instr.mapUpdate,zj,run_underlying hu,ze,zm,hgo,c,hf,nu,hold,Mc (Mq es 0 _ hq),key,hs,XR.next]
     . rename_i hq
       cases he
       have hf:=run_findKey (P:=P) (E:=E) (w:=w) hkd hd hq
       obtain⟨w', hs,hr,ht⟩:=map_set (P:=P) (clock' := clock+1) (es' := es++[(k,v,clock)]) h hg (fun e he=>by
        rcases zq.1 he with h3|h3
        . exact hwf e h3
        . simp only[lY]at h3;subst h3;exact⟨h1.2,h2.2⟩)
       refine⟨E,w', ?_,hr,ht,trivial⟩
       have key:((es.map (jX E)).toArray.push ⟨fT E k,fT E v,clock⟩)=((es++[(k,v,clock)]).map (jX E)).toArray:=by simp
       simp only[execOp,h0.1,h1.1,h2.1,fT,Instr.mapUpdate,zj,run_underlying hu,ze,zm,hgo,c,hf,zN,key,hs,XR.next]
     . cases he
   . cases he
 . cases he
theorem Td(t:TypeId)(mo x:Operand):kj P (.mapEntry t mo x):=by
 intro E A A' w ρ m sl r dd ty pos af g h hρ he
 simp only[jh,KE]at he
 split at he
 . rename_i r0 k ki kt e hm hx hk
   obtain⟨hu,d,hkd,hd⟩:=FM hk
   have h0:=hρ mo _ hm
   have h1:=hρ x _ hx
   split at he
   . rename_i es clock z hg hz
     obtain⟨iz,hiz,hzz,hz0,hlen⟩:=qo hz
     have hz1:∀ E,fT E z=z:=xY z hz0
     have hh:=h.yA hg
     have hgo:(getObj (E r0).blk).run P w = .ok (.map (es.map (jX E)).toArray clock) w:=by simp[getObj,Sem.run,hh]
     have c:=run_checkKey (P:=P) hkd hd false 9999 (fT E k) w
     have hwf:=(h.wf r0 _ hg).2
     split at he
     . rename_i i v' born hq
       cases he
       have hf:=run_findKey (P:=P) (E:=E) (w:=w) hkd hd hq
       obtain⟨_,k', hk', rfl⟩:=FZ es 0 _ hq
       simp only[wS]at hk'
       have hv:=hwf _ (zh hk')
       obtain⟨w', hs,hr,ht⟩:=map_set (P:=P) (clock' := clock) (es' := es.set i (k', v', born)) h hg (fun e he=>by
        rcases JB he with h3|rfl
        . exact hwf e h3
        . exact hv)
       refine⟨E,w', ?_,hr,ht,by simp only[XR.Wf,nm,jA,gT,AH.set];have:=hv.2;simp only[]at this;omega⟩
       have key:((es.map (jX E)).toArray.modify i fun e=>{ e with key:=fT E k' })=((es.set i (k', v', born)).map (jX E)).toArray:=by
        apply Array.ext'
        apply nq
        intro j
        simp only[EZ,Cm,List.map_set,rN,kJ]
        by_cases hj:i=j
        . subst hj
          have h3:=(zd.1 hk').1
          have h4:=(zd.1 hk').2
          simp[hk', h3,h4]
        . simp[hj]
       have hold:(((es.map (jX E)).toArray[i]?).map (·.key)).getD (fT E k')=fT E k' := by simp[hk']
       have hborn:(((es.map (jX E)).toArray[i]?).map (fun x=>(x.born:Int))).getD 0=(born:Int):=by simp[hk']
       simp only[execOp,h0.1,h1.1,fT,Instr.mapEntry,zj,run_underlying hu,ze,zm,hgo,c,hf,nu,hold,hborn,Mc (Mq es 0 _ hq),key,hs,XR.next,goInt,ko,lF]
     . rename_i hq
       cases he
       have hf:=run_findKey (P:=P) (E:=E) (w:=w) hkd hd hq
       obtain⟨w', hs,hr,ht⟩:=map_set (P:=P) (clock' := clock+1) (es' := es++[(k,z,clock)]) h hg (fun e he=>by
        rcases zq.1 he with h3|h3
        . exact hwf e h3
        . simp only[lY]at h3;subst h3;exact⟨h1.2,by simp[hz0]⟩)
       refine⟨E,w', ?_,hr,ht,by simp[XR.Wf,nm,jA,gT,hz0]⟩
       have key:((es.map (jX E)).toArray.push ⟨fT E k,z,clock⟩)=((es++[(k,z,clock)]).map (jX E)).toArray:=by simp[hz1]
       simp only[execOp,h0.1,h1.1,fT,Instr.mapEntry,zj,run_underlying hu,ze,zm,hgo,c,hf,zN,De hz,key,hs,XR.next,goInt,ko,lF,hz1]
     . cases he
   . cases he
 . cases he
theorem RG(t:TypeId)(mo x y:Operand):kj P (.entryStore t mo x y):=by
 intro E A A' w ρ m sl r dd ty pos af g h hρ he
 simp only[jh,Kn]at he
 split at he
 . rename_i r0 kk b v hm hx hy
   have h0:=hρ mo _ hm
   have h1:=hρ x _ hx
   have h2:=hρ y _ hy
   split at he
   . rename_i es clock hg
     have hh:=h.yA hg
     have hgo:(getObj (E r0).blk).run P w = .ok (.map (es.map (jX E)).toArray clock) w:=by simp[getObj,Sem.run,hh]
     have hwf:=(h.wf r0 _ hg).2
     split at he
     . rename_i i hi
       cases he
       obtain⟨w', hs,hr,ht⟩:=map_set (P:=P) (clock' := clock) (es' := es.modify i fun e=>(e.1,v,e.2.2)) h hg (fun e he=>by
        obtain⟨j,hj⟩:=List.getElem?_of_mem he
        rw[Cm]at hj
        obtain⟨e0,h3,h4⟩:=map_some hj
        have h5:=hwf e0 (zh h3)
        by_cases hij:i=j
        . rw[if_pos hij]at h4;subst h4;exact⟨h5.1,h2.2⟩
        . rw[if_neg hij]at h4;subst h4;exact h5)
       refine⟨E,w', ?_,hr,ht,trivial⟩
       have hfi:(es.map (jX E)).toArray.findIdx? (fun e=>(e.born:Int)==b)=some i:=by
        rw[List.findIdx?_toArray,List.findIdx?_map]
        exact hi
       have key:((es.map (jX E)).toArray.modify i fun e=>{ e with val:=fT E v })=((es.modify i fun e=>(e.1,v,e.2.2)).map (jX E)).toArray:=by
        apply Array.ext'
        apply nq
        intro j
        simp only[EZ,Cm,kJ]
        by_cases hj:i=j
        . simp[hj];rfl
        . simp[hj]
       simp only[execOp,h0.1,h1.1,h2.1,fT,Instr.entryStore,zj,ze,zm,hgo,asInt,asIntOf,hfi,key,hs,XR.next]
     . cases he
   . cases he
 . cases he
end
end Go.Ex
namespace Go.Ex
open Go Go.Sx
section
variable {P:Program}
theorem C1{f:FuncId}(h:enters P f=true):gz P f:=by
 intro args w
 unfold enters at h
 split at h
 . rename_i fn hf
   rw[zo]at h
   have h1 : ¬ fn.name = "runtime.NumGoroutine" := by simpa using h.2
   have h2:¬ fn.body=none:=by
    intro hb;rw[hb]at h;simp at h
   simp only[callFunc,zj]
   simp[program,Sem.run,hf,h1,h2]
 . cases h
theorem TJ {fn : Func} (h1 : fn.name = "math/bits.Add64") (h2 : fn.origin = "") : Extern.findNext fn = none /\ Extern.find fn = some add64Entry := by
 have a : Extern.allNextRows.lookup "math/bits.Add64" = none := by kernel_rfl
 have b : Extern.allGenericRows.lookup "math/bits.Add64" = none := by kernel_rfl
 have c : Extern.allTypedRows.lookup "math/bits.Add64" = none := by kernel_rfl
 have d : Extern.allRows.lookup "math/bits.Add64" = some add64Entry := by kernel_rfl
 have a2 : Extern.allNextRows.lookup "" = none := by kernel_rfl
 exact⟨by simp[Extern.findNext,h1,h2,a,a2],by simp[Extern.find,h1,h2,b,c,d]⟩
theorem Xk(f:Operand)(az:Array Operand)(T:Array TypeId):kj P (.call ⟨.value f,az,T⟩):=by
 intro E A A' w ρ m sl r dd ty pos af g h hρ he
 simp only[jh,AV,Ob]at he
 have key:∀ {vs:List Value},az.toList.map (ev m sl)=vs.map (fT E)->az.map (ev m sl)=(vs.map (fT E)).toArray:=fun e=>by apply Array.ext'; simp[e]
 split at he
 . rename_i f0 fi ca vs hf hvs
   cases hb:enters P f0 with
   | false =>
    rw[hb]at he
    simp only[cond_false]at he
    cases hr : Iw P "math/bits.Add64" f0 with
    | false=>rw[hr]at he;cases he
    | true =>
     rw[hr]at he
     obtain⟨v,hv,e⟩:=map_some he
     cases e
     have h0:=hρ f _ hf
     obtain⟨h1,h2⟩:=s9 hρ hvs
     obtain⟨fi⟩:=fi
     obtain⟨ca⟩:=ca
     unfold Iw at hr
     split at hr
     . rename_i fn hfn
       simp only[zo,beq_iff_eq]at hr
       obtain⟨⟨r1,r2⟩,r3⟩:=hr
       obtain⟨x1,x2⟩:=TJ r2 r3
       unfold Ow at hv
       split at hv
       . rename_i x y c hl
         obtain⟨hc,hv⟩:Nat.ble c 1=true/\_=some v:=by
          cases hc:Nat.ble c 1 with
          | false=>rw[hc]at hv;cases hv
          | true=>rw[hc]at hv;exact⟨rfl,hv⟩
         cases hv
         refine iw.val h ?_ (by simp[nm,jA,gT])
         have hcall:=run_callFunc_extern (P:=P) hfn (by rw[r2];rfl) r1 x1 x2 #[.int .u64 x,.int .u64 y,.int .u64 c] w
         have hle:=za hc
         rw[run_add64 x y c o_ o_ o_ o_]at hcall
         have hargs:(fi.map (fT E)).toArray++(vs.map (fT E)).toArray++(ca.map (fT E)).toArray = #[.int .u64 x,.int .u64 y,.int .u64 c]:=by
          apply Array.ext'
          simp only[List.append_toArray,<-qL]
          simp only at hl
          rw[hl]
          rfl
         simp only[execOp,resolve,invoke,Deferred.ofValue,key h1,h0.1,fT,mP,ko,qT,zj,zm,ze,hargs,hcall]
         simp[fT,ko,lF]
       . cases hv
     . cases hr
   | true =>
    rw[hb]at he
    cases he
    have h0:=hρ f _ hf
    obtain⟨h1,h2⟩:=s9 hρ hvs
    obtain⟨fi⟩:=fi
    obtain⟨ca⟩:=ca
    have h3:=h0.2
    simp only[nm,jA,nv]at h3
    refine⟨E,w,?_,h,To.refl E A w,?_⟩
    . simp only[execOp,resolve,invoke,Deferred.ofValue,key h1,h0.1,fT,mP,ko,qT,zj,zm,ze,XR.next]
      simp[C1 hb _ _]
    . simp only[XR.Wf]
      refine ku.2 fun v hv=>?_
      simp only[zq]at hv
      rcases hv with (hv|hv)|hv
      . exact ku.1 h3.2.1 v hv
      . exact ku.1 h2 v hv
      . exact ku.1 h3.2.2 v hv
 . rename_i name t a fi vs hf hvs
   split at he
   . rename_i f0 hm
     cases hb:enters P f0 with
     | false=>rw[hb]at he;cases he
     | true =>
      rw[hb]at he
      cases he
      have h0:=hρ f _ hf
      obtain⟨h1,h2⟩:=s9 hρ hvs
      have h3:=h0.2
      simp only[nm,jA,gT,nv]at h3
      refine⟨E,w,?_,h,To.refl E A w,?_⟩
      . have hme:=Gl hm (P.types.size+(Made.depth-1)) (.pointer (some (iZ E a))) w
        rw[show P.types.size+(Made.depth-1)+1=P.types.size+Made.depth from rfl]at hme
        simp only[execOp,resolve,invoke,Deferred.ofValue,key h1,h0.1,fT,mP,ko,lF,qT,zj,zm,ze,XR.next]
        simp[callMethod,hme,C1 hb _ _,fT]
        exact rE s_
      . simp only[XR.Wf]
        refine ku.2 fun v hv=>?_
        simp only[zq,zb]at hv
        rcases hv with (rfl|hv)|hv
        . simp only[nm];exact h3.2.1.1
        . exact ku.1 h3.2.1.2 v hv
        . exact ku.1 h2 v hv
   . cases he
 . rename_i l vs hf hvs
   cases he
   have h0:=hρ f _ hf
   obtain⟨h1,h2⟩:=s9 hρ hvs
   have h3:=h0.2
   simp only[nm,jA,gT]at h3
   refine⟨rfl,o_,h2,?_⟩
   simp only[execOp,resolve,invoke,Deferred.ofValue,key h1,h0.1,fT,mP,ko,lF,zj,zm,ze]
   simp
 . cases he
theorem UU(x:Operand)(name:String)(az:Array Operand)(T:Array TypeId):kj P (.call ⟨.invoke x name,az,T⟩):=by
 intro E A A' w ρ m sl r dd ty pos af g h hρ he
 simp only[jh,AV,NY]at he
 split at he
 . rename_i t a vs hx hvs
   split at he
   . rename_i f0 hm
     cases hb:enters P f0 with
     | false=>rw[hb]at he;cases he
     | true =>
      rw[hb]at he
      cases he
      have h0:=hρ x _ hx
      obtain⟨h1,h2⟩:=s9 hρ hvs
      have h3:=h0.2
      simp only[nm]at h3
      refine⟨E,w,?_,h,To.refl E A w,?_⟩
      . have hme:=Gl hm (P.types.size+(Made.depth-1)) (.pointer (some (iZ E a))) w
        rw[show P.types.size+(Made.depth-1)+1=P.types.size+Made.depth from rfl]at hme
        have hr:=ZE (P:=P) (w:=w) (n:=m) (s:=sl) (dd:=dd) (ty:=ty) (pos:=pos) (af:=af) (g:=g) (T:=T) (name:=name) (t:=t) (v:=.pointer (some (iZ E a))) (f:=f0) (vl:=.pointer (some (iZ E a)) :: vs.map (fT E)) h0.1 h1 (fun w=>by
         have hme:=Gl hm (P.types.size+(Made.depth-1)) (.pointer (some (iZ E a))) w
         rw[show P.types.size+(Made.depth-1)+1=P.types.size+Made.depth from rfl]at hme
         simp[callMethod,hme,C1 hb _ _])
        simpa[XR.next,fT]using hr
      . simp only[XR.Wf,gT,nv,nm]
        exact⟨h3,h2⟩
   . cases he
 . cases he
end
end Go.Ex
namespace Go.Ex
open Go Go.Sx
section
variable {P:Program}
theorem K5(lt:Int->Int->Bool)(f:Value->Value->Sem Value)(w:World)(hf:∀ k k' x y,(f (.int k x) (.int k' y)).run P w = .ok (.int k (bif lt y x then y else x)) w) :
 ∀ (l:List Value) (v u:Value) (E:Env),pW lt v l=some u->(List.foldlM f (fT E v) (l.map (fT E))).run P w = .ok (fT E u) w:=by
 intro l
 induction l with
 | nil=>intro v u E h;cases v<;>(simp only[pW,Option.some.injEq]at h;subst h;simp)
 | cons y l ih =>
  intro v u E h
  cases v<;>try (simp[pW]at h;done)
  cases y<;>try (simp[pW]at h;done)
  rename_i k x k' y
  simp only[pW]at h
  have:=ih _ u E h
  simp only[z1,List.foldlM_cons,zj,fT,hf,ze]
  simpa[fT]using this
end
end Go.Ex
namespace Go.Ex
open Go Go.Sx
section
variable {P:Program}
theorem rX(k:IntKind){i y:Nat}(h:i<=y)(code:BoundsCode)(w:World):(Instr.sliceBound (.int k (i:Int)) y code).run P w = .ok i w:=by
 have:(0:Int)<=(i:Int)/\(i:Int)<=(y:Int):=by omega
 simp[Instr.sliceBound,asIntOf,this]
theorem xo{E:Env}{k:Nat}{ρ:jb}{m:Nat}{sl:List (Nat×Value)}(hρ:yC E k ρ m sl){x:Operand}{d i:Nat}(h:lS ρ (some x) d=some i):∃ kk,ev m sl x = .int kk (i:Int):=by
 simp only[lS]at h
 split at h
 . rename_i v hv
   obtain⟨kk,rfl⟩:=uv h
   exact⟨kk,(hρ x _ hv).1⟩
 . cases h
theorem vK{E:Env}{k:Nat}{ρ:jb}{m:Nat}{sl:List (Nat×Value)}(hρ:yC E k ρ m sl){lo hi mx:Option Operand}{l h q len cap:Nat}(isS:Bool)(h1:lS ρ lo 0=some l)(h2:lS ρ hi len=some h)
 (h3:(mx=none/\q=cap)\/(∃ d,mx.isSome=true/\lS ρ mx d=some q)) (a1:l<=h) (a2:h<=q) (a3:q<=cap) (a4:mx=none\/hi.isSome=true) (w:World) :
 (Instr.sliceBounds isS len cap (lo.map (ev m sl)) (hi.map (ev m sl)) (mx.map (ev m sl))).run P w = .ok (l,h,q) w:=by
 unfold Instr.sliceBounds
 have e3:∀ c,((match mx.map (ev m sl)with|some v=>Instr.sliceBound v cap c|none=>pure cap:Sem Nat)).run P w = .ok q w:=by
  intro c
  cases mx with
  | none =>
   rcases h3 with ⟨_,rfl⟩|⟨d,h,_⟩
   . rfl
   . cases h
  | some x =>
   rcases h3 with ⟨h,_⟩|⟨d,_,h⟩
   . cases h
   . obtain⟨kk,e⟩:=xo hρ h
     simp only[nu,e]
     exact rX kk a3 c w
 cases lo with
 | none =>
  cases h1
  cases hi with
  | none =>
   cases h2
   cases mx with
   | none =>
    rcases h3 with ⟨_,rfl⟩|⟨d,h,_⟩
    . simp
    . cases h
   | some x=>rcases a4 with h|h<;>cases h
  | some y =>
   obtain⟨k2,e2⟩:=xo hρ h2
   cases mx with
   | none =>
    rcases h3 with ⟨_,rfl⟩|⟨d,h,_⟩
    . simp[e2,rX k2 a2]
    . cases h
   | some x =>
    rcases h3 with ⟨h,_⟩|⟨d,_,h⟩
    . cases h
    . obtain⟨kk,e⟩:=xo hρ h
      simp[e,e2,rX kk a3,rX k2 a2]
 | some z =>
  obtain⟨k1,e1⟩:=xo hρ h1
  cases hi with
  | none =>
   cases h2
   cases mx with
   | none =>
    rcases h3 with ⟨_,rfl⟩|⟨d,h,_⟩
    . simp[e1,rX k1 a1]
    . cases h
   | some x=>rcases a4 with h|h<;>cases h
  | some y =>
   obtain⟨k2,e2⟩:=xo hρ h2
   cases mx with
   | none =>
    rcases h3 with ⟨_,rfl⟩|⟨d,h,_⟩
    . simp[e1,e2,rX k2 a2,rX k1 a1]
    . cases h
   | some x =>
    rcases h3 with ⟨h,_⟩|⟨d,_,h⟩
    . cases h
    . obtain⟨kk,e⟩:=xo hρ h
      simp[e,e1,e2,rX kk a3,rX k2 a2,rX k1 a1]
end
end Go.Ex
namespace Go.Ex
open Go Go.Sx
section
variable {P:Program}
theorem FV(E:Env)(b:Nat):jT E b 0=0:=by simp[jT,iU]
theorem isNone_or{α β:Type}{a:Option α}{b:Option β}(h:(a.isNone||b.isSome)=true):a=none\/b.isSome=true:=by
 cases a with
 | none=>exact .inl rfl
 | some x=>right;simpa using h
theorem Dz{ρ:jb}{mx:Option Operand}{c q:Nat}(h:lS ρ mx c=some q):(mx=none/\q=c)\/(∃ d,mx.isSome=true/\lS ρ mx d=some q):=by
 cases mx with
 | none=>cases h;exact .inl ⟨rfl,rfl⟩
 | some x=>exact .inr ⟨c,rfl,h⟩
theorem Xm(t:TypeId)(x:Operand)(lo hi mx:Option Operand):kj P (.slice t x lo hi mx):=by
 intro E A A' w ρ m sl r dd ty pos af g h hρ he
 simp only[jh,GU]at he
 split at he
 . rename_i v hv
   obtain⟨u,hu,e⟩:=map_some he
   cases e
   have h0:=hρ x v hv
   unfold N3 at hu
   split at hu
   . rename_i s hT
     split at hu
     . rename_i l hh h1 h2
       cases hb:(Nat.ble l hh&&Nat.ble hh s.size)with
       | false=>rw[hb]at hu;cases hu
       | true =>
        rw[hb]at hu
        cases hu
        rw[zo]at hb
        have b1:=za hb.1
        have b2:=za hb.2
        have hr:=vK (P:=P) hρ (mx:=none) false h1 h2 (.inl ⟨rfl,rfl⟩) b1 b2 (zn _) (.inl rfl) w
        refine iw.val h ?_ (by simp[nm])
        simp only[zN]at hr
        simp[execOp,h0.1,fT,Instr.sliceAt,Instr.slice,run_underlying hT,hr]
     . cases hu
   . rename_i e b o n c hT
     split at hu
     . rename_i sz hsz
       have hnb:b+1<=A.nf:=by have:=h0.2;simpa[nm]using this
       cases hO:Nat.ble iU c with
       | true =>
        rw[hO]at hu
        simp only[cond_true]at hu
        have hO' := za hO
        split at hu
        . rename_i l hh h1 h2
          have hcap:jT E b c=c-iU+(E b).sl:=by simp[jT,hO']
          cases hb:(Nat.ble l hh&&Nat.ble hh (c-iU)&&Nat.blt l (c-iU))with
          | true =>
           rw[hb]at hu
           simp only[cond_true,Option.some.injEq]at hu
           subst hu
           simp only[zo]at hb
           obtain⟨⟨b1,b2⟩,b3⟩:=hb
           have b1:=za b1
           have b2:=za b2
           have b3:l<c-iU:=by simpa[Nat.blt,uc]using b3
           have hr:=vK (P:=P) hρ (mx:=none) (cap:=c-iU+(E b).sl) true h1 h2 (.inl ⟨rfl,rfl⟩) b1 o_ (zn _) (.inl rfl) w
           simp only[zN]at hr
           refine iw.val h ?_ (by simpa[nm]using hnb)
           have hcl:jT E b (c-l)=c-iU+(E b).sl-l:=by simp only[jT,if_pos (show iU<=c-l by omega)];omega
           have hne:¬ (c-iU+(E b).sl=l):=by omega
           simp[execOp,h0.1,fT,iZ,Instr.sliceAt,Instr.slice,run_underlying hT,hcap,hr,run_sizeOf hsz,hcl,hne,Addr.add_lit,j4]
          | false =>
           rw[hb]at hu
           simp only[cond_false]at hu
           cases hb' : (Nat.beq l 0&&Nat.ble hh (c-iU))with
           | false=>rw[hb']at hu;cases hu
           | true =>
            rw[hb']at hu
            simp only[cond_true,Option.some.injEq]at hu
            subst hu
            rw[zo]at hb'
            have b1:l=0:=zt hb'.1
            have b2:=za hb'.2
            subst b1
            have hr:=vK (P:=P) hρ (mx:=none) (cap:=c-iU+(E b).sl) true h1 h2 (.inl ⟨rfl,rfl⟩) (mS _) o_ (zn _) (.inl rfl) w
            simp only[zN]at hr
            refine iw.val h ?_ (by simpa[nm]using hnb)
            simp[execOp,h0.1,fT,iZ,Instr.sliceAt,Instr.slice,run_underlying hT,hcap,hr,run_sizeOf hsz,Addr.add_lit]
        . rename_i l hh h1 h2
          have hcap:jT E b c=c-iU+(E b).sl:=by simp[jT,hO']
          split at hu
          . rename_i q h3
            rename_i mx' _ _
            cases hb:(Nat.ble l hh&&Nat.ble hh q&&Nat.ble q (c-iU)&&Nat.blt (q-l) iU&&hi.isSome)with
            | false=>rw[hb]at hu;cases hu
            | true =>
             rw[hb]at hu
             simp only[cond_true,Option.some.injEq]at hu
             subst hu
             simp only[zo]at hb
             obtain⟨⟨⟨⟨b1,b2⟩,b3⟩,b5⟩,b4⟩:=hb
             have b1:=za b1
             have b2:=za b2
             have b3:=za b3
             have b5:q-l<iU:=by simpa[Nat.blt,uc]using b5
             have hr:=vK (P:=P) hρ (cap:=c-iU+(E b).sl) true h1 h2 (Dz (show lS ρ (some _) (c-iU+(E b).sl)=some q from h3)) b1 b2 o_ (.inr b4) w
             simp only[nu]at hr
             refine iw.val h ?_ (by simpa[nm]using hnb)
             have hc2:jT E b (q-l)=q-l:=by simp only[jT,if_neg (show ¬ iU<=q-l by omega)]
             by_cases hql:q=l
             . simp[execOp,h0.1,fT,iZ,Instr.sliceAt,Instr.slice,run_underlying hT,hcap,hr,run_sizeOf hsz,hc2,hql,nS,FV]
             . simp[execOp,h0.1,fT,iZ,Instr.sliceAt,Instr.slice,run_underlying hT,hcap,hr,run_sizeOf hsz,hc2,hql,nS,Addr.add_lit,j4]
          . cases hu
        . cases hu
       | false =>
        rw[hO]at hu
        simp only[cond_false]at hu
        have hO' : ¬ iU<=c:=fun hc=>by rw[BT hc]at hO;cases hO
        split at hu
        . rename_i q l hh h3 h1 h2
          cases hb:(Nat.ble l hh&&Nat.ble hh q&&Nat.ble q c&&(mx.isNone||hi.isSome))with
          | false=>rw[hb]at hu;cases hu
          | true =>
           rw[hb]at hu
           simp only[cond_true,Option.some.injEq]at hu
           subst hu
           simp only[zo]at hb
           obtain⟨⟨⟨b1,b2⟩,b3⟩,b4⟩:=hb
           have b1:=za b1
           have b2:=za b2
           have b3:=za b3
           have hr:=vK (P:=P) hρ (mx:=mx) (cap:=c) true h1 h2 (Dz h3) b1 b2 b3 (isNone_or b4) w
           refine iw.val h ?_ (by simpa[nm]using hnb)
           have hc1:jT E b c=c:=by simp[jT,hO']
           have hc2:jT E b (q-l)=q-l:=by simp only[jT,if_neg (show ¬ iU<=q-l by omega)]
           by_cases hql:q=l
           . simp[execOp,h0.1,fT,iZ,Instr.sliceAt,Instr.slice,run_underlying hT,hc1,hr,run_sizeOf hsz,hc2,hql,nS,FV]
           . simp[execOp,h0.1,fT,iZ,Instr.sliceAt,Instr.slice,run_underlying hT,hc1,hr,run_sizeOf hsz,hc2,hql,nS,Addr.add_lit,j4]
        . cases hu
     . cases hu
   . rename_i e hT
     split at hu
     . rename_i sz hsz h3 h1 h2
       cases hb:(mx.isNone||hi.isSome)with
       | false=>rw[hb]at hu;cases hu
       | true =>
        rw[hb]at hu
        cases hu
        have hr:=vK (P:=P) hρ (mx:=mx) (cap:=0) true h1 h2 (Dz h3) (zn _) (zn _) (zn _) (isNone_or hb) w
        refine iw.val h ?_ (by simp[nm])
        simp[execOp,h0.1,fT,Instr.sliceAt,Instr.slice,run_underlying hT,hr,run_sizeOf hsz]
     . cases hu
   . rename_i n e b o hT
     have hnb:b+1<=A.nf:=by have:=h0.2;simpa[nm]using this
     split at hu
     . rename_i sz q l hh hsz h3 h1 h2
       cases hb:(Nat.ble l hh&&Nat.ble hh q&&Nat.ble q n&&Nat.ble n 9223372036854775807&&(mx.isNone||hi.isSome))with
       | false=>rw[hb]at hu;cases hu
       | true =>
        rw[hb]at hu
        simp only[cond_true,Option.some.injEq]at hu
        subst hu
        simp only[zo]at hb
        obtain⟨⟨⟨⟨b1,b2⟩,b3⟩,b5⟩,b4⟩:=hb
        have b1:=za b1
        have b2:=za b2
        have b3:=za b3
        have b5:=za b5
        have hr:=vK (P:=P) hρ (mx:=mx) (cap:=n) false h1 h2 (Dz h3) b1 b2 b3 (isNone_or b4) w
        refine iw.val h ?_ (by simpa[nm]using hnb)
        have hc2:jT E b (q-l)=q-l:=by simp only[jT,if_neg (show ¬ iU<=q-l by simp only[iU];omega)]
        by_cases hql:q=l
        . simp[execOp,h0.1,fT,iZ,Instr.sliceAt,Instr.sureAddr,run_underlying hT,hr,run_sizeOf hsz,hc2,hql,nS,FV]
        . simp[execOp,h0.1,fT,iZ,Instr.sliceAt,Instr.sureAddr,run_underlying hT,hr,run_sizeOf hsz,hc2,hql,nS,Addr.add_lit,j4]
     . cases hu
   . cases hu
 . cases he
end
end Go.Ex
namespace Go.Ex
open Go Go.Sx
section
variable {P:Program}
theorem KW:∀ (l:List Value) (r:List UInt8),mapM' (fun|Value.int .u8 (.ofNat c)=>some c.toUInt8|_=>none) l=some r ->
 ∃ ns:List Int,l=ns.map (.int .u8)/\∀ s:ByteArray,ns.foldl (fun r n=>r.push (UInt8.ofNat n.toNat)) s=⟨s.data++r.toArray⟩
 | [],r,h=>by cases h;exact⟨[],rfl,fun s=>by simp⟩
 | v :: l,r,h=>by
  simp only[mapM']at h
  split at h
  . rename_i y hy
    split at h
    . rename_i r' hr
      cases h
      obtain⟨ns,h1,h2⟩:=KW l r' hr
      split at hy
      . rename_i c
        cases hy
        refine⟨(c:Int) :: ns,by rw[h1];rfl,fun s=>?_⟩
        rw[List.foldl_cons,h2]
        simp[ByteArray.push]
      . cases hy
    . cases h
  . cases h
theorem V2(E:Env)(ns:List Int):(ns.map (Value.int .u8)).map (fT E)=ns.map (Value.int .u8):=by
 rw[Af];rfl
theorem T9(src dst:TypeId)(x:Operand):kj P (.convert src dst x):=by
 intro E A A' w ρ m sl r dd ty pos af g h hρ he
 simp only[jh,Gk]at he
 split at he
 . rename_i v hv
   have h0:=hρ x v hv
   unfold Eg at he
   split at he
   . rename_i u k k0 a h1 h2
     cases he
     exact iw.val h (yW (by simpa[fT]using h0.1) h1 h2 rfl) (by simp[nm])
   . rename_i u s h1 h2
     cases he
     refine iw.val h ?_ (by simp[nm])
     have h3:=h0.1
     simp only[fT]at h3
     simp[execOp,h3,convert,run_underlying h1,run_underlying h2,fT]
   . rename_i e hs hd hno2
     split at he
     . rename_i c he1
       cases he
       refine iw.val h ?_ (by simp[nm])
       have h3:=h0.1
       simp only[fT]at h3
       have:=run_convert_bytes_string (P:=P) w src dst e none 0 c hs he1 hd
       simp only[execOp,h3,zj,this]
       simp[Conv.bytesToString,fT]
       rfl
     . rename_i b o n c he1
       split at he
       . rename_i l hl
         obtain⟨r1,hr1,e1⟩:=map_some he
         cases e1
         obtain⟨ns,rfl,h2⟩:=KW l r1 hr1
         obtain⟨h4,h5,h6⟩:=h.read hl
         refine iw.val h ?_ (by simp[nm])
         have h3:=h0.1
         simp only[fT,iZ]at h3
         have h7:=run_loadCells_list (P:=P) w ⟨(E b).blk,(E b).sh+o,none⟩ (ns.map (.int .u8)) (fun j u hj=>by rw[Addr.add_lit];exact h6 j u (by rw[V2];exact hj))
         rw[h4]at h7
         have:=run_convert_bytes_string (P:=P) w src dst e (some ⟨(E b).blk,(E b).sh+o,none⟩) n (jT E b c) hs he1 hd
         simp only[execOp,h3,zj,this,run_bytesToString w _ n (jT E b c) ns h7,h2]
         simp[fT]
       . cases he
     . cases he
   . cases he
 . cases he
theorem iw.congr{E:Env}{A A' : AH}{w:World}{s s' : Sem Next}{r:XR}(e:s.run P w=s'.run P w)(h:iw P E A w s' A' r):iw P E A w s A' r:=by
 cases r<;>simp only[iw]at h ⊢ <;> rw[e]<;>exact h
theorem No(lt:Int->Int->Bool):∀ (l:List Value) (v u:Value) (k:Nat),pW lt v l=some u->nm v<=k->nm u<=k:=by
 intro l
 induction l with
 | nil=>intro v u k h hn;cases v<;>(simp only[pW,Option.some.injEq]at h;subst h;exact hn)
 | cons y l ih =>
  intro v u k h hn
  cases v<;>try (simp[pW]at h;done)
  cases y<;>try (simp[pW]at h;done)
  simp only[pW]at h
  exact ih _ u k h (by simp[nm])
section
variable {E:Env} {A A' : AH} {w:World} {r:XR} {t u ty:TypeId} {x y:Value} {cs:Array Bool} {vs:List Value} {T:Array TypeId}
theorem aam(h:Rel E A w)(hn:gT vs<=A.nf)(he:ng P .min vs T.toList A=some (r,A')):iw P E A w (builtin .min T ty cs (vs.map (fT E)).toArray) A' r:=by
 cases vs with
 | nil=>simp[ng,DQ]at he
 | cons v vs =>
  simp only[ng,DQ]at he
  obtain⟨q,hq,e⟩:=map_some he
  cases e
  simp only[gT,nv]at hn
  refine iw.val h ?_ (No _ vs v q _ hq hn.1)
  have:=K5 (P:=P) (fun a b=>decide (a<b)) Builtin.min2 w (fun k k' x y=>by
   simp only[Builtin.min2,zm];by_cases hh:y<x<;>simp[hh]) vs v q E hq
  simp only[builtin,Builtin.min_,z1,zj,this]
  simp
theorem aaz(h:Rel E A w)(hn:gT vs<=A.nf)(he:ng P .max vs T.toList A=some (r,A')):iw P E A w (builtin .max T ty cs (vs.map (fT E)).toArray) A' r:=by
 cases vs with
 | nil=>simp[ng,DN]at he
 | cons v vs =>
  simp only[ng,DN]at he
  obtain⟨q,hq,e⟩:=map_some he
  cases e
  simp only[gT,nv]at hn
  refine iw.val h ?_ (No _ vs v q _ hq hn.1)
  have:=K5 (P:=P) (fun a b=>decide (b<a)) Builtin.max2 w (fun k k' x y=>by
   simp only[Builtin.max2,zm];by_cases hh:x<y<;>simp[hh]) vs v q E hq
  simp only[builtin,Builtin.max_,z1,zj,this]
  simp
theorem ZI(h:Rel E A w)(he:ng P .len [x] [t] A=some (r,A')):iw P E A w (builtin .len #[t] ty cs #[fT E x]) A' r:=by
 simp only[ng,D0]at he
 split at he
 . rename_i s ht
   cases he
   exact iw.val h (by simp[builtin,Builtin.len_,run_underlying ht,fT,goInt]) (by simp[nm])
 . rename_i e a n c ht
   cases he
   refine iw.val h ?_ (by simp[nm])
   cases a<;>simp[builtin,Builtin.len_,run_underlying ht,fT,goInt]
 . rename_i n e ht
   cases he
   exact iw.val h (by simp[builtin,Builtin.len_,run_underlying ht,fT,goInt]) (by simp[nm])
 . rename_i k e ht
   cases he
   exact iw.val h (by simp[builtin,Builtin.len_,run_underlying ht,fT,goInt]) (by simp[nm])
 . rename_i k e r0 ht
   split at he
   . rename_i es clock hg
     cases he
     have hh:=h.yA hg
     have hgo:(getObj (E r0).blk).run P w = .ok (.map (es.map (jX E)).toArray clock) w:=by simp[getObj,Sem.run,hh]
     exact iw.val h (by simp[builtin,Builtin.len_,run_underlying ht,fT,goInt,hgo]) (by simp[nm])
   . cases he
 . cases he
theorem DX{sz k:Nat}{l:List Value}(h:Rel E A w)(hs:AR A sz y=some (k,l)) :
 l.length=k*sz/\gT l<=A.nf/\(∀ u∈l,one u=true)/\(∀ w' : World,(Builtin.lenOf (fT E y)).run P w' = .ok k w')/\∀ j,j<=k->(Builtin.firstCells sz j (fT E y)).run P w = .ok ((l.take (j*sz)).map (fT E)).toArray w:=by
 unfold AR at hs
 split at hs
 . rename_i n c
   cases hn:Nat.beq n 0 with
   | false=>rw[hn]at hs;cases hs
   | true =>
    rw[hn]at hs
    cases hs
    have:=zt hn
    subst this
    exact⟨s_,by simp[gT],s_,fun w' => by simp[Builtin.lenOf,fT],fun j hj=>by simp[Builtin.firstCells,fT]⟩
 . rename_i b o n c
   cases hn:Nat.beq n 0 with
   | true =>
    rw[hn]at hs
    cases hs
    have:=zt hn
    subst this
    refine⟨s_,by simp[gT],s_,fun w' => by simp[Builtin.lenOf,fT],fun j hj=>?_⟩
    have:j=0:=by omega
    subst this
    simp[Builtin.firstCells,fT,loadCells,loadCellsFrom]
   | false =>
    rw[hn]at hs
    simp only[cond_false]at hs
    split at hs
    . rename_i l' hl
      cases ho:l'.all one with
      | false=>rw[ho]at hs;cases hs
      | true =>
       rw[ho]at hs
       cases hs
       obtain⟨h4,h5,h6⟩:=h.read hl
       refine⟨h4,h5,fun u hu=>zz.1 ho u hu,fun w' => by simp[Builtin.lenOf,fT],fun j hj=>?_⟩
       have hlen:((l.take (j*sz)).map (fT E)).length=j*sz:=by
        rw[zr,kD,h4]
        exact zW (uZ _ hj)
       have:=run_firstCells_some (P:=P) w sz j ⟨(E b).blk,(E b).sh+o,none⟩ k (jT E b c) ((l.take (j*sz)).map (fT E)) hlen (fun i v hi=>by
        rw[Addr.add_lit]
        refine h6 i v ?_
        rw[List.map_take,pZ]at hi
        split at hi
        . exact hi
        . cases hi)
       simpa[fT,iZ]using this
    . cases hs
 . rename_i s
   cases hn:Nat.beq sz 1 with
   | false=>rw[hn]at hs;cases hs
   | true =>
    rw[hn]at hs
    cases hs
    have:=zt hn
    subst this
    refine⟨s_,?_,?_,fun w' => by simp[Builtin.lenOf,fT],fun j hj=>?_⟩
    . refine ku.2 fun v hv=>?_
      obtain⟨c,_,rfl⟩:=jW.1 hv
      simp[nm]
    . intro u hu
      obtain⟨c,_,rfl⟩:=jW.1 hu
      rfl
    . simp only[Builtin.firstCells,fT,zm]
      congr 1
      apply Array.ext'
      simp[List.map_take,fT,Function.comp_def]
 . cases hs
end
end
end Go.Ex
namespace Go.Ex
open Go Go.Sx
section
variable {P:Program} {E:Env} {A A' : AH} {w:World} {r:XR} {t u ty:TypeId} {x y:Value} {cs:Array Bool} {sz n:Nat} {news:List Value}
theorem N4{d1:TypeDesc}(h:Rel E A w)(hs:AR A sz y=some (n,news))(hk:(match d1 with | .slice _=>true | .string=>true|_=>false)=true)(hd:P.underlying u=some d1) :
 _root_.Go.Src P sz u (fT E y) n (news.map (fT E)) w:=by
 obtain⟨h1,h2,h3,h4,h5⟩:=DX (P:=P) h hs
 have h6:=(DX (P:=P) h.drew.1 hs).2.2.2.2 n (zn _)
 have h7:=h5 n (zn _)
 rw[rE o_]at h6 h7
 refine⟨?_,h4,h7,h6,by simpa using h1,fun q hq=>?_⟩
 . split at hk
   . exact .inl ⟨_,hd⟩
   . exact .inr hd
   . cases hk
 . obtain⟨v,hv,rfl⟩:=jW.1 hq
   rw[Nt,<-NP];exact h3 v hv
theorem FG(z:Array Value)(n:Nat):(Builtin.zeroCells z n).toList.length=n*z.size:=by simp[Builtin.zeroCells]
theorem G6{T:TypeId}{vs zs:List Value}{s:Sem Next}{v:Value}{sl:Nat}(h:Rel E A w)(hn:gT vs<=A.nf)(hz:zs.length=sl*sz)
 (hs:s.run P w = .ok (.value (fT (kP E A.nf ⟨w.heap.size,0,sl⟩) v)) (w.drew.alloc (.cells (vs.map (fT E)++zs).toArray T))) (hv:nm v<=A.nf+1):iw P E A w s (A.add (.cells vs T (some sz) false)) (.val v):=by
 have:=h.drew.1.new (o:=.cells vs T (some sz) false) (x:=⟨w.heap.size,0,sl⟩) (w' := w.drew.alloc (.cells (vs.map (fT E)++zs).toArray T)) (c:=.cells (vs.map (fT E)++zs).toArray T) (heap_alloc_new w.drew _) (zn _)
  ⟨[],zs,s_,rfl,fun q e=>by cases e;exact hz⟩ hn (gD.alloc [] w.drew _)
 exact⟨_,_,hs,this.1,h.drew.2.trans this.2,hv⟩
theorem Wp{b o k:Nat}{cs old:List Value}{T:TypeId}{op:Option Nat}{ro:Bool}(hg:A.get b=some (.cells cs T op ro))(ht:pH cs o k=some old):se A b o k=some old:=by
 rw[LU,hg];exact ht
theorem LN{a b:Nat}(h:Nat.ble a b=false):b<a:=by
 rcases qa b a with h1|h1
 . exact h1
 . rw[BT h1]at h;cases h
theorem KA{c cb:Nat}(h:tc c=some cb):c=cb+iU:=by
 unfold tc at h
 generalize iU=O at h ⊢
 cases hb:Nat.ble O c with
 | false=>rw[hb]at h;cases h
 | true =>
  rw[hb]at h
  simp only[cond_true,Option.some.injEq]at h
  have:=za hb
  omega
theorem Kz{c:Nat}(h:tc c=none)(E:Env)(b:Nat):jT E b c=c:=by
 unfold tc at h
 unfold jT
 generalize iU=O at h ⊢
 cases hb:Nat.ble O c with
 | true=>rw[hb]at h;cases h
 | false=>rw[if_neg (by have:=LN hb;omega)]
theorem AD(E:Env)(b cb:Nat):jT E b (cb+iU)=cb+(E b).sl:=by
 unfold jT
 generalize iU=O
 rw[if_pos (Nat.le_add_left O cb),Nat.add_sub_cancel]
theorem Wb(E:Env)(b c:Nat):tD c<=jT E b c:=by
 unfold tD
 cases h:tc c with
 | none=>simp only;rw[Kz h];exact zn _
 | some cb=>have:=KA h;subst this;rw[AD];exact Nat.le_add_right _ _
theorem HO{k:Nat}{a b:List Value}(h1:gT a<=k)(h2:gT b<=k):gT (a++b)<=k:=ku.2 fun v hv=>by
 rcases zq.1 hv with h|h
 . exact ku.1 h1 v h
 . exact ku.1 h2 v h
theorem Md{e:TypeId}{i:TypeInfo}{z:Value}{b o m C:Nat}{old:List Value}(h:Rel E A w)(ht:P.underlying t=some (.slice e))(hi:P.info? e=some i)(hzz:i.zero=some z)
 (hsrc:_root_.Go.Src P i.size u (fT E y) n (news.map (fT E)) w) (hr:se A b o (m*i.size)=some old) (hg:C<m+n) (hb:(m+n)*i.bytes<=140737488355328) (h63:m+n<=9223372036854775807) :
 (builtin .append #[t,u] ty cs #[.slice (some ⟨(E b).blk,(E b).sh+o,none⟩) m C,fT E y]).run P w =
  .ok (.value (fT (kP E A.nf ⟨w.heap.size,0,grownCap w (m+n) C e-(m+n)⟩) (.slice (some ⟨A.nf,0,none⟩) (m+n) (m+n+iU)))) (w.drew.alloc (.cells ((old++news).map (fT E)++(Builtin.zeroCells z.cells (grownCap w (m+n) C e-(m+n))).toList).toArray e)):=by
 obtain⟨g1,g2,g3⟩:=h.drew.1.read hr
 have hold:=run_firstCells_some (P:=P) w.drew i.size m ⟨(E b).blk,(E b).sh+o,none⟩ m C (old.map (fT E)) (by simpa using g1) (fun j v hj=>by rw[Addr.add_lit];exact g3 j v hj)
 have hrun:=run_append_grow_src (P:=P) w t u ty e i z ht hi hzz (some ⟨(E b).blk,(E b).sh+o,none⟩) m C (old.map (fT E)) hold (fT E y) n (news.map (fT E)) hsrc hg o_ (growslice_fits hg hb)
 have hge:=grownCap_ge w (m+n) C e
 simp only[builtin,zj,hrun,ze,zm]
 simp only[fT,iZ,AD,kL,Nat.add_sub_of_le hge,mL]
 congr 3
 apply Array.ext'
 simp[mT]
theorem RW{b o m cb:Nat}{cs' old:List Value}{T:TypeId}(h:Rel E A w)(hg:A.get b=some (.cells cs' T (some sz) false))(hold:pH cs' o (m*sz)=some old)(hol' : o+m*sz<=cs'.length)(hend:o+cb*sz=cs'.length)
 (hfit:m+n<=cb+(E b).sl) (hnl:news.length=n*sz) (hnn:gT news<=A.nf) (hno:gT old<=A.nf) (h1:∀ q∈news.map (fT E),q.oneCell' = true) :
 ∃ w', (storeCells ⟨(E b).blk,(E b).sh+o+m*sz,none⟩ (news.map (fT E))).run P w = .ok () w' /\
  Rel (kP E A.nf ⟨(E b).blk,(E b).sh+o,cb+(E b).sl-(m+n)⟩) ((A.jH b).add (.cells (old++news) T (some sz) false)) w' /\
  To E A w (kP E A.nf ⟨(E b).blk,(E b).sh+o,cb+(E b).sl-(m+n)⟩) ((A.jH b).add (.cells (old++news) T (some sz) false)) w' := by
 obtain⟨c0,hc0,pre,post,rfl,hpl,hpost⟩:=h.obj b _ hg
 have hpost:=hpost _ rfl
 have hoe:=(vJ hold).1
 have hmul:(m+n)*sz<=(cb+(E b).sl)*sz:=uZ _ hfit
 rw[nw,nw cb]at hmul
 have hstore:=run_storeCells_at P (E b).blk ((E b).sh+o+m*sz) T (news.map (fT E)) 0 _ w hc0 (by simp only[List.size_toArray,zw,zr,hpl,hpost,hnl];omega) h1
 simp only[mL,zr]at hstore
 obtain⟨tl,htl⟩:∃ tl,(pre++cs'.map (fT E)++post).drop ((E b).sh+o+m*sz+news.length)=tl:=⟨_,rfl⟩
 have htll:tl.length=(cb+(E b).sl-(m+n))*sz:=by
  rw[<-htl]
  simp only[tU,zw,zr,hpl,hpost,hnl,Nat.sub_mul,nw]
  omega
 have htk' : (pre++cs'.map (fT E)++post).take ((E b).sh+o+m*sz)=(pre++(cs'.take o).map (fT E))++old.map (fT E):=by
  rw[mT,Ao,rE o_,hpl,show (E b).sh+o+m*sz-(E b).sh=o+m*sz by omega,Js (by simpa using hol'),<-List.map_take,mT,<-qL,List.take_add,<-hoe]
 have hrow:(pre++cs'.map (fT E)++post).take ((E b).sh+o+m*sz)++news.map (fT E)++tl=(pre++(cs'.take o).map (fT E))++(old++news).map (fT E)++tl:=by
  rw[htk', qL];simp only[mT]
 have htk:=h.take (x:=⟨(E b).blk,(E b).sh+o,cb+(E b).sl-(m+n)⟩) (o' := .cells (old++news) T (some sz) false)
  (w' := w.setRow (E b).blk (List.toArray ((pre++(cs'.take o).map (fT E))++(old++news).map (fT E)++tl)))
  (c:=.cells (List.toArray ((pre++(cs'.take o).map (fT E))++(old++news).map (fT E)++tl)) T (0,0))
  hg rfl rfl (setRow_heap w _ _ _ T (0,0) hc0) ⟨_,_,rfl,by simp[hpl];omega,fun q e=>by cases e;exact htll⟩ (HO hno hnn) (gD.setRow w _ _)
 refine⟨_,?_,htk.1,htk.2⟩
 rw[hstore]
 congr 2
 apply Array.ext'
 simp only[List.take_toArray,htl,<-hrow]
theorem LW{v:Value}(h:Rel E A w)(hx:nm x<=A.nf)(hy:nm y<=A.nf)(he:AS P A t u x y=some (v,A')):iw P E A w (builtin .append #[t,u] ty cs #[fT E x,fT E y]) A' (.val v):=by
 unfold AS at he
 split at he
 . rename_i e d1 ht hd1
   split at he
   . rename_i sz' by_ z hk hsz hby hz
     simp only at he
     obtain⟨i,hi,hzz,h0,hlen⟩:=qo hz
     have hbi:i.bytes=by_:=by unfold B9 at hby;rw[hi]at hby;simpa using hby
     have hsi:i.size=sz' + 1:=by unfold l6 at hsz;rw[hi]at hsz;simpa using hsz
     split at he
     . rename_i n news hs
       have hsrc:=N4 h hs hk hd1
       have hso:=DX (P:=P) h hs
       rw[<-hsi]at hsrc
       cases hn:Nat.beq n 0 with
       | true =>
        rw[hn]at he
        cases he
        have:=zt hn
        subst this
        refine iw.val h ?_ (by simp[nm])
        rcases hsrc.kind with ⟨e', hk'⟩|hk' <;> simp[builtin,Builtin.append_,run_underlying ht,run_underlying hk', sizeOf,typeInfo,hi,hsrc.len,hsrc.cells,fT]
       | false =>
        rw[hn]at he
        simp only[cond_false]at he
        cases hb:(Nat.ble (n*by_) 140737488355328&&Nat.ble n 9223372036854775807)with
        | false=>rw[hb]at he;cases he
        | true =>
         rw[hb]at he
         cases he
         rw[zo]at hb
         have b1:=za hb.1
         have b2:=za hb.2
         have hn0:0<n:=by rcases vt n with e|e;(subst e;simp at hn);exact e
         have hrun:=run_append_grow_src (P:=P) w t u ty e i z ht hi hzz none 0 0 [] (run_firstCells_none w.drew _ _ _ _) (fT E y) n (news.map (fT E)) hsrc o_ o_ (growslice_fits o_ (by rw[hbi];simpa using b1))
         simp only[jN,rK]at hrun
         have hge:=grownCap_ge w n 0 e
         refine G6 (zs:=(Builtin.zeroCells z.cells (grownCap w n 0 e-n)).toList) (sl:=grownCap w n 0 e-n) h hso.2.1 (by rw[FG,<-hsi,<-hlen];simp) ?_ (by simp[nm])
         simp only[builtin,zj,fT,hrun,ze,zm]
         simp only[iZ,AD,kL,Nat.add_sub_of_le hge,mL]
         congr 3
         apply Array.ext'
         simp
     . rename_i n news b o m c hs
       have hsrc:=N4 h hs hk hd1
       have hso:=DX (P:=P) h hs
       rw[<-hsi]at hsrc
       have hnb:b+1<=A.nf:=by simpa[nm]using hx
       have hcb:tD c<=jT E b c:=Wb E b c
       cases hroom:Nat.ble (m+n) (tD c)with
       | true =>
        rw[hroom]at he
        simp only[cond_true]at he
        have hroom:=za hroom
        split at he
        . rename_i A1 hw
          cases he
          obtain⟨w', g1,g2,g3,g4⟩:=KB (P:=P) h hso.2.1 hw
          refine⟨E,w', ?_,g2,g3,by simp only[XR.Wf,nm,g4];exact hnb⟩
          rw[<-j4,<-hsi]at g1
          have hroom' : m+n<=jT E b c:=z7 hroom hcb
          rcases hsrc.kind with ⟨e', hk'⟩|hk' <;> simp[builtin,Builtin.append_,run_underlying ht,run_underlying hk', sizeOf,typeInfo,hi,hsrc.len,hsrc.cells,fT,iZ,hroom', Addr.add_lit,g1,XR.next]
        . cases he
       | false =>
        rw[hroom]at he
        simp only[cond_false]at he
        have hroom:=LN hroom
        cases hb:(Nat.ble ((m+n)*by_) 140737488355328&&Nat.ble (m+n) 9223372036854775807)with
        | false=>rw[hb]at he;cases he
        | true =>
         rw[hb]at he
         simp only[cond_true]at he
         rw[zo]at hb
         have b1:=za hb.1
         have b2:=za hb.2
         split at he
         . rename_i cs' T op ro hg
           split at he
           . rename_i old hold
             rw[<-hsi]at hold
             have hrd:=Wp hg hold
             cases hO:tc c with
             | none =>
              rw[hO]at he
              cases he
              have hcc:jT E b c=c:=Kz hO E b
              have hroom:c<m+n:=by unfold tD at hroom;rw[hO]at hroom;exact hroom
              have:=Md (C:=c) (ty:=ty) (cs:=cs) h ht hi hzz hsrc hrd hroom (by rw[hbi];exact b1) b2
              refine G6 (zs:=(Builtin.zeroCells z.cells (grownCap w (m+n) c e-(m+n))).toList) (sl:=grownCap w (m+n) c e-(m+n)) h (HO (h.read hrd).2.1 hso.2.1) (by rw[FG,<-hsi,<-hlen];simp) ?_ (by simp[nm])
              simp only[fT,iZ,hcc]at this ⊢
              exact this
             | some cb =>
              rw[hO]at he
              have hroom:cb<m+n:=by unfold tD at hroom;rw[hO]at hroom;exact hroom
              have hce:=KA hO
              subst hce
              have hcc:jT E b (cb+iU)=cb+(E b).sl:=AD E b cb
              simp only at he
              cases hq:(!ro&&Nat.beq (o+(cb)*(sz' + 1)) cs'.length&&Nat.beq T e&&Ew op (sz' + 1))with
              | false=>rw[hq]at he;cases he
              | true =>
               rw[hq]at he
               cases he
               simp only[zo]at hq
               obtain⟨⟨⟨q1,q2⟩,q3⟩,q4⟩:=hq
               have q1:ro=false:=by cases ro<;>simp_all
               have q2:=zt q2
               have q3:=zt q3
               subst q1
               subst q3
               obtain⟨s0,rfl⟩:∃ s0,op=some s0:=by cases op with|none=>cases q4|some s=>exact⟨s,rfl⟩
               have q4:s0=sz' + 1:=zt q4
               subst q4
               by_cases hfit:m+n<=cb+(E b).sl
               . have hol:=(vJ hold).2
                 have hoe:=(vJ hold).1
                 rw[hsi]at hold hol hoe
                 have hol' : o+m*(sz' + 1)<=cs'.length:=by
                  rw[<-q2]
                  have:m*(sz' + 1)<=(cb)*(sz' + 1)\/(cb)*(sz' + 1)<m*(sz' + 1):=by omega
                  rcases this with h3|h3
                  . omega
                  . exfalso
                    rw[hoe]at hol
                    simp only[kD,tU,<-q2]at hol
                    omega
                 obtain⟨w', hstore,hr2,ht2⟩:=RW (P:=P) h hg hold hol' q2 hfit hso.1 hso.2.1 (h.read hrd).2.1 hsrc.one
                 refine⟨_,w', ?_,hr2,ht2,by simp[XR.Wf,nm,AH.add,AH.jH]⟩
                 have hfit' : m+n<=jT E b (cb+iU):=by rw[hcc];exact hfit
                 have hcells:=hsrc.cells
                 have hlenx:=hsrc.len
                 rw[hsi]at hcells
                 have hv' : fT (kP E A.nf ⟨(E b).blk,(E b).sh+o,cb+(E b).sl-(m+n)⟩) (.slice (some ⟨A.nf,0,none⟩) (m+n) (m+n+iU)) = .slice (some ⟨(E b).blk,(E b).sh+o,none⟩) (m+n) (cb+(E b).sl):=by
                  simp only[fT,iZ,AD,kL,Nat.add_sub_of_le hfit,mL]
                 simp only[XR.next,hv']
                 rcases hsrc.kind with ⟨e', hk'⟩|hk' <;> simp[builtin,Builtin.append_,run_underlying ht,run_underlying hk', sizeOf,typeInfo,hi,hlenx,hsi,hcells,fT,iZ,hfit,hcc,Addr.add_lit,hstore]
               . have hs2:=h.jH b
                 have:=Md (C:=cb+(E b).sl) (ty:=ty) (cs:=cs) h ht hi hzz hsrc hrd o_ (by rw[hbi];exact b1) b2
                 obtain⟨E', w', a1,a2,a3,a4⟩:=G6 (P:=P) (sz:=sz' + 1) (T:=T) (zs:=(Builtin.zeroCells z.cells (grownCap w (m+n) (cb+(E b).sl) T-(m+n))).toList) (sl:=grownCap w (m+n) (cb+(E b).sl) T-(m+n)) (s:=builtin .append #[t,u] ty cs #[fT E (.slice (some ⟨b,o,none⟩) m (cb+iU)),fT E y]) (v:=.slice (some ⟨A.nf,0,none⟩) (m+n) (m+n+iU)) hs2.1
                  (HO (h.read hrd).2.1 hso.2.1:gT (old++news)<=A.nf) (by rw[FG,<-hsi,<-hlen];simp) (by
                   simp only[fT,iZ,hcc]at this ⊢
                   exact this) (by simp[nm,AH.jH])
                 exact⟨E', w', a1,a2,hs2.2.trans a3,a4⟩
           . cases he
         . cases he
     . cases he
   . cases he
 . cases he
theorem iw.same{A'' : AH}{s:Sem Next}{v:Value}(h:iw P E A w s A'' (.val v))(hs:lN A' A''):iw P E A w s A' (.val v):=by
 obtain⟨E', w', a1,a2,a3,a4⟩:=h
 exact⟨E', w', a1,a2.same hs,a3.same hs,by rw[hs.1];exact a4⟩
theorem Sc{v:Value}(he:GS P A t u x y=some (v,A')):∃ A'', AS P A t u x y=some (v,A'')/\lN A' A'' := by
 unfold GS at he
 split at he
 . rename_i b m c
   split at he
   . rename_i cb n0 base d tr T op hO hg
     cases hmc:Nat.ble m cb with
     | false=>rw[hmc]at he;cases he
     | true =>
     rw[hmc]at he
     simp only[cond_true]at he
     split at he
     . rename_i e d1 ht hd1
       split at he
       . rename_i sz' by_ z hk hsz hby hz
         split at he
         . rename_i n news hs
           cases hr:Nat.ble (m+n) cb with
           | true=>rw[hr]at he;cases he
           | false =>
            rw[hr]at he
            simp only[cond_false]at he
            cases hb:(Nat.ble ((m+n)*by_) 140737488355328&&Nat.ble (m+n) 9223372036854775807&&(Nat.beq (cb*(sz' + 1)) n0&&(Nat.beq T e&&Ew op (sz' + 1))))with
            | false=>rw[hb]at he;cases he
            | true =>
             rw[hb]at he
             simp only[cond_true,Option.some.injEq,Prod.mk.injEq]at he
             obtain⟨rfl,rfl⟩:=he
             rw[zo]at hb
             obtain⟨hb1,hb2⟩:=hb
             simp only[zo]at hb2
             obtain⟨q1,q2,q3⟩:=hb2
             have hn0:=zt q1
             have hmm:=za hmc
             have hfit:m*(sz' + 1)<=n0:=by rw[<-hn0];exact uZ _ hmm
             have hget:A.get b=some (.cells (oh n0 base d tr) T op false):=by unfold AH.get;rw[hg];rfl
             have htake:pH (oh n0 base d tr) 0 (m*(sz' + 1))=some (yF base d tr (m*(sz' + 1)) 0):=by
              rw[K6,jN,BT hfit];rfl
             have hcap:tD c=cb:=by unfold tD;rw[hO]
             refine⟨(A.jH b).add (.cells (yF base d tr (m*(sz' + 1)) 0++news) e (some (sz' + 1)) false),?_,rfl,fun b' => ?_⟩
             . unfold AS
               simp only[ht,hd1,hk,hsz,hby,hz,hs,hcap,hr,cond_false,hb1,cond_true,hget,htake,hO,xm,jN,q1,q2,q3,Bool.not_false,Bool.and_self]
             . rw[Vb,pg]
               by_cases e1:b' = (A.jH b).nf
               . rw[if_pos e1,if_pos e1]
                 simp only[PO.to]
                 congr 2
                 refine nq fun i=>?_
                 rw[vQ,Hi]
                 by_cases h1:i<m*(sz' + 1)
                 . rw[if_pos o_,sS (by simpa using h1),kJ,List.getElem?_range' h1]
                   unfold rowAt
                   rw[vN,if_neg (show ¬ (m*(sz' + 1)<=i/\i<m*(sz' + 1)+news.length) by omega)]
                   simp
                 . rw[u9 (by simp;omega)]
                   simp only[zr,List.length_range']
                   by_cases h2:i<m*(sz' + 1)+news.length
                   . rw[if_pos h2]
                     unfold rowAt
                     rw[vN,if_pos (show m*(sz' + 1)<=i/\i<m*(sz' + 1)+news.length by omega)]
                     have:news[i-m*(sz' + 1)]? = some news[i-m*(sz' + 1)]:=zk o_
                     rw[this]
                   . rw[if_neg h2,mB o_]
               . rw[if_neg e1,if_neg e1]
         . cases he
       . cases he
     . cases he
   . cases he
 . cases he
theorem U4{v:Value}(h:Rel E A w)(hx:nm x<=A.nf)(hy:nm y<=A.nf)(he:HE P A t u x y=some (v,A')):iw P E A w (builtin .append #[t,u] ty cs #[fT E x,fT E y]) A' (.val v):=by
 unfold HE at he
 split at he
 . rename_i r hr
   cases he
   obtain⟨A'', h1,h2⟩:=Sc hr
   exact(LW h hx hy h1).same h2
 . exact LW h hx hy he
end
end Go.Ex
namespace Go.Ex
open Go Go.Sx
section
variable {P:Program}
theorem YZ{b:Builtin}{E:Env}{A A' : AH}{w:World}{r:XR}{ty:TypeId}{cs:Array Bool}{vs:List Value}{T:List TypeId}(h:Rel E A w)(h2:gT vs<=A.nf)(he:ng P b vs T A=some (r,A')) :
 iw P E A w (builtin b T.toArray ty cs (vs.map (fT E)).toArray) A' r:=by
 have he' := he
 cases b<;>try (simp[ng]at he;done)
 all_goals simp only[ng]at he
 . unfold LJ at he
   split at he
   . obtain⟨p,hp,e⟩:=map_some he
     cases e
     simp only[gT,nv]at h2
     exact U4 h h2.1 h2.2.1 hp
   . cases he
 . unfold D0 at he
   split at he
   . exact ZI h he'
   . cases he
 . exact aaz (T:=T.toArray) h h2 he'
 . exact aam (T:=T.toArray) h h2 he'
theorem Tk(b:Builtin)(az:Array Operand)(T:Array TypeId):kj P (.call ⟨.builtin b,az,T⟩):=by
 intro E A A' w ρ m sl r dd ty pos af g h hρ he
 simp only[jh,AV,Is]at he
 split at he
 . rename_i vs hvs
   obtain⟨h1,h2⟩:=s9 hρ hvs
   have key:az.map (ev m sl)=(vs.map (fT E)).toArray:=by apply Array.ext'; simp[h1]
   have:=YZ (P:=P) (ty:=ty) (cs:=az.map fun | .const _=>true|_=>false) h h2 he
   refine iw.congr ?_ this
   simp only[execOp,resolve,invoke,zj,zm,ze,key,Ck]
   rfl
 . cases he
theorem CS(op:Op):kj P op:=by
 cases op with
 | move x=>exact Ya x
 | assign x=>exact Vj x
 | pick c a b=>exact XI c a b
 | alloc t=>exact WG t
 | box t x=>exact aau t x
 | build t parts=>exact Ws t parts
 | buildSlice t n parts=>exact RI t n parts
 | load t a=>exact X9 t a
 | store t a x=>exact Xq t a x
 | nilCheck x=>exact Ss x
 | binOp o t x y e=>exact YO o t x y e
 | unOp o t x=>exact aa0 o t x
 | convert s d x=>exact T9 s d x
 | makeInterface t x=>exact Rj t x
 | makeFunc fn fi ca=>exact SG fn fi ca
 | makeMap t r=>exact Tq t r
 | makeSlice t l c=>exact R1 t l c
 | slice t x lo hi mx=>exact Xm t x lo hi mx
 | fieldAddr s x f=>exact RY s x f
 | field t x f=>exact XC t x f
 | indexAddr t x ix=>exact RZ t x ix
 | index t x ix=>exact WQ t x ix
 | lookup t x ix ok=>exact VZ t x ix ok
 | mapUpdate t m k x=>exact Sg t m k x
 | mapEntry t m k=>exact Td t m k
 | entryStore t m s x=>exact RG t m s x
 | extract x i=>exact Tp x i
 | call c =>
  obtain⟨ce,az,T⟩:=c
  cases ce with
  | builtin b=>exact Tk b az T
  | value f=>exact Xk f az T
  | invoke x name=>exact UU x name az T
 | _=>intro E A A' w ρ m sl r dd ty pos af g h hρ he;simp[jh]at he
end
end Go.Ex
namespace Go.Ex
open Go Go.Sx
section
variable {P:Program} {E E' E'' : Env} {A A' A'' : AH} {w w' w'' : World} {n:Nat} {σ σ' : Tr Value} {r:Option Nat}
def tS(k:Nat)(ds:List Nat):Prop:=∀ d∈ds,d<k
theorem jI.mono{k k' : Nat}(h:jI k σ)(hk:k<=k'):jI k' σ:=fun t v hv=>z7 (h t v hv) hk
theorem tS.mono{k k' : Nat}{ds:List Nat}(h:tS k ds)(hk:k<=k'):tS k' ds:=fun d hd=>z6 (h d hd) hk
theorem To.slots(h:To E A w E' A' w')(hs:jI A.nf σ):slots n E' σ=slots n E σ:=CN h.ext hs
theorem Ut{k:Nat}{ds:List Nat}(h:∀ b,b<k->E' b=E b)(hd:tS k ds):nD E' ds=nD E ds :=
 zO fun d hm=>by rw[h d (hd d hm)]
theorem To.nD{ds:List Nat}(h:To E A w E' A' w')(hd:tS A.nf ds):nD E' ds=nD E ds:=Ut h.ext hd
theorem r9(h:Rel E A w)(hs:jI A.nf σ):yC E A.nf (l5 n σ) n (Go.Ex.slots n E σ):=by
 intro x v hx
 cases x with
 | tmp t =>
  simp only[l5]at hx
  by_cases ht:t<n
  . rw[r6 ht]at hx
    simp only[cond_true]at hx
    simp only[ev,r6 ht,cond_true,rS,if_pos ht]
    cases hg:σ.get t with
    | none=>rw[hg]at hx;cases hx;exact⟨rfl,by simp[undef,nm,jA,gT]⟩
    | some u=>rw[hg]at hx;cases hx;exact⟨rfl,hs t _ hg⟩
  . rw[AI ht]at hx
    cases hx
    simp only[ev,AI ht,cond_false]
    exact⟨rfl,by simp[undef,nm,jA,gT]⟩
 | const u =>
  simp only[l5]at hx
  cases hb:Nat.beq (nm u) 0 with
  | false=>rw[hb]at hx;cases hx
  | true =>
   rw[hb]at hx
   cases hx
   have:=zt hb
   exact⟨(xY v this E).symm,o_⟩
 | global g =>
  simp only[l5]at hx
  cases hb:Nat.blt g GB with
  | false=>rw[hb]at hx;cases hx
  | true =>
   rw[hb]at hx
   cases hx
   have hlt:g<GB:=by simpa[Nat.blt,uc]using hb
   have:=h.low
   exact⟨by simp[ev,ptr,fT,iZ,h.kN g hlt],by simp only[ptr,nm];omega⟩
 | func f =>
  cases hx
  exact⟨by simp[ev,fT,mP,ko,lF],by simp[nm,jA,gT]⟩
theorem NI(n:Nat)(E:Env)(σ:Tr Value)(d:Option Nat)(v:Value)(ds:List Deferred):(Fr n (Go.Ex.slots n E σ) ds).put d (fT E v)=Fr n (Go.Ex.slots n E (oO σ d v)) ds:=by
 rw[uz]
 refine Dv ds fun t ht=>?_
 rw[rS,if_pos ht]
 cases d with
 | none=>simp only[jy,oO,rS,if_pos ht]
 | some i =>
  simp only[jy,vM,oO,Tr.r7,rS,if_pos ht]
  by_cases h:i=t
  . subst h;simp
  . rw[if_neg h,if_neg (Ne.symm h)]
theorem jI.put{k:Nat}{d:Option Nat}{v:Value}(h:jI k σ)(hv:nm v<=k):jI k (oO σ d v):=by
 intro t u hu
 cases d with
 | none=>exact h t u hu
 | some i =>
  simp only[oO,Tr.r7]at hu
  split at hu
  . cases hu;exact hv
  . exact h t u hu
theorem G5(k:Nat):nm undef<=k:=by simp[undef,nm,jA,gT]
theorem T4(E:Env)(v:Value)(want:Bool):yG (fT E v) want=yG v want:=by
 cases v<;>first
  | rfl
  | (rename_i o;cases o<;>rfl)
  | (rename_i o _ _;cases o<;>rfl)
theorem Lp(h:Rel E A w)(hs:jI A.nf σ)(ops:List Oper)(g:Option (Nat×Bool)):gB ops.toArray n (Go.Ex.slots n E σ) g=sg ops n σ g:=by
 cases g with
 | none=>rfl
 | some p =>
  obtain⟨j,want⟩:=p
  simp only[gB,sg]
  cases qZ ops j with
  | none=>rfl
  | some d =>
   simp only
   obtain⟨v,hv⟩:∃ v,l5 n σ (.tmp d)=some v:=by
    simp only[l5]
    cases Nat.blt d n with
    | false=>exact⟨_,rfl⟩
    | true=>cases σ.get d with
     | none=>exact⟨_,rfl⟩
     | some u=>exact⟨_,rfl⟩
   rw[hv,(r9 h hs _ v hv).1,T4]
def nW(P:Program)(c:Code)(q:Bool)(n:Nat)(σ:Tr Value)(ds:List Nat)(A:AH)(e:Exit)(σ' : Tr Value)(ds' : List Nat)(A' : AH):Prop :=
 ∀ (E:Env) (w:World) (r:Option Nat),(q=true->r=none)->Rel E A w->jI A.nf σ->tS A.nf ds->∀ Q:Exit->Act->World->Prop,
  (∀ E' w', Rel E' A' w' -> To E A w E' A' w' -> jI A'.nf σ' -> tS A'.nf ds' -> Q e (Fx n E' σ' ds') w')->WP r P c Q (Fx n E σ ds) w
def Hq(P:Program)(k:Nat)(c:Code)(q:Bool)(n:Nat)(σ:Tr Value)(ds:List Nat)(A:AH)(e:Exit)(σ' : Tr Value)(ds' : List Nat)(A' : AH):Prop :=
 ∀ (E:Env) (w:World) (r:Option Nat),(q=true->r=none)->Rel E A w->jI A.nf σ->tS A.nf ds->∀ Q:Exit->Act->World->Prop,
  (∀ E' w', Rel E' A' w' -> To E A w E' A' w' -> jI A'.nf σ' -> tS A'.nf ds' -> Q e (Fx n E' σ' ds') w')->Ac r P c Q k (Fx n E σ ds) w
def Left(E:Env)(A:AH)(w:World)(v:Value)(A' : AH)(v' : Value)(w' : World):Prop:=∃ E', v' = fT E' v/\Rel E' A' w' /\ To E A w E' A' w' /\ nm v<=A'.nf
def ta(P:Program)(f:FuncId)(args:List Value)(A:AH)(v:Value)(A' : AH):Prop :=
 ∀ (E:Env) (w:World),Rel E A w->gT args<=A.nf->CR P f (args.map (fT E)).toArray w (Left E A w v A')
def HN(P:Program)(l:Nat)(args:List Value)(A:AH)(v:Value)(A' : AH):Prop :=
 ∀ (E:Env) (w:World),Rel E A w->l<A.nf->gT args<=A.nf->YR P (E l).blk (args.map (fT E)) w (Left E A w v A')
def O4(P:Program)(k:Nat):B4->Out->Prop
 | .code c q n σ ds A,.code e σ' ds' A' => nW P c q n σ ds A e σ' ds' A'
 | .rounds c q n σ ds A,.code e σ' ds' A' => Hq P k c q n σ ds A e σ' ds' A'
 | .call f args A,.call v A' => ta P f args A v A'
 | .yield l args A,.call v A' => HN P l args A v A'
 | _,_=>True
def tw(P:Program)(k:Nat)(rec:Rec):Prop:=∀ j o,rec j=some o->O4 P k j o
theorem Cv{ty:TypeId}{op:Op}{ρ:jb}{x:XR×AH}(h:jh P ty op ρ A=some x):mE op=true:=by
 cases op<;>first|rfl|(simp[jh]at h;done)
theorem V0{ops:Array Oper}{Q:Exit->Act->World->Prop}{rest:List Oper}{s:List (Nat×Value)}{ds:List Deferred}{o:Oper}{l:Nat}{vl:List Value}{R:Value->World->Prop}(hg:gB ops n s o.guard=true)(hd:mE o.op=true)
 (he:(execOp (ev n s) o).run P w=(Instr.yield l vl.toArray).run P w) (hy:YR P l vl w R)
 (K:∀ v w', R v w' -> WL none P ops Q rest ((Fr n s ds).put o.dst v) w'):WL none P ops Q (o :: rest) (Fr n s ds) w:=by
 obtain⟨f,tmps,assign,body,h1,h2⟩:=hy
 refine⟨?_⟩
 unfold wpListIn
 rw[mX,hg,if_pos rfl]
 refine⟨fun _ _=>trivial,?_⟩
 rw[semAt_eq (sX hd),pe, he,h1]
 refine⟨fun h=>by simp[FW]at h,RoundIn.mono h2 ?_⟩
 rintro e w' ⟨v,rfl,hR⟩
 exact(K v w' hR).out
theorem Wu{ops:Array Oper}{Q:Exit->Act->World->Prop}{rest:List Oper}{s:List (Nat×Value)}{ds:List Deferred}{o:Oper}(hg:gB ops n s o.guard=false)
 (K:WL r P ops Q rest ((Fr n s ds).put o.dst undef) w):WL r P ops Q (o :: rest) (Fr n s ds) w:=by
 refine⟨?_⟩
 unfold wpListIn
 rw[mX]
 simp only[hg]
 exact⟨fun _ _=>trivial,K.out⟩
theorem S1{k:Nat}{rec:Rec}{q:Bool}{ops:List Oper}(hrec:tw P k rec)(hq:q=true->r=none):∀ (l:List Oper) (σ:Tr Value) (A:AH) (σ' : Tr Value) (A' : AH),yS P rec q ops n l σ A=some (σ', A') ->
 ∀ (E:Env) (w:World),Rel E A w->jI A.nf σ->∀ (ds:List Deferred) (Q:Exit->Act->World->Prop),
 (∀ E' w', Rel E' A' w' -> To E A w E' A' w' -> jI A'.nf σ' -> Q .normal (Fr n (Go.Ex.slots n E' σ') ds) w')->WL r P ops.toArray Q l (Fr n (Go.Ex.slots n E σ) ds) w:=by
 intro l
 induction l with
 | nil =>
  intro σ A σ' A' he E w h hs ds Q K
  rw[Vw]at he
  cases he
  exact NL (K E w h (To.refl E A w) hs)
 | cons o l ih =>
  intro σ A σ' A' he E w h hs ds Q K
  rw[TL]at he
  have hg:=Lp (n:=n) h hs ops o.guard
  cases ht:sg ops n σ o.guard with
  | false =>
   rw[ht]at he hg
   simp only[cond_false]at he
   refine Wu hg ?_
   rw[<-AJ E,NI]
   exact ih _ A σ' A' he E w h (hs.put (G5 _)) ds Q K
  | true =>
   rw[ht]at he hg
   simp only[cond_true]at he
   split at he
   . rename_i v A1 hd
     unfold Ap at hd
     -- what follows
     have next:∀ (E1:Env) (w1:World),Rel E1 A1 w1->To E A w E1 A1 w1->nm v<=A1.nf->WL r P ops.toArray Q l ((Fr n (Go.Ex.slots n E σ) ds).put o.dst (fT E1 v)) w1:=by
      intro E1 w1 h1 t1 hv
      rw[<-t1.slots hs,NI]
      exact ih _ A1 σ' A' he E1 w1 h1 ((hs.mono t1.nf).put hv) ds Q fun E' w' a b c=>K E' w' a (t1.trans b) c
     cases hx:jh P o.type o.op (l5 n σ) A with
     | none=>rw[hx]at hd;cases hd
     | some p =>
      obtain⟨xr,A2⟩:=p
      have hnd:=Cv hx
      have hdoes:=CS (P:=P) o.op E A A2 w (l5 n σ) n (Go.Ex.slots n E σ) xr o.dst o.type o.pos o.after o.guard h (r9 h hs) hx
      rw[hx]at hd
      cases xr with
      | val u =>
       cases hd
       obtain⟨E1,w1,hr,h1,t1,hv⟩:=hdoes
       exact H8 hg hnd hr (next E1 w1 h1 t1 hv)
      | unit =>
       cases hd
       obtain⟨E1,w1,hr,h1,t1,_⟩:=hdoes
       refine xJ hg hnd hr ?_
       have:=next E1 w1 h1 t1 (G5 _)
       rw[AJ]at this
       exact this
      | enter f args =>
       simp only at hd
       split at hd
       . rename_i u A3 hc
         cases hd
         obtain⟨E1,w1,hr,h1,t1,hv⟩:=hdoes
         have hcall:ta P f args A2 v A1:=hrec _ _ hc
         refine G0 hg hnd hr (Calls.mono (hcall E1 w1 h1 hv) ?_)
         rintro e w2 ⟨v', rfl,E2,rfl,h2,t2,hv2⟩
         exact next E2 w2 h2 (t1.trans t2) hv2
       . cases hd
      | yield l0 args =>
       cases hqq:q with
       | false=>rw[hqq]at hd;cases hd
       | true =>
        rw[hqq]at hd
        simp only[cond_true]at hd
        split at hd
        . rename_i u A3 hc
          cases hd
          have hr0:=hq hqq
          subst hr0
          obtain⟨rfl,hl,hn,hr⟩:=hdoes
          have hyield:HN P l0 args A2 v A1:=hrec _ _ hc
          refine V0 hg hnd hr (hyield E w h hl hn) ?_
          rintro v' w2 ⟨E2,rfl,h2,t2,hv2⟩
          exact next E2 w2 h2 t2 hv2
        . cases hd
   . cases he
end
end Go.Ex
namespace Go.Ex
open Go Go.Sx
section
variable {P:Program} {E E' E'' : Env} {A A' A'' : AH} {w w' w'' : World} {n b:Nat} {σ σ' : Tr Value} {r:Option Nat} {o o' : AO} {ds ds' : List Nat}
theorem Rel.I7(h:Rel E A w)(hb:A.get b=some o)(hro:o.ro=false)(hc:gD [(E b).blk] w w'):Rel E (A.jH b) w' /\ To E A w E (A.jH b) w' := by
 have g:∀ b1 o1,(A.jH b).get b1=some o1->b1≠b/\A.get b1=some o1:=by
  intro b1 o1 h1
  rw[xu]at h1
  split at h1
  . cases h1
  . rename_i e;exact⟨e,h1⟩
 refine⟨⟨fun b1 o1 h1=>?_,fun b1 b2 o1 o2 h1 h2 e=>h.inj b1 b2 o1 o2 (g _ _ h1).2 (g _ _ h2).2 e,fun b1 o1 h1=>h.wf b1 o1 (g _ _ h1).2,h.kN,h.low⟩,
  ⟨zn _,fun _ _=>rfl,hc.os,hc.tape,hc.output,hc.size,fun x hx hn=>hc.block x hx (by simp;exact fun e=>hn b o hb hro e.symm),fun b1 o1 h1=>.inl ⟨b1,o1,(g _ _ h1).2,rfl,id⟩⟩⟩
 obtain⟨e1,h1⟩:=g b1 o1 h1
 obtain⟨c1,hc1,hl1⟩:=h.obj b1 o1 h1
 exact⟨c1,(hc.block _ (h.lt h1) (by simp;exact fun e=>e1 (h.inj b1 b o1 o h1 hb e))).trans hc1,hl1⟩
theorem Rel.again{c:Obj}(h:Rel E A w)(hb:b<A.nf)(hfree:∀ b1 o1,A.get b1=some o1->(E b1).blk≠(E b).blk)(hw:w.heap[(E b).blk]? = some c)(hl:ot E (E b) o c)(hn:o.Wf A.nf):Rel E (A.set b o) w:=by
 have g:∀ b1 o1,(A.set b o).get b1=some o1->(b1=b/\o1=o)\/(b1≠b/\A.get b1=some o1):=by
  intro b1 o1 h1
  rw[uB]at h1
  split at h1
  . rename_i e;cases h1;exact .inl ⟨e,rfl⟩
  . rename_i e;exact .inr ⟨e,h1⟩
 refine⟨fun b1 o1 h1=>?_,fun b1 b2 o1 o2 h1 h2 e=>?_,fun b1 o1 h1=>?_,h.kN,h.low⟩
 . rcases g b1 o1 h1 with ⟨rfl,rfl⟩|⟨_,h1⟩
   . exact⟨c,hw,hl⟩
   . exact h.obj b1 o1 h1
 . rcases g b1 o1 h1 with ⟨e1,_⟩|⟨e1,h1⟩
   . rcases g b2 o2 h2 with ⟨e2,_⟩|⟨e2,g2⟩
     . rw[e1,e2]
     . rw[e1]at e;exact absurd e.symm (hfree b2 o2 g2)
   . rename_i g1
     rcases g b2 o2 h2 with ⟨e2,_⟩|⟨e2,g2⟩
     . rw[e2]at e;exact absurd e (hfree b1 o1 h1)
     . exact h.inj b1 b2 o1 o2 h1 g2 e
 . rcases g b1 o1 h1 with ⟨rfl,rfl⟩|⟨_,h1⟩
   . exact⟨hb,hn⟩
   . exact h.wf b1 o1 h1
theorem To.again{oc:AO}(h:To E A w E' A' w')(hb:A.get b=some oc)(hbn:b<A.nf)(hro:oc.ro=false):To E A w E' (A'.set b o) w' := by
 refine⟨h.nf,h.ext,h.os,h.tape,h.output,h.size,h.blk,fun b1 o1 h1=>?_⟩
 rw[uB]at h1
 split at h1
 . rename_i e;subst e;exact .inl ⟨b1,oc,hb,by rw[h.ext b1 hbn],fun _=>hro⟩
 . exact h.mine b1 o1 h1
theorem M1{K:Act->World->Prop}{Q:Exit->Act->World->Prop}{e:Exit}{a:Act}(he:e ≠ .normal)(h:Q e a w):Exit.then K Q e a w:=by
 cases e<;>first|exact h|exact absurd rfl he
theorem Ry{t:TypeId}{p u:Value}(h:Rel E A w)(he:x8 P A t p=some (.val u)):∃ ad,fT E p = .pointer (some ad)/\(loadVar t ad).run P w = .ok (fT E u) w/\nm u<=A.nf:=by
 unfold x8 at he
 split at he
 . rename_i b o
   refine⟨⟨(E b).blk,(E b).sh+o,none⟩,rfl,?_⟩
   split at he
   . rename_i d hd
     cases ha:zA d with
     | true =>
      rw[ha]at he
      simp only[cond_true]at he
      split at he
      . rename_i n hn
        split at he
        . rename_i l hl
          simp only[Option.some.injEq,XR.val.injEq]at he
          subst he
          obtain⟨h1,h2,h3⟩:=h.read hl
          have:=run_loadCells_list (P:=P) w ⟨(E b).blk,(E b).sh+o,none⟩ (l.map (fT E)) (fun j u hj=>by rw[Addr.add_lit];exact h3 j u hj)
          rw[zr,h1]at this
          refine⟨?_,by simp only[nm,jA];exact h2⟩
          simp only[loadVar,zj,zm,ze,qf hd,<-xH,ha,run_sizeOf hn,this,if_true,fT,uq]
        . cases he
      . cases he
     | false =>
      rw[ha]at he
      simp only[cond_false]at he
      split at he
      . rename_i v hu
        simp only[Option.some.injEq,XR.val.injEq]at he
        subst he
        obtain⟨h1,h2,h3⟩:=h.read hu
        have hc:=h3 0 (fT E v) s_
        refine⟨?_,by simp only[gT]at h2;omega⟩
        simp only[loadVar,zj,qf hd,<-xH,ha,ze]
        simp only[mL]at hc
        simp[load,Sem.run,hc]
      . cases he
   . cases he
 . cases he
theorem Tc(h:Rel E A w)(hs:jI A.nf σ):∀ (l:List ResultVar) (vs:List Value),uQ P n σ A l=some vs->gT vs<=A.nf/\(l.mapM (zH (Fr n (Go.Ex.slots n E σ) []).tmps)).run P w = .ok (vs.map (fT E)) w:=by
 intro l
 induction l with
 | nil=>intro vs he;cases he;exact⟨by simp[gT],s_⟩
 | cons x l ih =>
  intro vs he
  cases x with
  | tmp t =>
   simp only[uQ]at he
   split at he
   . rename_i v vs' hv hvs
     cases he
     obtain⟨h1,h2⟩:=ih vs' hvs
     have h0:=r9 (n:=n) h hs _ v hv
     refine⟨by simp only[gT,nv];exact⟨h0.2,h1⟩,?_⟩
     have:=Be (P:=P) (n:=n) (s:=Go.Ex.slots n E σ) (w:=w) (v:=fT E v) (x:=.tmp t) h0.1
     simp only[List.mapM_cons,zj,this,ze,h2,zm,z1]
   . cases he
  | cell a t =>
   simp only[uQ]at he
   split at he
   . rename_i p hp
     split at he
     . rename_i v vs' hv hvs
       cases he
       obtain⟨h1,h2⟩:=ih vs' hvs
       have h0:=r9 (n:=n) h hs _ p hp
       obtain⟨ad,h3,h4,h5⟩:=Ry (P:=P) h hv
       refine⟨by simp only[gT,nv];exact⟨h5,h1⟩,?_⟩
       have:=Be (P:=P) (n:=n) (s:=Go.Ex.slots n E σ) (w:=w) (v:=fT E v) (x:=.cell a t) ⟨ad,h0.1.trans h3,h4⟩
       simp only[List.mapM_cons,zj,this,ze,h2,zm,z1]
     . cases he
   . cases he
theorem Rr{fn:Func}{vs:List Value}(h:Rel E A w)(hs:jI A.nf σ)(he:uQ P n σ A fn.results.toList=some vs) :
 nm (qp vs)<=A.nf/\(results fn (Fr n (Go.Ex.slots n E σ) []).tmps).run P w = .ok (fT E (qp vs)) w:=by
 obtain⟨h1,h2⟩:=Tc (P:=P) h hs _ vs he
 have h3:(fn.results.mapM (zH (Fr n (Go.Ex.slots n E σ) []).tmps)).run P w = .ok (vs.map (fT E)).toArray w:=by
  rw[Array.mapM_eq_mapM_toList]
  simp[zj,h2]
 rw[F4]
 simp only[zj,h3,ze]
 cases vs with
 | nil=>exact⟨by simp[qp,nm,jA,gT],by simp[qp,fT,ko,lF]⟩
 | cons v vs =>
  cases vs with
  | nil=>exact⟨by simpa[qp,gT]using h1,by simp[qp]⟩
  | cons u vs=>exact⟨by simpa[qp,nm,jA]using h1,by simp[qp,fT,ko,lF,qT]⟩
theorem Rx{fn:Func}{tmps:Array Value}{R:Ending->World->Prop}:∀ (ds:List Nat) (A A' : AH) (w:World),vX A ds=some A' -> Rel E A w ->
 (∀ w', Rel E A' w' -> To E A w E A' w' -> ∃ v,(results fn tmps).run P w' = .ok v w' /\ R (.returned v) w')->LeavesInM (FW none) 0 P fn tmps R (nD E ds) .returning w:=by
 intro ds
 induction ds with
 | nil =>
  intro A A' w he h K
  cases he
  exact K w h (To.refl E A w)
 | cons d ds ih =>
  intro A A' w he h K
  simp only[vX]at he
  split at he
  . rename_i hg
    obtain⟨c,hc,rfl⟩:=h.obj d _ hg
    have hh:=h.I7 (w' := w.putObj (E d).blk (.deferred none)) hg rfl (gD.putObj w _ _)
    refine⟨s_,.inl ⟨(E d).blk,_,rfl,run_takeDeferred hc,?_⟩⟩
    exact ih (A.jH d) A' _ he hh.1 fun w' a b=>K w' a (hh.2.trans b)
  . cases he
theorem KG:∀ (ds:List Nat) (A A' : AH),vX A ds=some A' -> A'.nf=A.nf
 | [],A,A', h=>by cases h;rfl
 | d :: ds,A,A', h=>by
  simp only[vX]at h
  split at h
  . exact(KG ds (A.jH d) A' h).trans rfl
  . cases h
theorem Hh:∀ (vs:List Value) (i:Nat) (σ:Tr Value) (t:Nat),(uU vs i σ).get t=if i<=t/\t<i+vs.length then vs[t-i]? else σ.get t
 | [],i,σ,t=>by simp[uU];intro h;omega
 | v :: vs,i,σ,t=>by
  rw[uU,Hh vs (i+1) _ t]
  by_cases h1:i+1<=t/\t<i+1+vs.length
  . rw[if_pos h1,if_pos (by simp;omega)]
    obtain⟨k,rfl⟩:∃ k,t=i+1+k:=⟨t-(i+1),o_⟩
    rw[show i+1+k-(i+1)=k by omega,show i+1+k-i=k+1 by omega]
    simp
  . rw[if_neg h1,Tr.r7]
    by_cases h2:t=i
    . subst h2;simp
    . rw[if_neg h2,if_neg (by simp;omega)]
theorem WE{args:List Value}(hn:args.length<=n):Fr n (tG (args.map (fT E)) 0) []=Fx n E (uU args 0 .e) []:=by
 refine Dv [] fun t ht=>?_
 rw[rS,if_pos ht,Lc _ 0 t (mS _),Hh]
 simp only[wS,jN,mS,true_and,kJ]
 by_cases h:t<args.length
 . simp[h]
 . simp[h,Tr.get];rfl
theorem WS{args:List Value}{k:Nat}(h:gT args<=k):jI k (uU args 0 .e):=by
 intro t v hv
 rw[Hh]at hv
 split at hv
 . exact ku.1 h v (zh hv)
 . cases hv
theorem MA{k:Nat}:∀ (ps:List Nat) (vs:List Value) (σ:Tr Value),jI k σ->gT vs<=k->jI k (pK ps vs σ)
 | [],_,σ,h,_=>by simpa[pK]using h
 | p :: ps,[],σ,h,_=>by simpa[pK]using h
 | p :: ps,v :: vs,σ,h,hv=>by
  simp only[gT,nv]at hv
  rw[pK]
  exact MA ps vs _ (jI.put (d:=some p) h hv.1) hv.2
theorem LX(n:Nat)(E:Env):∀ (ps:List Nat) (vs:List Value) (σ:Tr Value) (s:List (Nat×Value)),(∀ t,t<n->Sx.look s t=Sx.look (Go.Ex.slots n E σ) t)->∀ t,t<n->Sx.look (pR ps (vs.map (fT E)) s) t=Sx.look (Go.Ex.slots n E (pK ps vs σ)) t
 | [],vs,σ,s,h,t,ht=>by cases vs<;>simpa[pR,pK]using h t ht
 | p :: ps,[],σ,s,h,t,ht=>by simpa[pR,pK]using h t ht
 | p :: ps,v :: vs,σ,s,h,t,ht=>by
  simp only[z1,pR,pK]
  refine LX n E ps vs _ _ (fun t ht=>?_) t ht
  simp only[vM,rS,if_pos ht,Tr.r7]
  by_cases h2:p=t
  . subst h2;simp
  . rw[if_neg h2,if_neg (Ne.symm h2),h t ht,rS,if_pos ht]
end
end Go.Ex
namespace Go.Ex
open Go Go.Sx
section
variable {P:Program} {E E' E'' : Env} {A A' A'' : AH} {w w' w'' : World} {n b:Nat} {σ σ' : Tr Value} {r:Option Nat} {o o' : AO} {ds ds' : List Nat}
def Bv(P:Program)(reg:p9):Prop:=∀ (k:Nat) (rec:Rec),tw P k rec->∀ (q:Bool) (ops:List Oper) (n:Nat) (σ:Tr Value) (A:AH) (σ' : Tr Value) (A' : AH),reg rec q ops n σ A=some (σ', A') ->
 ∀ (E:Env) (w:World) (r:Option Nat) (id:Nat),(q=true->r=none)->Rel E A w->jI A.nf σ->∀ (ds:List Deferred) (Q:Exit->Act->World->Prop),
  (∀ E' w', Rel E' A' w' -> To E A w E' A' w' -> jI A'.nf σ' -> Q .normal (Fr n (Go.Ex.slots n E' σ') ds) w')->WP r P (.region id ops.toArray true) Q (Fr n (Go.Ex.slots n E σ) ds) w
theorem Rel.other(h:Rel E A w)(hc:gD [b] w w')(hfree:∀ b1 o1,A.get b1=some o1->(E b1).blk≠b):Rel E A w' :=
 ⟨fun b1 o1 h1=>by
  obtain⟨c1,hc1,hl1⟩:=h.obj b1 o1 h1
  exact⟨c1,(hc.block _ (h.lt h1) (by simpa using hfree b1 o1 h1)).trans hc1,hl1⟩,h.inj,h.wf,h.kN,h.low⟩
theorem SI{k:Nat}{rec:Rec}{f:FuncId}{args:List Value}{v:Value}{fn:Func}{c:Code}{e:Exit}{σ:Tr Value}{vs:List Value}(hf:P.funcs[f]? = some fn)(hb:fn.body=some c)(hn:Nat.ble args.length fn.ntmps=true)
 (hc:nW P c true fn.ntmps (uU args 0 .e) [] A e σ ds A') (he:IY e=true) (hst:vX A' ds=some A'') (hres:uQ P fn.ntmps σ A'' fn.results.toList=some vs):ta P f args A (qp vs) A'' := by
 intro E w h hnm
 have hn' := za hn
 refine DL hf hb rfl (by rw[zr];exact hn) ?_
 rw[WE hn']
 refine hc E w none (fun _=>rfl) h (WS hnm) (fun d hd=>by cases hd) _ fun E' w' h' t' hs' hd' => ?_
 have key:LeavesInM (FW none) 0 P fn (Fx fn.ntmps E' σ ds).tmps (fun e w'' => ∃ v,e = .returned v/\Left E A w (qp vs) A'' v w'') (nD E' ds) .returning w' := by
  refine Rx ds A' A'' w' hst h' fun w2 h2 t2=>?_
  obtain⟨g1,g2⟩:=Rr (P:=P) (fn:=fn) (n:=fn.ntmps) h2 (by rw[KG ds A' A'' hst];exact hs') hres
  exact⟨_,g2,_,rfl,E', rfl,h2,t'.trans t2,g1⟩
 cases e<;>first|exact key|cases he
def UB(lo:AO):Exit->Bool->AO->Prop
 | .normal,b,o=>b=true/\o=lo
 | .ret,b,o=>b=false/\o = .done none
 | .exit i,b,o=>b=false/\o = .done (some i)
 | _,_,_=>False
theorem F6{l:Nat}{args ps:_}{assign body:Code}{dd n2 dd2:Nat}{σ2 σ3:Tr Value}{ps2:List Nat}{assign2 body2:Code}{e:Exit}{bb:Bool}{oo:AO}(hg:A.get l=some (.loop n σ ps assign body dd))(hlen:args.length=ps.length)
 (h1:nW P assign false n (pK ps args σ) [] A .normal σ' [] A') (hg' : A'.get l=some (.loop n2 σ2 ps2 assign2 body2 dd2)) (h2:nW P body false n σ' [] (A'.jH l) e σ3 [] A'') (hre:UB (.loop n2 σ2 ps2 assign2 body2 dd2) e bb oo) :
 HN P l args A (.bool bb) (A''.set l oo):=by
 intro E w h hl hn
 obtain⟨c,hc,fn,ds0,rfl⟩:=h.obj l _ hg
 refine⟨_,_,_,_,run_yield hc (by simpa using hlen),roundIn_of_wpIn trivial ?_⟩
 show assign.wpIn (FW (some (E l).blk)) 0 P _ { tmps:=((ps.toArray.zip (args.map (fT E)).toArray).foldl (fun(t:Array Value) (q:Nat×Value)=>t.setIfInBounds q.1 q.2) (Fr n (Go.Ex.slots n E σ) ds0).tmps),defers:=[] } w
 rw[LF (n:=n) (ds:=ds0) ps (args.map (fT E)) (Go.Ex.slots n E σ)]
 have hfr:({ tmps:=(Fr n (pR ps (args.map (fT E)) (Go.Ex.slots n E σ)) ds0).tmps,defers:=[] }:Act)=Fx n E (pK ps args σ) []:=by
  show Fr n (pR ps (args.map (fT E)) (Go.Ex.slots n E σ)) []=Fr n (Go.Ex.slots n E (pK ps args σ)) []
  exact Dv [] fun t ht=>LX n E ps args σ _ (fun _ _=>rfl) t ht
 rw[hfr]
 refine h1 E w (some (E l).blk) (fun h=>by cases h) h (MA ps args σ (h.wf l _ hg).2.1 hn) (fun d hd=>by cases hd) _ fun E1 w1 r1 t1 s1 _=>?_
 have hl1:E1 l=E l:=t1.ext l hl
 obtain⟨c1,hc1,fn1,ds1,rfl⟩:=r1.obj l _ hg'
 have hwf1:=(r1.wf l _ hg').2
 rw[hl1]at hc1
 obtain⟨bz,hbz⟩:∃ bz:Loop,bz={ state:=.busy,pending:=none,fn:=fn1,tmps:=(Fr n2 (Go.Ex.slots n2 E1 σ2) ds1).tmps,params:=ps2.toArray,assign:=assign2,body:=body2,defers:=(E1 dd2).blk }:=⟨_,rfl⟩
 refine⟨w1.putObj (E l).blk (.loop bz),by rw[hbz];exact run_beginRound hc1 rfl,?_⟩
 have hh:=r1.I7 (w' := w1.putObj (E l).blk (.loop bz)) hg' rfl (by rw[hl1];exact gD.putObj w1 _ _)
 refine h2 E1 _ (some (E l).blk) (fun h=>by cases h) hh.1 s1 (fun d hd=>by cases hd) _ fun E2 w3 r3 t3 s3 _=>?_
 have hnf1:l<A'.nf:=(r1.wf l _ hg').1
 have hl2:E2 l=E l:=(t3.ext l hnf1).trans hl1
 have hlt:(E l).blk<w1.heap.size:=by have:=r1.lt hg'; rwa [hl1]at this
 have hput:(w1.putObj (E l).blk (.loop bz)).heap[(E l).blk]? = some (.loop bz):=by simp[World.putObj,hlt]
 have hfree:∀ b1 o1,A''.get b1=some o1->(E2 b1).blk≠(E l).blk:=by
  intro b1 o1 hb1 e
  rcases t3.mine b1 o1 hb1 with ⟨c,oc,hc', he,_⟩|hs
  . rw[xu]at hc'
    split at hc'
    . cases hc'
    . rename_i hne
      exact hne (r1.inj c l oc _ hc' hg' (by rw[hl1,<-he,e]))
  . have:(E l).blk<(w1.putObj (E l).blk (.loop bz)).heap.size:=by simpa[World.putObj]using hlt
    omega
 have hc3:w3.heap[(E l).blk]? = some (.loop bz):=by
  rw[<-hput]
  refine t3.blk _ (by simpa[World.putObj]using hlt) fun b1 o1 hb1 hro e=>?_
  rw[xu]at hb1
  split at hb1
  . cases hb1
  . rename_i hne
    exact hne (r1.inj b1 l o1 _ hb1 hg' (by rw[hl1,e]))
 have hlt3:(E l).blk<w3.heap.size:=(z8.1 hc3).1
 -- the end of the round
 have fin:∀ (jump:Option Code) (o2:AO),ot E2 (E2 l) o2 (.loop { bz with state:=if jump.isNone then .ready else .done,pending:=jump })->o2.Wf A''.nf ->
  ∃ v w', (Instr.endRound (E l).blk jump).run P w3 = .ok v w' /\ ∃ v', Ending.returned v = .returned v' /\ Left E A w (.bool jump.isNone) (A''.set l o2) v' w' := by
  intro jump o2 hlies hwf
  refine⟨_,_,run_endRound jump hc3,_,rfl,E2,rfl,?_,?_,by simp[nm]⟩
  . have r4:=r3.other (gD.putObj w3 (E l).blk (.loop { bz with state:=if jump.isNone then .ready else .done,pending:=jump })) hfree
    exact r4.again (z6 hnf1 t3.nf) (fun b1 o1 hb1=>by rw[hl2];exact hfree b1 o1 hb1) (c:=.loop { bz with state:=if jump.isNone then .ready else .done,pending:=jump }) (by rw[hl2];simp[World.putObj,hlt3]) hlies hwf
  . have tt:=t1.trans (hh.2.trans t3)
    have t5:To E A w E2 A'' (w3.putObj (E l).blk (.loop { bz with state:=if jump.isNone then .ready else .done,pending:=jump })):=by
     have ch:=gD.putObj w3 (E l).blk (.loop { bz with state:=if jump.isNone then .ready else .done,pending:=jump })
     refine⟨tt.nf,tt.ext,ch.os.trans tt.os,ch.tape.trans tt.tape,ch.output.trans tt.output,z7 tt.size ch.size,fun x hx hnx=>?_,tt.mine⟩
     exact(ch.block x (z6 hx tt.size) (by simp;exact fun e=>hnx l _ hg rfl e.symm)).trans (tt.blk x hx hnx)
    exact t5.again hg hl rfl
 cases e with
 | normal =>
  obtain⟨rfl,rfl⟩:=hre
  refine fin none _ ⟨fn1,ds1,?_⟩ (hwf1.mono t3.nf)
  rw[hbz,CN t3.ext hwf1.1,t3.ext dd2 hwf1.2]
  rfl
 | ret =>
  obtain⟨rfl,rfl⟩:=hre
  exact fin (some .ret) _ ⟨_,rfl,rfl,rfl⟩ trivial
 | exit i =>
  obtain⟨rfl,rfl⟩:=hre
  exact fin (some (.exit i)) _ ⟨_,rfl,rfl,rfl⟩ trivial
 | _=>exact hre.elim
theorem SU{id:Nat}{Q:Exit->Act->World->Prop}{e:Exit}{a:Act}(he:∀ i,e ≠ .exit i)(h:Q e a w):Exit.inBlock id Q e a w:=by
 cases e<;>first|exact h|exact absurd rfl (he _)
def Va:AO->Exit->Prop
 | .loop ..,e=>e = .normal
 | .done none,e=>e = .ret
 | .done (some i),e=>e = .exit i
 | _,_=>False
theorem F5{f:FuncId}{fi ca:Array Value}{x:Operand}{ps:Array Tmp}{assign body:Code}{v:Value}(hx:l5 n σ x=some (.func (.func f) fi ca))(hen:enters P f=true)
 (hc:ta P f (fi.toList++[.func (.yield (A.nf+1)) #[] #[]]++ca.toList) ((A.add .o5).add (.loop n σ ps.toList assign body A.nf)) v A') {oo:AO} {e0:Exit} (hg:A'.get (A.nf+1)=some oo) (hre:Va oo e0) :
 nW P (.rangeFunc x ps assign body) true n σ ds A e0 σ (A.nf :: ds) (A'.jH (A.nf+1)):=by
 intro E w r hq h hs hd Q K
 have hr:=hq rfl
 subst hr
 have h0:=r9 (n:=n) h hs x _ hx
 obtain⟨fi⟩:=fi
 obtain⟨ca⟩:=ca
 have hfn:=h0.2
 simp only[nm,jA,nv]at hfn
 have hev:ev n (Go.Ex.slots n E σ) x = .func (.func f) (fi.map (fT E)).toArray (ca.map (fT E)).toArray:=by
  rw[h0.1];simp[fT,mP,ko,qT]
 refine wpIn_rangeFunc fun fn _=>?_
 have n1:=h.new (o:=.o5) (x:=⟨w.heap.size,0,0⟩) (w' := w.alloc (.deferred (some []))) (c:=.deferred (some [])) (World.alloc_heap_new w _) (zn _) rfl trivial (gD.alloc [] w _)
 have hs1:slots n (kP E A.nf ⟨w.heap.size,0,0⟩) σ=slots n E σ:=n1.2.slots hs
 have n2:=n1.1.new (o:=.loop n σ ps.toList assign body A.nf) (x:=⟨w.heap.size+1,0,0⟩) (w' := (w.alloc (.deferred (some []))).alloc (.loop ⟨.ready,none,fn,(Fx n E σ ds).tmps,ps,assign,body,w.heap.size⟩)) (c:=.loop ⟨.ready,none,fn,(Fx n E σ ds).tmps,ps,assign,body,w.heap.size⟩)
  (by have:=World.alloc_heap_new (w.alloc (.deferred (some []))) (.loop ⟨.ready,none,fn,(Fx n E σ ds).tmps,ps,assign,body,w.heap.size⟩);simpa using this) s_
  ⟨fn,nD E ds,by rw[hs1,kL];simp[Fx]⟩ ⟨hs.mono (by simp[AH.add]),by simp[AH.add]⟩ (gD.alloc [] _ _)
 have tt:=n1.2.trans n2.2
 have hnf:((A.add .o5).add (.loop n σ ps.toList assign body A.nf)).nf=A.nf+2:=rfl
 have hnf1:(A.add .o5).nf=A.nf+1:=rfl
 rw[hnf1]at n2 tt
 have hargs:(fi++[Value.func (.yield (A.nf+1)) #[] #[]]++ca).map (fT (kP (kP E A.nf ⟨w.heap.size,0,0⟩) (A.nf+1) ⟨w.heap.size+1,0,0⟩))=fi.map (fT E)++[Value.func (.yield (w.heap.size+1)) #[] #[]]++ca.map (fT E):=by
  have e1:=FU (k:=A.nf) tt.ext hfn.2.1
  have e2:=FU (k:=A.nf) tt.ext hfn.2.2
  simp only[qL,e1,e2,z1,wQ,fT,mP,kL,ko,lF]
 have hcall:=hc _ _ n2.1 (by
  rw[hnf]
  refine ku.2 fun u hu=>?_
  simp only[zq,lY]at hu
  rcases hu with (hu|hu)|hu
  . exact z7 (ku.1 hfn.2.1 u hu) o_
  . subst hu;simp[nm,jA,gT]
  . exact z7 (ku.1 hfn.2.2 u hu) o_)
 simp only[hargs]at hcall
 refine⟨w.heap.size+1,_,_,⟨.fn (.func f) (ca.map (fT E)).toArray,(fi.map (fT E)++[Value.func (.yield (w.heap.size+1)) #[] #[]]).toArray⟩,((w.alloc (.deferred (some []))).alloc (.loop ⟨.ready,none,fn,(Fx n E σ ds).tmps,ps,assign,body,w.heap.size⟩)),f,(fi.map (fT E)++[Value.func (.yield (w.heap.size+1)) #[] #[]]++ca.map (fT E)).toArray,((w.alloc (.deferred (some []))).alloc (.loop ⟨.ready,none,fn,(Fx n E σ ds).tmps,ps,assign,body,w.heap.size⟩)),run_enterLoop_outer fn _ _ _ _,?_,fun _ _=>trivial,?_,fun h=>by simp[FW]at h,?_⟩
 . have:(Fx n E σ ds).eval=ev n (Go.Ex.slots n E σ):=pe _ _ _
   rw[this]
   simp only[resolve,rangeCall,Deferred.ofValue,hev]
   simp[ev]
 . have:=C1 hen ((fi.map (fT E)++[Value.func (.yield (w.heap.size+1)) #[] #[]]++ca.map (fT E)).toArray) ((w.alloc (.deferred (some []))).alloc (.loop ⟨.ready,none,fn,(Fx n E σ ds).tmps,ps,assign,body,w.heap.size⟩))
   simp only[invoke]
   simpa using this
 . refine qQ.2 (Calls.mono hcall ?_)
   rintro e w3 ⟨v', rfl,E3,rfl,r3,t3,hv3⟩
   obtain⟨rc,jump,hc3,hst,hpd,hjump⟩:∃ (rc:Loop) (jump:Option Code),w3.heap[(E3 (A.nf+1)).blk]? = some (.loop rc)/\rc.state ≠ .busy/\rc.pending=jump /\
    (∀ (Q:Exit->Act->World->Prop) (a:Act) (w:World),Q e0 a w->match jump with|none=>Q .normal a w|some c=>c.wpIn (FW none) 0 P Q a w)/\oo.ro=false:=by
    obtain⟨c3,hc3,hlies⟩:=r3.obj _ _ hg
    cases oo with
    | loop n3 σ3 ps3 assign3 body3 dd3 =>
     obtain⟨fn3,ds3,rfl⟩:=hlies
     have hre:e0 = .normal:=hre
     subst hre
     exact⟨_,none,hc3,s_,rfl,fun Q a w h=>h,rfl⟩
    | done j =>
     obtain⟨rc,rfl,h1,h2⟩:=hlies
     cases j with
     | none =>
      have hre:e0 = .ret:=hre
      subst hre
      exact⟨rc,_,hc3,by rw[h1];simp,h2,fun Q a w h=>wpIn_ret h,rfl⟩
     | some i =>
      have hre:e0 = .exit i:=hre
      subst hre
      exact⟨rc,_,hc3,by rw[h1];simp,h2,fun Q a w h=>wpIn_exit h,rfl⟩
    | cells cs T op ro=>exact hre.elim
    | map es c=>exact hre.elim
    | uK m a b d=>exact hre.elim
    | o5=>exact hre.elim
   have hl3:E3 (A.nf+1)=⟨w.heap.size+1,0,0⟩:=by rw[t3.ext (A.nf+1) (by rw[hnf];omega),kL]
   have hd3:E3 A.nf=⟨w.heap.size,0,0⟩:=by rw[t3.ext A.nf (by rw[hnf];omega),nY _ _ o_,kL]
   rw[hl3]at hc3
   refine⟨jump,_,by rw[<-hpd];exact run_endLoop hc3 hst,?_⟩
   have hh:=r3.I7 (w' := w3.putObj (w.heap.size+1) (.loop { rc with state:=.exhausted })) hg hjump.2 (by rw[hl3];exact gD.putObj w3 _ _)
   have tall:=tt.trans (t3.trans hh.2)
   have hA:A.nf+2<=(A'.jH (A.nf+1)).nf:=(t3.trans hh.2).nf
   have:=K E3 _ hh.1 tall (hs.mono o_) (fun d hdd=>by
    simp only[zb]at hdd
    rcases hdd with rfl|hdd
    . omega
    . have:=hd d hdd;omega)
   have hfx:Fx n E3 σ (A.nf :: ds)={ Fx n E σ ds with defers:=[⟨.collected w.heap.size,#[]⟩]++(Fx n E σ ds).defers }:=by
    show Fr n (Go.Ex.slots n E3 σ) (nD E3 (A.nf :: ds))=_
    rw[tall.slots hs]
    have:nD E3 (A.nf :: ds)=⟨.collected w.heap.size,#[]⟩ :: nD E ds:=by
     simp only[nD,z1,hd3]
     congr 1
     exact tall.nD hd
    rw[this];rfl
   rw[<-hfx]
   exact hjump.1 Q _ _ this
theorem NC{F:Fence}{m:Nat}{c:Code}{Q:Exit->Act->World->Prop}{a:Act}(h:c.wpIn F m P (fun e a w=>(∀ l,e ≠ .goto l)/\Q e a w) a w):(Code.scope c).wpIn F m P Q a w:=by
 intro b k cs hro hb hr
 have h0:(lone (b.atR a (.code (.scope c) :: k)) cs w).fenced P F:=fenced_calm hb hr rfl
 have s0:Go.step P (lone (b.atR a (.code (.scope c) :: k)) cs w) = .next (lone (b.atR a (.code c :: .inScope c :: k)) cs w):=step_lone_go (by simp[stepG,stepG.exec,Frame.atR])
 have s1:∀ a w,Go.step P (lone (b.atR a (.inScope c :: k)) cs w) = .next (lone (b.atR a k) cs w):=fun a w=>step_lone_go (by simp[stepG,stepG.exec,Frame.atR])
 obtain⟨e,a₁,w₁,⟨hg,hq⟩,harr⟩:=h b (.inScope c :: k) cs hro hb hr
 cases e with
 | normal=>exact⟨.normal,a₁,w₁,hq,.head h0 s0 (StepsIn.trans harr (.one (fenced_calm hb hr rfl) (s1 _ _)))⟩
 | exit id =>
  have hx:exitTo id (.inScope c :: k)=exitTo id k:=by simp[exitTo]
  exact⟨.exit id,a₁,w₁,hq,fun k' hk=>.head h0 s0 (harr.1 k' (by rw[hx];exact hk)),
   fun hr' hk=>let ⟨k₁,h1,h2⟩:=harr.2 hr' (by rw[hx];exact hk);⟨k₁,h1,.head h0 s0 h2⟩⟩
 | goto l=>exact absurd rfl (hg l)
 | ret=>exact⟨_,a₁,w₁,hq,.of_steps (.one h0 s0) harr⟩
 | panic ch=>exact⟨_,a₁,w₁,hq,.of_steps (.one h0 s0) harr⟩
 | outgrown=>exact⟨_,a₁,w₁,hq,.of_steps (.one h0 s0) harr⟩
theorem KH{k:Nat}{rec:Rec}{reg:p9}(hreg:Bv P reg)(hrec:tw P k rec):tw P (k+1) (step P reg rec):=by
 intro j o he
 cases j with
 | call f args A =>
  simp only[step,D3]at he
  split at he
  . rename_i fn hf
    split at he
    . rename_i c hb
      cases hn:Nat.ble args.length fn.ntmps with
      | false=>rw[hn]at he;cases he
      | true =>
       rw[hn]at he
       simp only[cond_true]at he
       split at he
       . rename_i e σ ds A' hc
         cases hi:IY e with
         | false=>rw[hi]at he;cases he
         | true =>
          rw[hi]at he
          simp only[cond_true]at he
          split at he
          . rename_i A2 hst
            obtain⟨vs,hvs,e2⟩:=map_some he
            cases e2
            exact SI (k:=k) (rec:=rec) (v:=qp vs) hf hb hn (hrec _ _ hc) hi hst hvs
          . cases he
       . cases he
    . cases he
  . cases he
 | yield l args A =>
  simp only[step,Io]at he
  split at he
  . rename_i n σ ps assign body dd hg
    cases hn:Nat.beq args.length ps.length with
    | false=>rw[hn]at he;cases he
    | true =>
     rw[hn]at he
     simp only[cond_true]at he
     split at he
     . rename_i σ1 A1 h1
       split at he
       . rename_i n2 σ2 ps2 assign2 body2 dd2 hg2
         split at he
         . rename_i σ3 A3 h3
           cases he
           exact F6 hg (zt hn) (hrec _ _ h1) hg2 (hrec _ _ h3) ⟨rfl,rfl⟩
         . rename_i σ3 A3 h3
           cases he
           exact F6 hg (zt hn) (hrec _ _ h1) hg2 (hrec _ _ h3) ⟨rfl,rfl⟩
         . rename_i i σ3 A3 h3
           cases he
           exact F6 hg (zt hn) (hrec _ _ h1) hg2 (hrec _ _ h3) ⟨rfl,rfl⟩
         . cases he
       . cases he
     . cases he
  . cases he
 | rounds c q n σ ds A =>
  simp only[step,Hv]at he
  split at he
  . rename_i σ1 ds1 A1 h1
    have c1:nW P c q n σ ds A .normal σ1 ds1 A1:=hrec _ _ h1
    cases o with
    | call v A' => trivial
    | code e σ' ds' A' =>
     have c2:Hq P k c q n σ1 ds1 A1 e σ' ds' A' := hrec _ _ he
     intro E w r hq h hs hd Q K
     refine iL (c1 E w r hq h hs hd _ fun E1 w1 h1 t1 s1 d1=>?_)
     exact c2 E1 w1 r hq h1 s1 d1 Q fun E2 w2 h2 t2 s2 d2=>K E2 w2 h2 (t1.trans t2) s2 d2
  . rename_i hne
    cases o with
    | call v A' => trivial
    | code e σ' ds' A' =>
     have c1:nW P c q n σ ds A e σ' ds' A' := hrec _ _ he
     intro E w r hq h hs hd Q K
     refine iL (c1 E w r hq h hs hd _ fun E1 w1 h1 t1 s1 d1=>M1 (fun e0=>?_) (K E1 w1 h1 t1 s1 d1))
     subst e0
     exact hne _ _ _ he
 | code c q n σ ds A =>
  cases o with
  | call v A' => trivial
  | code e σ' ds' A' =>
  cases c with
  | skip =>
   cases he
   intro E w r hq h hs hd Q K
   exact sp (K E w h (To.refl E A w) hs hd)
  | region id ops draw =>
   simp only[step,su,Nw]at he
   obtain⟨p,hp,e2⟩:=map_some he
   cases e2
   intro E w r hq h hs hd Q K
   obtain⟨ops⟩:=ops
   cases draw with
   | false =>
    refine rg (S1 hrec hq _ _ _ _ _ hp E w h hs _ Q fun E1 w1 h1 t1 s1=>?_)
    have:=K E1 w1 h1 t1 s1 (hd.mono t1.nf)
    unfold Fx at this
    rw[t1.nD hd]at this
    exact this
   | true =>
    refine hreg k rec hrec q _ n σ A _ _ hp E w r id hq h hs _ Q fun E1 w1 h1 t1 s1=>?_
    have:=K E1 w1 h1 t1 s1 (hd.mono t1.nf)
    unfold Fx at this
    rw[t1.nD hd]at this
    exact this
  | seq a b =>
   simp only[step,su,P9]at he
   split at he
   . rename_i σ1 ds1 A1 h1
     have c1:nW P a q n σ ds A .normal σ1 ds1 A1:=hrec _ _ h1
     have c2:nW P b q n σ1 ds1 A1 e σ' ds' A' := hrec _ _ he
     intro E w r hq h hs hd Q K
     refine wpIn_seq (c1 E w r hq h hs hd _ fun E1 w1 h1 t1 s1 d1=>?_)
     exact c2 E1 w1 r hq h1 s1 d1 Q fun E2 w2 h2 t2 s2 d2=>K E2 w2 h2 (t1.trans t2) s2 d2
   . rename_i hne
     have c1:nW P a q n σ ds A e σ' ds' A' := hrec _ _ he
     intro E w r hq h hs hd Q K
     refine wpIn_seq (c1 E w r hq h hs hd _ fun E1 w1 h1 t1 s1 d1=>M1 (fun e0=>?_) (K E1 w1 h1 t1 s1 d1))
     subst e0
     exact hne _ _ _ he
  | cond x a b =>
   simp only[step,su,Pm]at he
   split at he
   . rename_i hx
     have c1:nW P a q n σ ds A e σ' ds' A' := hrec _ _ he
     intro E w r hq h hs hd Q K
     exact Qo (r9 h hs x _ hx).1 (c1 E w r hq h hs hd Q K)
   . rename_i hx
     have c1:nW P b q n σ ds A e σ' ds' A' := hrec _ _ he
     intro E w r hq h hs hd Q K
     exact Qi (r9 h hs x _ hx).1 (c1 E w r hq h hs hd Q K)
   . cases he
  | block id b =>
   simp only[step,su,NQ]at he
   split at he
   . rename_i i σ1 ds1 A1 h1
     have c1:nW P b q n σ ds A (.exit i) σ1 ds1 A1:=hrec _ _ h1
     cases hi:Nat.beq i id with
     | true =>
      rw[hi]at he
      cases he
      have:=zt hi
      subst this
      intro E w r hq h hs hd Q K
      exact bk (c1 E w r hq h hs hd _ fun E1 w1 h1 t1 s1 d1=>bX (K E1 w1 h1 t1 s1 d1))
     | false =>
      rw[hi]at he
      cases he
      intro E w r hq h hs hd Q K
      exact bk (c1 E w r hq h hs hd _ fun E1 w1 h1 t1 s1 d1=>EP hi (K E1 w1 h1 t1 s1 d1))
   . rename_i hne
     have c1:nW P b q n σ ds A e σ' ds' A' := hrec _ _ he
     intro E w r hq h hs hd Q K
     refine bk (c1 E w r hq h hs hd _ fun E1 w1 h1 t1 s1 d1=>SU (fun i e0=>?_) (K E1 w1 h1 t1 s1 d1))
     subst e0
     exact hne _ _ _ _ he
  | loop b =>
   simp only[step,su]at he
   have c1:Hq P k b q n σ ds A e σ' ds' A' := hrec _ _ he
   intro E w r hq h hs hd Q K
   exact sO k (c1 E w r hq h hs hd Q K)
  | scope b =>
   simp only[step,su,Oe]at he
   split at he
   . cases he
   . rename_i hne
     have c1:nW P b q n σ ds A e σ' ds' A' := hrec _ _ he
     intro E w r hq h hs hd Q K
     refine NC (c1 E w r hq h hs hd _ fun E1 w1 h1 t1 s1 d1=>⟨fun l e0=>?_,K E1 w1 h1 t1 s1 d1⟩)
     subst e0
     exact hne _ _ _ _ he
  | label l =>
   cases he
   intro E w r hq h hs hd Q K
   exact wpIn_label (K E w h (To.refl E A w) hs hd)
  | exit i =>
   cases he
   intro E w r hq h hs hd Q K
   exact xt (K E w h (To.refl E A w) hs hd)
  | ret =>
   cases he
   intro E w r hq h hs hd Q K
   exact rt (K E w h (To.refl E A w) hs hd)
  | rangeFunc x ps assign body =>
   simp only[step,su,N5]at he
   cases hq:q with
   | false=>rw[hq]at he;cases he
   | true =>
    rw[hq]at he
    simp only[cond_true]at he
    split at he
    . rename_i f fi ca hx
      cases hen:enters P f with
      | false=>rw[hen]at he;cases he
      | true =>
       rw[hen]at he
       simp only[cond_true]at he
       split at he
       . rename_i v A1 hc
         split at he
         . rename_i hg
           cases he
           exact F5 hx hen (hrec _ _ hc) hg rfl
         . rename_i hg
           cases he
           exact F5 hx hen (hrec _ _ hc) hg rfl
         . rename_i i hg
           cases he
           exact F5 hx hen (hrec _ _ hc) hg rfl
         . cases he
       . cases he
    . cases he
  | _=>simp[step,su]at he
theorem Lo{reg:p9}(hreg:Bv P reg):∀ k,tw P k (run P reg k)
 | 0=>fun j o h=>by rw[TD]at h;cases h
 | k+1=>fun j o h=>KH hreg (Lo hreg k) j o h
end
end Go.Ex
namespace Go.Sx
open Go
def yV(Q:Exit->Act->World->Prop):Exit->Act->World->Prop:=fun e a w=>(∀ l,e ≠ .goto l)/\Q e a w
section
variable {r:Option Nat} {P:Program} {Q:Exit->Act->World->Prop} {c:Code} {a:Act} {w:World} {id:Nat}
theorem scp(h:WP r P c (yV Q) a w):WP r P (.scope c) Q a w:=Go.Ex.NC h
theorem JA(h:Q .normal a w):yV Q .normal a w:=⟨fun _ e=>(by cases e),h⟩
theorem JG(h:Q .ret a w):yV Q .ret a w:=⟨fun _ e=>(by cases e),h⟩
theorem Jq{l:Nat}(h:Q .normal a w):WP r P (.label l) Q a w:=wpIn_label h
end
end Go.Sx
namespace Go.Sx
open Go
structure Bz (l:List Oper) (pre:Nat->Nat->Bool):Prop where
 back:∀ j o,l[j]? = some o->∀ i,pre j i=true->∃ e∈o.after,Region.binds .any e=true/\e.on<j/\(e.on=i\/pre e.on i=true)
 sel:∀ o∈l,rZ o.op=false
 acy:∀ j o,l[j]? = some o->∀ e∈o.after,Region.binds .any e=true->e.on<j
 nF:∀ i j x y,l[i]? = some x->l[j]? = some y->i<j->(j9 l.toArray x y=true\/j9 l.toArray y x=true)->pre j i=true
theorem Bz.sound{l:List Oper}{pre:Nat->Nat->Bool}{S:Nat->Bool}(h:Bz l pre)(hd:Down l S):∀ j,S j=true->j<l.length->∀ i,pre j i=true->S i=true:=by
 intro j
 induction j using Nat.strongRecOn with
 | _ j ih =>
  intro hS hj i hi
  obtain⟨e,he,hb,hlt,h3⟩:=h.back j _ (zk hj) i hi
  have hSe:=hd.closed j _ (zk hj) hS e he hb
  rcases h3 with rfl|h3
  . exact hSe
  . exact ih e.on hlt hSe o_ i h3
def OOb(P:Program)(ops:Array Oper)(n:Nat)(o:Oper)(s:List (Nat×Value))(Nx:Value->World->Prop)(w:World):Prop :=
 (gB ops n s o.guard=true/\mE o.op=true/\((∃ v w', (execOp (ev n s) o).run P w = .ok (.value v) w' /\ Nx v w')\/(∃ w', (execOp (ev n s) o).run P w = .ok .skip w' /\ Nx undef w') \/
  (∃ f args w', (execOp (ev n s) o).run P w = .ok (.enter f args) w' /\ CR P f args w' Nx)))
 \/ (gB ops n s o.guard=false/\Nx undef w)
structure BV (l:List Oper) (pre:Nat->Nat->Bool) (i:Nat) (S:Nat->Bool):Prop where
 self:S i=false
 nC:∀ k,pre i k=true->S k=true
 notYet:∀ k,k<l.length->pre k i=true->S k=false
 down:∀ j,S j=true->j<l.length->∀ k,pre j k=true->S k=true
section
variable {Γ:Type} {r:Option Nat} {P:Program} {Q:Exit->Act->World->Prop} {n:Nat} {ds:List Deferred} {s0:List (Nat×Value)} {l:List Oper} {pre:Nat->Nat->Bool} {V:List (Γ->Value)} {M:(Nat->Bool)->Γ->World->Prop}
theorem aaI{id:Nat}{w:World}(hm:P.follows .mixedOrders=true)(pre:Nat->Nat->Bool)(hok:Bz l pre)(V:List (Γ->Value))(hV:V.length=l.length)(M:(Nat->Bool)->Γ->World->Prop)(g0:Γ)
 (h0:M (fun _=>false) g0 w.drew)
 (hO:∀ i o v S g w,l[i]? = some o->V[i]? = some v->BV l pre i S->M S g w ->
  ∃ s', (∀ t,t<n->t∈o.looksAt l.toArray->look s' t=look (ia S 0 l (V.map (· g)) s0) t) /\
   OOb P l.toArray n o s' (fun v' w' => ∃ g', M (fun j=>S j||j==i) g' w' /\ v' = v g' /\ ∀ k u,V[k]? = some u->S k=true->u g' = u g) w)
 (hend:∀ S g w', (∀ i,i<l.length->S i=true)->M S g w' -> Q .normal (Fr n (ia (fun _=>true) 0 l (V.map (· g)) s0) ds) w'):WP r P (.region id l.toArray true) Q (Fr n s0 ds) w:=by
 have nF:=hok.nF
 refine wpIn_region_any hm ?_
 let Sof:Array Bool->Nat->Bool:=fun listed i=>listed.getD i false
 have main:∀ (fuel:Nat) (listed:Array Bool) (g:Γ) (w:World),listed.size=l.length->listed.toList.countP (! ·)<=fuel->Down l (Sof listed)->M (Sof listed) g w ->
  wpAnyIn (FW r) 0 P .any l.toArray Q fuel listed (Fr n (ia (Sof listed) 0 l (V.map (· g)) s0) ds) w:=by
  intro fuel
  have fin:∀ (listed:Array Bool) (g:Γ) (w:World),listed.size=l.length->(∀ i,i<l.length->Sof listed i=true)->M (Sof listed) g w->Q .normal (Fr n (ia (Sof listed) 0 l (V.map (· g)) s0) ds) w:=by
   intro listed g w hs hall hM
   have e2:Fr n (ia (Sof listed) 0 l (V.map (· g)) s0) ds=Fr n (ia (fun _=>true) 0 l (V.map (· g)) s0) ds:=by
    refine sj ds fun t=>?_
    rw[kF,kF]
    congr 1
    refine qP l 0 _ _ rfl fun j o hj _=>⟨?_,fun _=>rfl⟩
    rw[jN]
    exact hall j (zd.1 hj).1
   rw[e2]
   exact hend _ g w hall hM
  have allOf:∀ (listed:Array Bool),listed.size=l.length->Region.ready .any l.toArray listed=[]->∀ i,i<l.length->Sof listed i=true:=by
   intro listed hs hr i
   induction i using Nat.strongRecOn with
   | _ i ih =>
    intro hi
    cases hc:Sof listed i with
    | true=>rfl
    | false =>
     exfalso
     have:i∈Region.ready .any l.toArray listed:=by
      rw[mem_ready]
      refine⟨?_,l[i],by simp[hi],fun e he hb=>?_⟩
      . have:i<listed.size:=by omega
        simp only[Sof]at hc
        simp[this]at hc ⊢
        exact hc
      . have h2:=hok.acy i _ (zk hi) e (by simpa using he) hb
        exact ih e.on h2 o_
     rw[hr]at this
     cases this
  induction fuel with
  | zero =>
   intro listed g w hs hc hd hM
   have hz:∀ x∈listed.toList,x=true:=by
    intro x hx
    have:=zJ.1 (Nat.le_zero.1 hc) x hx
    simpa using this
   have hall:∀ i,i<l.length->Sof listed i=true:=by
    intro i hi
    have hi' : i<listed.size:=by omega
    simp only[Sof]
    simp[hi']
    exact hz _ s_
   refine⟨?_,fin listed g w hs hall hM⟩
   cases hr:Region.ready .any l.toArray listed with
   | nil=>rfl
   | cons i rs =>
    have:i∈Region.ready .any l.toArray listed:=by rw[hr];simp
    rw[mem_ready]at this
    obtain⟨h1,o,ho,_⟩:=this
    have hi:i<l.length:=by simpa using(z8.1 ho).1
    have:=hall i hi
    simp only[Sof]at this
    have hi' : i<listed.size:=by omega
    simp[hi']at h1 this
    rw[h1]at this
    cases this
  | succ fuel ih =>
   intro listed g w hs hc hd hM
   refine⟨fun hr=>fin listed g w hs (allOf listed hs hr) hM,fun i hi=>?_⟩
   obtain⟨hun,o,ho,hed⟩:=mem_ready.1 hi
   have ho' : l[i]? = some o:=by simpa using ho
   have hil:i<l.length:=(zd.1 ho').1
   have hil' : i<listed.size:=by omega
   have hSi:Sof listed i=false:=by
    simp only[Sof];simp[hil']at hun ⊢;exact hun
   let S:=Sof listed
   let S' := Sof (listed.setIfInBounds i true)
   have hSi:S i=false:=hSi
   have hd:Down l S:=hd
   have hS' : ∀ j,S' j=(S j||j==i):=fun j=>GL listed i j hil'
   have hd' : Down l S' := ⟨fun j oj hj hSj e he hb=>by
    rw[hS']at hSj ⊢
    rcases qI.1 hSj with h|h
    . rw[show S e.on=true from hd.closed j oj hj h e he hb];rfl
    . have:j=i:=by simpa using h
      subst this
      have:oj=o:=Option.some.inj (hj.symm.trans ho')
      subst this
      rw[show S e.on=true from hed e he hb];rfl⟩
   have hps:=fun j=>hok.sound (S:=S) hd j
   have hps' := fun j=>hok.sound (S:=S') hd' j
   have notYet:∀ k,k<l.length->pre k i=true->S k=false:=by
    intro k hk hki
    cases hSk:S k with
    | false=>rfl
    | true=>have:=hps k hSk hk i hki;rw[hSi]at this;cases this
   have nC:∀ k,pre i k=true->S k=true:=by
    intro k hk
    have h1:=hps' i (by rw[hS'];simp) hil k hk
    rw[hS']at h1
    rcases qI.1 h1 with h|h
    . exact h
    . exfalso
      have e:k=i:=by simpa using h
      subst e
      have:=notYet k hil hk
      obtain⟨e,he,hb,hlt,h3⟩:=hok.back k _ (zk hil) k hk
      have hSe:S e.on=true:=by
       have:l[k]=o:=by rw[zk hil]at ho'; exact Option.some.inj ho'
       rw[this]at he
       exact hed e (by simpa using he) hb
      rcases h3 with h3|h3
      . omega
      . have:=hps e.on hSe o_ k h3
        rw[hSi]at this;cases this
   obtain⟨v,hv⟩:∃ v,V[i]? = some v:=⟨V[i]'o_,zk o_⟩
   obtain⟨s', agree', hob⟩:=hO i o v S g w ho' hv ⟨hSi,nC,notYet,fun j hj hjl k hk=>hps j hj hjl k hk⟩ hM
   have agree:∀ t,t∈o.looksAt l.toArray->ev n (ia S 0 l (V.map (· g)) s0) (.tmp t)=ev n s' (.tmp t):=fun t ht=>by
    by_cases hn:t<n
    . simp only[ev,r6 hn,cond_true];exact(agree' t hn ht).symm
    . simp only[ev,AI hn,cond_false]
   have hev:execOp (ev n (ia S 0 l (V.map (· g)) s0)) o=execOp (ev n s') o:=by
    refine execOp_congr o (fun cs b e=>?_) fun x hx=>?_
    . have:=hok.sel o (zh ho')
      rw[e]at this
      simp[rZ]at this
    . cases x with
      | tmp t =>
       rw[agree t (ve _ (Cq.2 ⟨.tmp t,by simpa using hx,rfl⟩))]
      | _=>rfl
   have htk:gB l.toArray n (ia S 0 l (V.map (· g)) s0) o.guard=gB l.toArray n s' o.guard:=by
    cases hg:o.guard with
    | none=>rfl
    | some gd =>
     obtain⟨jg,want⟩:=gd
     simp only[gB]
     have e:qZ l.toArray.toList jg=(l.toArray[jg]?).bind (·.dst):=by rw[C8];simp
     rw[e]
     cases hdg:(l.toArray[jg]?).bind (·.dst)with
     | none=>rfl
     | some d =>
      simp only
      rw[agree d (vE _ (by rw[hg];simp only;rw[hdg];simp))]
   have hcnt:(listed.setIfInBounds i true).toList.countP (! ·)<=fuel:=by
    have:(listed.setIfInBounds i true).toList.countP (! ·)+1<=listed.toList.countP (! ·):=by
     rw[Ff]
     have hil2:i<listed.toList.length:=by simpa using hil'
     have hfalse:listed.toList[i]=false:=by simp[hil']at hun;simpa using hun
     have e:=vk i listed.toList
     have e2:listed.toList=listed.toList.take i++false :: listed.toList.drop (i+1):=by
      conv=>lhs;rw[<-e,wY hil2,hfalse]
     have e3:listed.toList.set i true=listed.toList.take i++true :: listed.toList.drop (i+1):=by
      rw[EV,if_pos hil2]
     rw[e3]
     conv=>rhs;rw[e2]
     simp[List.countP_append,tO]
     omega
    omega
   have frame:∀ (g' : Γ) (v:Γ->Value),V[i]? = some v->(∀ k u,V[k]? = some u->S k=true->u g' = u g) ->
    (Fr n (ia S 0 l (V.map (· g)) s0) ds).put o.dst (v g')=Fr n (ia S' 0 l (V.map (· g')) s0) ds:=by
    intro g' v hv hst
    rw[uz]
    refine sj ds fun t=>?_
    rw[CX,kF,kF]
    by_cases hdt:o.dst=some t
    . rw[if_pos hdt]
      have:l8 S' t 0 l (V.map (· g'))=some (v g'):=by
       refine C3 l 0 i _ o (v g') ho' hdt (by simp[hv]) (by rw[jN,hS'];simp) fun j oj hij hj hdj=>?_
       rw[jN,hS']
       have hto:j9 l.toArray o oj=true:=by simp[j9,hdt,hdj]
       have:=notYet j (zd.1 hj).1 (nF i j o oj ho' hj hij (.inl hto))
       simp[this];omega
      rw[this];rfl
    . rw[if_neg hdt]
      congr 1
      refine qP l 0 _ _ s_ fun j oj hj hdj=>?_
      rw[jN,hS']
      have hji:¬ j=i:=by
       rintro rfl
       have:oj=o:=Option.some.inj (hj.symm.trans ho')
       subst this
       exact hdt hdj
      refine⟨by simp[hji],fun hSj=>?_⟩
      have hjl:j<V.length:=by have:=(zd.1 hj).1;omega
      simp only[kJ,zk hjl,nu]
      rw[hst j _ (zk hjl) hSj]
   have next:∀ v' w', (∃ g', M (fun j=>S j||j==i) g' w' /\ v' = v g' /\ ∀ k u,V[k]? = some u->S k=true->u g' = u g) ->
    wpAnyIn (FW r) 0 P .any l.toArray Q fuel (listed.setIfInBounds i true) ((Fr n (ia S 0 l (V.map (· g)) s0) ds).put o.dst v') w' := by
    rintro v' w' ⟨g', hM2,rfl,hstab⟩
    have hSe:Sof (listed.setIfInBounds i true)=fun j=>S j||j==i:=funext hS'
    have:=ih (listed.setIfInBounds i true) g' w' (by simpa using hs) hcnt hd' (by rw[hSe];exact hM2)
    rw[frame g' v hv hstab]
    exact this
   unfold wpOpIn
   rw[ho]
   simp only
   rcases hob with ⟨ht,hnd,hcase⟩|⟨ht,hN⟩
   . rw[mX,htk,ht,if_pos rfl]
     refine⟨fun _ _=>trivial,?_⟩
     rw[semAt_eq (sX hnd),pe, hev]
     rcases hcase with ⟨v', w', hr,hN⟩|⟨w', hr,hN⟩|⟨f,args,w', hr,hC⟩
     . rw[hr];exact next v' w' hN
     . rw[hr];exact next undef w' hN
     . rw[hr]
       refine⟨fun h=>by simp[FW]at h,qQ.2 (Calls.mono hC ?_)⟩
       rintro e w' ⟨v', rfl,he⟩
       exact next v' w' he
   . rw[mX,htk,ht]
     exact⟨fun _ _=>trivial,next undef w hN⟩
 have e0:Fr n s0 ds=Fr n (ia (Sof (Array.replicate l.toArray.size false)) 0 l (V.map (· g0)) s0) ds:=by
  refine sj ds fun t=>?_
  rw[kF,vL l 0 _ (fun j o _ _=>?_)]
  . rfl
  . simp only[Sof];exact uu _ _
 have hS0:Sof (Array.replicate l.toArray.size false)=fun _=>false:=funext fun j=>uu _ _
 rw[e0]
 refine main _ _ g0 _ s_ (z7 JU s_) ⟨fun j o _ h=>?_⟩ (by rw[hS0];exact h0)
 exfalso
 rw[hS0]at h
 cases h
end
end Go.Sx
namespace Go.Sx
open Go
section
variable {r:Option Nat} {P:Program} {ops:Array Oper} {Q:Exit->Act->World->Prop} {rest:List Oper} {n:Nat} {s:List (Nat×Value)} {ds:List Deferred} {w:World}
variable {d:Nat} {dd:Option Nat} {ty t:TypeId} {pos:String} {af:Array Edge} {g:Option (Nat×Bool)} {x:Operand} {cs:Array Value} {v:Value} {i:Nat} {u:TypeDesc}
theorem MM{fs:Array Field}{f:Field}(hx:ev n s x = .agg cs)(ht:P.underlying t=some (.struct fs))(hf:fs[i]? = some f)(he:P.underlying f.type=some u)(hn:kQ u=false)(hv:cs[f.offset]? = some v) :
 (execOp (ev n s) ⟨dd,.field t x i,ty,pos,af,g⟩).run P w = .ok (.value v) w:=by
 simp[execOp,hx,Instr.field,asAgg,run_underlying ht,hf,part,qf he,hn,hv]
theorem XS{fs:Array Field}{f:Field}(hg:gB ops n s g=true)(hx:ev n s x = .agg cs)(ht:P.underlying t=some (.struct fs))(hf:fs[i]? = some f)(he:P.underlying f.type=some u)(hn:kQ u=false)(hv:cs[f.offset]? = some v)
 (K:WL r P ops Q rest (Fr n ((d,v) :: s) ds) w):WL r P ops Q (⟨some d,.field t x i,ty,pos,af,g⟩ :: rest) (Fr n s ds) w:=pv hg rfl (MM hx ht hf he hn hv) K
end
end Go.Sx
namespace Go.Sx
open Go
section
variable {r:Option Nat} {P:Program} {ops:Array Oper} {Q:Exit->Act->World->Prop} {rest:List Oper} {n:Nat} {s:List (Nat×Value)} {ds:List Deferred} {w:World}
variable {d:Nat} {dd:Option Nat} {ty t t' e:TypeId} {pos:String} {af:Array Edge} {g:Option (Nat×Bool)} {x y:Operand} {a:Option Addr} {c:Bool}
theorem Ka(k:Nat)(ht:P.underlying t=some (.pointer e)):(Op.equalIn (k+1) t (.pointer a) (.pointer none)).run P w = .ok a.isNone w:=by
 cases a<;>simp[Op.equalIn,run_underlying ht]
theorem ZM(hx:ev n s x = .pointer a)(hy:ev n s y = .pointer none)(ht:P.underlying t=some (.pointer e))(hc:a.isNone=c) :
 (execOp (ev n s) ⟨dd,.binOp .eql t x y t', ty,pos,af,g⟩).run P w = .ok (.value (.bool c)) w:=by
 subst hc
 simp[execOp,hx,hy,eqGuard,binOp,Op.equal,Op.maxDepth,Ka 9999 ht]
theorem B2(hg:gB ops n s g=true)(hx:ev n s x = .pointer a)(hy:ev n s y = .pointer none)(ht:P.underlying t=some (.pointer e))(hc:a.isNone=c)
 (K:WL r P ops Q rest (Fr n ((d,.bool c) :: s) ds) w):WL r P ops Q (⟨some d,.binOp .eql t x y t', ty,pos,af,g⟩ :: rest) (Fr n s ds) w:=pv hg rfl (ZM hx hy ht hc) K
theorem aao(hx:ev n s x = .pointer a)(hy:ev n s y = .pointer none)(ht:P.underlying t=some (.pointer e))(hc:(!a.isNone)=c) :
 (execOp (ev n s) ⟨dd,.binOp .neq t x y t', ty,pos,af,g⟩).run P w = .ok (.value (.bool c)) w:=by
 subst hc
 simp[execOp,hx,hy,eqGuard,binOp,Op.equal,Op.maxDepth,Ka 9999 ht]
theorem ow(hg:gB ops n s g=true)(hx:ev n s x = .pointer a)(hy:ev n s y = .pointer none)(ht:P.underlying t=some (.pointer e))(hc:(!a.isNone)=c)
 (K:WL r P ops Q rest (Fr n ((d,.bool c) :: s) ds) w):WL r P ops Q (⟨some d,.binOp .neq t x y t', ty,pos,af,g⟩ :: rest) (Fr n s ds) w:=pv hg rfl (aao hx hy ht hc) K
end
section
variable {P:Program} {n:Nat} {s:List (Nat×Value)} {w w0:World} {fn:Func} {bs:List (World×List Nat)} {L:List gi} {x:ResultVar} {v:Value} {b:Nat} {T:TypeId} {cs:List Value}
theorem St.IU(h:St bs L w)(hb:(w0,[])∈bs)(h0:(blk b T cs).holds w0):(blk b T cs).holds w :=
 (h.keep hb (z8.1 h0).1 s_).trans h0
end
end Go.Sx
namespace Go.Sx
open Go
def Ji(P:Program):List (Nat×TypeDesc)->Prop
 | []=>True
 | p :: l=>P.underlying p.1=some p.2/\Ji P l
def allI(P:Program):List (Nat×Nat×Nat×Value)->Prop
 | []=>True
 | p :: l=>TI P p.1 p.2.1 p.2.2.1 p.2.2.2/\allI P l
class TT (P:Program) where
 mx:P.follows .mixedOrders=true
 u:List (Nat×TypeDesc)
 i:List (Nat×Nat×Nat×Value)
 nr:Ji P u
 qD:allI P i
def jO{α:Type}:List (Nat×α)->Nat->Option α
 | [],_=>none
 | p :: l,t=>bif Nat.beq p.1 t then some p.2 else jO l t
theorem mN{P:Program}:∀ {l:List (Nat×TypeDesc)} {t:Nat} {u:TypeDesc},Ji P l->jO l t=some u->P.underlying t=some u
 | [],_,_,_,h=>by simp[jO]at h
 | p :: l,t,u,hl,h=>by
  simp only[jO]at h
  cases hb:Nat.beq p.1 t with
  | true=>rw[hb]at h;simp at h;rw[<-zt hb,<-h];exact hl.1
  | false=>rw[hb]at h;exact mN hl.2 h
theorem pn{P:Program}:∀ {l:List (Nat×Nat×Nat×Value)} {t a b:Nat} {z:Value},allI P l->jO l t=some (a,b,z)->TI P t a b z
 | [],_,_,_,_,_,h=>by simp[jO]at h
 | p :: l,t,a,b,z,hl,h=>by
  simp only[jO]at h
  cases hb:Nat.beq p.1 t with
  | true=>rw[hb]at h;simp at h;have h1:=hl.1;rw[h,zt hb]at h1;exact h1
  | false=>rw[hb]at h;exact pn hl.2 h
section
variable {P:Program}
structure SL (T:TT P) (J:World->Prop) (bs:List (World×List Nat)) (L:List gi) (N:Nat) (r:Option Nat) (ops:Array Oper) (Q:Exit->Act->World->Prop) (l:List Oper) (a:Act):Prop where
 out:∀ w,J w->St bs L w->WL r P ops Q l a w
structure SP (T:TT P) (J:World->Prop) (bs:List (World×List Nat)) (L:List gi) (N:Nat) (r:Option Nat) (Q:Exit->Act->World->Prop) (c:Code) (a:Act):Prop where
 out:∀ w,J w->St bs L w->WP r P c Q a w
structure SQ (T:TT P) (J:World->Prop) (bs:List (World×List Nat)) (L:List gi) (N:Nat) (r:Option Nat) (Q:Exit->Act->World->Prop) (e:Exit) (a:Act):Prop where
 out:∀ w,J w->St bs L w->Q e a w
def Kc(r:Option Nat)(P:Program)(Y:Code)(Q:Exit->Act->World->Prop):Act->World->Prop:=fun a w=>WP r P Y Q a w
variable {T:TT P} {J:World->Prop} {bs:List (World×List Nat)} {L L' : List gi} {r:Option Nat} {ops:Array Oper} {Q:Exit->Act->World->Prop} {rest:List Oper} {n:Nat} {s:List (Nat×Value)} {ds:List Deferred} {w w' w0:World}
variable {N d i j:Nat} {ty t:TypeId} {pos:String} {af:Array Edge} {g:Option (Nat×Bool)} {v u:Value} {x y z:Operand} {X Y:Code} {a:Act} {K' : Act->World->Prop} {l:List Oper}
theorem SP.sq(K:SP T J bs L N r (Exit.then (Kc r P Y Q) Q) X a):SP T J bs L (N+1) r Q (.seq X Y) a:=⟨fun w j h=>wpIn_seq (K.out w j h)⟩
theorem SP.rg{id:Nat}(K:SL T J bs L N r l.toArray Q l (Fr n s ds)):SP T J bs L (N+1) r Q (.region id l.toArray false) (Fr n s ds):=⟨fun w j h=>Go.Sx.rg (K.out w j h)⟩
theorem SP.cT{c:Operand}(K:SP T J bs L N r Q X (Fr n s ds))(hc:ev n s c = .bool true:=by exact rfl):SP T J bs L (N+1) r Q (.cond c X Y) (Fr n s ds):=⟨fun w j h=>Qo hc (K.out w j h)⟩
theorem SP.cF{c:Operand}(K:SP T J bs L N r Q Y (Fr n s ds))(hc:ev n s c = .bool false:=by exact rfl):SP T J bs L (N+1) r Q (.cond c X Y) (Fr n s ds):=⟨fun w j h=>Qi hc (K.out w j h)⟩
theorem SP.bk{id:Nat}(K:SP T J bs L N r (Exit.inBlock id Q) X (Fr n s ds)):SP T J bs L (N+1) r Q (.block id X) (Fr n s ds):=⟨fun w j h=>Go.Sx.bk (K.out w j h)⟩
theorem SP.sp(K:SQ T J bs L N r Q .normal (Fr n s ds)):SP T J bs L (N+1) r Q .skip (Fr n s ds):=⟨fun w j h=>Go.Sx.sp (K.out w j h)⟩
theorem SP.xt{id:Nat}(K:SQ T J bs L N r Q (.exit id) (Fr n s ds)):SP T J bs L (N+1) r Q (.exit id) (Fr n s ds):=⟨fun w j h=>Go.Sx.xt (K.out w j h)⟩
theorem SP.rt(K:SQ T J bs L N r Q .ret (Fr n s ds)):SP T J bs L (N+1) r Q .ret (Fr n s ds):=⟨fun w j h=>Go.Sx.rt (K.out w j h)⟩
theorem SQ.tN(K:SP T J bs L N r Q Y a):SQ T J bs L (N+1) r (Exit.then (Kc r P Y Q) Q) .normal a:=⟨fun w j h=>K.out w j h⟩
theorem SQ.tX(K:SQ T J bs L N r Q (.exit j) a):SQ T J bs L (N+1) r (Exit.then K' Q) (.exit j) a:=⟨fun w j h=>K.out w j h⟩
theorem SQ.tR(K:SQ T J bs L N r Q .ret a):SQ T J bs L (N+1) r (Exit.then K' Q) .ret a:=⟨fun w j h=>K.out w j h⟩
theorem SQ.bN(K:SQ T J bs L N r Q .normal a):SQ T J bs L (N+1) r (Exit.inBlock i Q) .normal a:=⟨fun w j h=>K.out w j h⟩
theorem SQ.bR(K:SQ T J bs L N r Q .ret a):SQ T J bs L (N+1) r (Exit.inBlock i Q) .ret a:=⟨fun w j h=>K.out w j h⟩
theorem SQ.bX(K:SQ T J bs L N r Q .normal a):SQ T J bs L (N+1) r (Exit.inBlock i Q) (.exit i) a:=⟨fun w j h=>Go.Sx.bX (K.out w j h)⟩
theorem SQ.EP(K:SQ T J bs L N r Q (.exit j) a)(hne:Nat.beq j i=false:=by exact rfl):SQ T J bs L (N+1) r (Exit.inBlock i Q) (.exit j) a:=⟨fun w j h=>Go.Sx.EP hne (K.out w j h)⟩
theorem SQ.JA(K:SQ T J bs L N r Q .normal a):SQ T J bs L (N+1) r (yV Q) .normal a:=⟨fun w j h=>Go.Sx.JA (K.out w j h)⟩
theorem SQ.JG(K:SQ T J bs L N r Q .ret a):SQ T J bs L (N+1) r (yV Q) .ret a:=⟨fun w j h=>Go.Sx.JG (K.out w j h)⟩
theorem SP.scp(K:SP T J bs L N r (yV Q) X a):SP T J bs L (N+1) r Q (.scope X) a:=⟨fun w j h=>Go.Sx.scp (K.out w j h)⟩
theorem SP.Jq{l:Nat}(K:SQ T J bs L N r Q .normal a):SP T J bs L (N+1) r Q (.label l) a:=⟨fun w j h=>Go.Sx.Jq (K.out w j h)⟩
theorem SL.nil(K:SQ T J bs L N r Q .normal (Fr n s ds)):SL T J bs L (N+1) r ops Q [] (Fr n s ds):=⟨fun w j h=>NL (K.out w j h)⟩
theorem SL.sk{op:Op}{g:Nat×Bool}(K:SL T J bs L N r ops Q rest (Fr n ((d,undef) :: s) ds))(hg:gB ops n s (some g)=false:=by exact rfl):SL T J bs L (N+1) r ops Q (⟨some d,op,ty,pos,af,some g⟩ :: rest) (Fr n s ds):=⟨fun w j h=>Go.Sx.sk hg (K.out w j h)⟩
theorem wM{R:gi}{L:List gi}:(R :: L)[0]? = some R:=rfl
theorem xg{R A0:gi}{L:List gi}:(A0 :: R :: L)[1]? = some R:=rfl
theorem qb{R A0 A1:gi}{L:List gi}:(A0 :: A1 :: R :: L)[2]? = some R:=rfl
theorem p6{R A0 A1 A2:gi}{L:List gi}:(A0 :: A1 :: A2 :: R :: L)[3]? = some R:=rfl
theorem wH{R A0 A1 A2 A3:gi}{L:List gi}:(A0 :: A1 :: A2 :: A3 :: R :: L)[4]? = some R:=rfl
theorem wT{R A0 A1 A2 A3 A4:gi}{L:List gi}:(A0 :: A1 :: A2 :: A3 :: A4 :: R :: L)[5]? = some R:=rfl
theorem aaF{k:IntKind}{a:Int}:(Value.int k a).cells.toList=[Value.int k a]:=rfl
theorem aae{a:Bool}:(Value.bool a).cells.toList=[Value.bool a]:=rfl
theorem aa6{a:Option Addr}:(Value.pointer a).cells.toList=[Value.pointer a]:=rfl
theorem aaQ{l:List Value}:(Value.agg l.toArray).cells.toList=l:=by simp[Value.cells]
def yI:List Value->Nat->(List Value->Option (List Value))->Option (List Value)
 | _,0,k=>k []
 | v :: l,m+1,k=>yI l m fun r=>k (v :: r)
 | [],_+1,_=>none
def sub' (l:List Value)(o m:Nat):Option (List Value):=yI (l.drop o) m some
theorem GG:∀ (l:List Value) (m:Nat) (k:List Value->Option (List Value)),yI l m k=if m<=l.length then k (l.take m)else none
 | l,0,k=>by simp[yI]
 | v :: l,m+1,k=>by simp[yI,GG l m]
 | [],m+1,k=>by simp[yI]
theorem GY{l vs:List Value}{o m:Nat}(h:sub' l o m=some vs):vs.length=m:=by
 unfold sub' at h
 rw[GG]at h
 split at h
 . rename_i h1
   simp at h
   rw[<-h,kD]
   omega
 . cases h
theorem MY{l vs:List Value}{o m:Nat}(h:sub' l o m=some vs):(l.drop o).take vs.length=vs:=by
 rw[GY h]
 unfold sub' at h
 rw[GG]at h
 split at h
 . simpa using h
 . cases h
theorem SL.mv  (K:SL T J bs L N r ops Q rest (Fr n ((d,v) :: s) ds)) (hx:ev n s x=v:=by conv=>lhs;whnf) (hg:gB ops n s g=true:=by exact rfl):SL T J bs L (N+1) r ops Q (⟨some d,.move x,ty,pos,af,g⟩ :: rest) (Fr n s ds):=⟨fun w j h=>pv hg rfl (iD hx) (K.out w j h)⟩
theorem SL.fa{i b o o' szf byf:Nat}{zf:Value}{fields:Array Field}{f:Field}(K:SL T J bs L N r ops Q rest (Fr n ((d,.pointer (some ⟨b,o', none⟩)) :: s) ds))(hx:ev n s x = .pointer (some ⟨b,o,none⟩):=by exact rfl)(hT:jO T.u t=some (.struct fields):=by exact rfl)(hf:fields[i]? = some f:=by exact rfl)(ht:jO T.i f.type=some (szf+1,byf,zf):=by exact rfl)(ho:o+f.offset=o' := by conv=>lhs;whnf)(hg:gB ops n s g=true:=by exact rfl):SL T J bs L (N+1) r ops Q (⟨some d,.fieldAddr t x i,ty,pos,af,g⟩ :: rest) (Fr n s ds):=⟨fun w j h=>pv hg rfl (jL hx (mN T.nr hT) hf (pn T.qD ht) ho) (K.out w j h)⟩
theorem SL.ld{b o i:Nat}{Tb:TypeId}{cs:List Value}{ud:TypeDesc}(K:SL T J bs L N r ops Q rest (Fr n ((d,v) :: s) ds))(hx:ev n s x = .pointer (some ⟨b,o,none⟩):=by exact rfl)(hT:jO T.u t=some ud:=by exact rfl)(hn:kQ ud=false:=by exact rfl)(hi:L[i]? = some (blk b Tb cs):=by first|exact wM|exact xg|exact qb|exact p6|exact wH|exact wT|exact at6|exact at7)(hv:cs[o]? = some v:=by exact rfl)(hg:gB ops n s g=true:=by exact rfl):SL T J bs L (N+1) r ops Q (⟨some d,.load t x,ty,pos,af,g⟩ :: rest) (Fr n s ds):=⟨fun w j h=>pv hg rfl (gZ hx (mN T.nr hT) hn (h.xI hi hv)) (K.out w j h)⟩
theorem SL.E6{b o:Nat}{Tb:TypeId}{cs:List Value}{ud:TypeDesc}(K:SL T J bs L N r ops Q rest (Fr n ((d,v) :: s) ds))(hx:ev n s x = .pointer (some ⟨b,o,none⟩):=by exact rfl)(hT:jO T.u t=some ud:=by exact rfl)(hn:kQ ud=false:=by exact rfl)(hi:(blk b Tb cs).holds w0:=by assumption)(hb:(w0,[])∈bs:=by simp)(hv:cs[o]? = some v:=by exact rfl)(hg:gB ops n s g=true:=by exact rfl):SL T J bs L (N+1) r ops Q (⟨some d,.load t x,ty,pos,af,g⟩ :: rest) (Fr n s ds):=⟨fun w j h=>pv hg rfl (gZ hx (mN T.nr hT) hn (St.HZ h hb hi hv)) (K.out w j h)⟩
theorem SL.tQ  (K:SL T J bs L N r ops Q rest (Fr n ((d,v) :: s) ds)) (hx:ev n s x=v:=by conv=>lhs;whnf) (hg:gB ops n s g=true:=by exact rfl):SL T J bs L (N+1) r ops Q (⟨some d,.assign x,ty,pos,af,g⟩ :: rest) (Fr n s ds):=⟨fun w j h=>pv hg rfl (tB hx) (K.out w j h)⟩
theorem SL.q8{p:Addr}(K:SL T J bs L N r ops Q rest (Fr n ((d,.pointer (some p)) :: s) ds))(hx:ev n s x = .pointer (some p):=by exact rfl)(hg:gB ops n s g=true:=by exact rfl):SL T J bs L (N+1) r ops Q (⟨some d,.nilCheck x,ty,pos,af,g⟩ :: rest) (Fr n s ds):=⟨fun w j h=>pv hg rfl (jY hx) (K.out w j h)⟩
theorem SL.cmp{op:BinOp}{t' : TypeId}{k:IntKind}{a b:Int}{c:Bool}(K:SL T J bs L N r ops Q rest (Fr n ((d,.bool c) :: s) ds))(hx:ev n s x = .int k a:=by exact rfl)(hy:ev n s y = .int k b:=by exact rfl)(hc:jQ op a b=some c:=by first|exact sF (by first|assumption|decide)|exact Br (by first|assumption|decide)|exact wD (by first|assumption|decide)|exact nE (by first|assumption|decide)|exact zC (by first|assumption|decide)|exact It (by first|assumption|decide)|exact Ey (by first|assumption|decide)|exact n9 (by first|assumption|decide)|exact c_gt (by first|assumption|decide)|exact tv (by first|assumption|decide)|exact pS (by first|assumption|decide)|exact uH (by first|assumption|decide))(hg:gB ops n s g=true:=by exact rfl):SL T J bs L (N+1) r ops Q (⟨some d,.binOp op t x y t', ty,pos,af,g⟩ :: rest) (Fr n s ds):=⟨fun w j h=>pv hg rfl (mz hx hy hc) (K.out w j h)⟩
theorem SL.ar{op:BinOp}{t' : TypeId}{k:IntKind}{a b c e:Int}(K:SL T J bs L N r ops Q rest (Fr n ((d,.int k e) :: s) ds))(hx:ev n s x = .int k a:=by exact rfl)(hy:ev n s y = .int k b:=by exact rfl)(hc:Ax op a b=some c:=by exact rfl)(hw:k.wrap c=e:=by first|exact iV o_|exact uV o_|exact w8u o_|exact w32u o_)(hg:gB ops n s g=true:=by exact rfl):SL T J bs L (N+1) r ops Q (⟨some d,.binOp op t x y t', ty,pos,af,g⟩ :: rest) (Fr n s ds):=⟨fun w j h=>pv hg rfl (kG hx hy hc hw) (K.out w j h)⟩
theorem SL.ex{i:Nat}{vs:Array Value}(K:SL T J bs L N r ops Q rest (Fr n ((d,v) :: s) ds))(hx:ev n s x = .tuple vs:=by exact rfl)(hv:vs[i]? = some v:=by exact rfl)(hg:gB ops n s g=true:=by exact rfl):SL T J bs L (N+1) r ops Q (⟨some d,.extract x i,ty,pos,af,g⟩ :: rest) (Fr n s ds):=⟨fun w j h=>pv hg rfl (BF hx hv) (K.out w j h)⟩
theorem SL.rA{b o i sz by_:Nat}{zv:Value}{Tb:TypeId}{cs vs:List Value}{ud:TypeDesc}(K:SL T J bs L N r ops Q rest (Fr n ((d,.agg vs.toArray) :: s) ds))(hx:ev n s x = .pointer (some ⟨b,o,none⟩):=by exact rfl)(hT:jO T.u t=some ud:=by exact rfl)(hn:kQ ud=true:=by exact rfl)(ht:jO T.i t=some (sz,by_,zv):=by exact rfl)(hi:L[i]? = some (blk b Tb cs):=by first|exact wM|exact xg|exact qb|exact p6|exact wH|exact wT|exact at6|exact at7)(hv:sub' cs o sz=some vs:=by exact rfl)(hg:gB ops n s g=true:=by exact rfl):SL T J bs L (N+1) r ops Q (⟨some d,.load t x,ty,pos,af,g⟩ :: rest) (Fr n s ds):=⟨fun w j h=>pv hg rfl (uF hx (mN T.nr hT) hn (pn T.qD ht) (GY hv) (h.G4 hi (MY hv))) (K.out w j h)⟩
theorem SL.not{b:Bool}(K:SL T J bs L N r ops Q rest (Fr n ((d,.bool !b) :: s) ds))(hx:ev n s x = .bool b:=by exact rfl)(hg:gB ops n s g=true:=by exact rfl):SL T J bs L (N+1) r ops Q (⟨some d,.unOp .not t x,ty,pos,af,g⟩ :: rest) (Fr n s ds):=⟨fun w j h=>pv hg rfl (IP hx rfl) (K.out w j h)⟩
theorem SL.pT  (K:SL T J bs L N r ops Q rest (Fr n ((d,v) :: s) ds)) (hc:ev n s x = .bool true:=by exact rfl) (hx:ev n s y=v:=by conv=>lhs;whnf) (hg:gB ops n s g=true:=by exact rfl):SL T J bs L (N+1) r ops Q (⟨some d,.pick x y z,ty,pos,af,g⟩ :: rest) (Fr n s ds):=⟨fun w j h=>pv hg rfl (Iz hc hx) (K.out w j h)⟩
theorem SL.pF  (K:SL T J bs L N r ops Q rest (Fr n ((d,v) :: s) ds)) (hc:ev n s x = .bool false:=by exact rfl) (hx:ev n s z=v:=by conv=>lhs;whnf) (hg:gB ops n s g=true:=by exact rfl):SL T J bs L (N+1) r ops Q (⟨some d,.pick x y z,ty,pos,af,g⟩ :: rest) (Fr n s ds):=⟨fun w j h=>pv hg rfl (IG hc hx) (K.out w j h)⟩
theorem SL.lV{e:TypeId}{k:IntKind}{b o o' m i sz by_:Nat}{zv:Value}(K:SL T J bs L N r ops Q rest (Fr n ((d,.pointer (some ⟨b,o', none⟩)) :: s) ds))(hx:ev n s x = .pointer (some ⟨b,o,none⟩):=by exact rfl)(hy:ev n s y = .int k i:=by exact rfl)(hT:jO T.u t=some (.array m e):=by exact rfl)(ht:jO T.i e=some (sz,by_,zv):=by exact rfl)(ho:o+i*sz=o' := by conv=>lhs;whnf)(h0:(i:Int)<m:=by decide)(hg:gB ops n s g=true:=by exact rfl):SL T J bs L (N+1) r ops Q (⟨some d,.indexAddr t x y,ty,pos,af,g⟩ :: rest) (Fr n s ds):=⟨fun w j h=>pv hg rfl (uw hx hy (mN T.nr hT) (pn T.qD ht) ⟨o_,h0⟩ (by simpa using ho)) (K.out w j h)⟩
theorem SL.mD{b o i sz by_:Nat}{zv:Value}{Tb:TypeId}{cs cs' vs:List Value}(K:SL T (fun _=>True) bs L' N r ops Q rest (Fr n s ds))(hx:ev n s x = .pointer (some ⟨b,o,none⟩):=by exact rfl)
 (hv:ev n s y=v:=by conv=>lhs;whnf) (hy:v.cells.toList=vs:=by first|exact aaF|exact aae|exact aa6|exact cSl|exact aaQ|exact cNilF|exact cMap|exact rfl) (ht:jO T.i t=some (sz,by_,zv):=by exact rfl) (hsz:vs.length=sz:=by exact rfl) (h1:vs.all (·.oneCell')=true:=by exact rfl) (hi:L[i]? = some (blk b Tb cs):=by first|exact wM|exact xg|exact qb|exact p6|exact wH|exact wT|exact at6|exact at7)
 (hf:Nat.ble (o+vs.length) cs.length=true:=by exact rfl) (hcs:setAt cs o vs=cs' := by dsimp only[setAt,List.take,List.drop,List.length,List.append,HAppend.hAppend,Append.append]<;>exact rfl) (hL:L.set i (blk b Tb cs')=L' := by dsimp only[List.set]<;>exact rfl) (hg:gB ops n s g=true:=by exact rfl) :
 SL T (fun _=>True) bs L (N+1) r ops Q (⟨none,.store t x y,ty,pos,af,g⟩ :: rest) (Fr n s ds):=⟨fun w j h=>Go.Sx.mD i hg hx hv hy (pn T.qD ht) hsz h1 h hi hf hcs hL fun w' h' => K.out w' trivial h'⟩
theorem run{p q:Prop} (h:p->q:=by
 intro h
 repeat (first
  | refine SP.sq ?_|refine SP.rg ?_|refine SL.mv ?_|refine SL.nil ?_|refine SQ.tN ?_|refine SL.JT ?_|refine SL.fa ?_|refine SL.ld ?_|refine SL.JX ?_|refine SL.E6 ?_|refine SL.ldoK ?_|refine SL.tQ ?_|refine SL.q8 ?_|refine SL.cmp ?_|refine SP.cT ?_|refine SP.cF ?_|refine SL.ar ?_|refine SL.ex ?_|refine SL.Ju ?_|refine SL.J5 ?_|refine SL.faW ?_|refine SL.ldW ?_|refine SL.jj ?_|refine SL.vH ?_|refine SL.kE ?_|refine SL.rA ?_|refine SL.ldoA ?_|refine SL.ldKA ?_|refine SL.ldoKA ?_|refine SL.not ?_|refine SL.pT ?_|refine SL.pF ?_|refine SL.lV ?_|refine SL.ixG ?_|refine SL.fldG ?_|refine SL.len ?_|refine SL.nP ?_|refine SL.eP ?_|refine SL.mD ?_|refine SL.sk ?_|refine SL.skN ?_|refine SP.bk ?_|refine SP.sp ?_|refine SP.xt ?_|refine SP.rt ?_|refine SQ.tX ?_|refine SQ.tR ?_|refine SQ.bN ?_|refine SQ.bR ?_|refine SQ.bX ?_|refine SQ.EP ?_|refine SP.scp ?_|refine SQ.JA ?_|refine SQ.scX ?_|refine SQ.JG ?_|refine SP.Jq ?_)
 exact h):p->q:=h
variable {ops' : Array Oper} {Q' : Exit->Act->World->Prop} {l' : List Oper} {a' : Act} {c c' : Code} {e e' : Exit}
theorem mU[T:TT P](hst:St bs L w)(N:Nat)(k:∀ w', St bs L' w' -> WL r P ops' Q' l' a' w')(h:SL T (fun _=>True) bs L' 0 r ops' Q' l' a' -> SL T (fun _=>True) bs L N r ops Q l a:=by exact run):WL r P ops Q l a w:=(h ⟨fun w' _ hs=>k w' hs⟩).out w trivial hst
theorem fP[T:TT P](hst:St bs L w)(N:Nat)(k:WL r P ops' Q' l' a' w)(h:SL T (fun x=>x=w) bs L 0 r ops' Q' l' a' -> SL T (fun x=>x=w) bs L N r ops Q l a:=by exact run):WL r P ops Q l a w:=(h ⟨fun w' j _=>by subst j;exact k⟩).out w rfl hst
theorem vp[T:TT P](hst:St bs L w)(N:Nat)(k:∀ w', St bs L' w' -> WP r P c' Q' a' w')(h:SP T (fun _=>True) bs L' 0 r Q' c' a' -> SL T (fun _=>True) bs L N r ops Q l a:=by exact run):WL r P ops Q l a w:=(h ⟨fun w' _ hs=>k w' hs⟩).out w trivial hst
theorem gX[T:TT P](hst:St bs L w)(N:Nat)(k:WP r P c' Q' a' w)(h:SP T (fun x=>x=w) bs L 0 r Q' c' a' -> SL T (fun x=>x=w) bs L N r ops Q l a:=by exact run):WL r P ops Q l a w:=(h ⟨fun w' j _=>by subst j;exact k⟩).out w rfl hst
theorem lW[T:TT P](hst:St bs L w)(N:Nat)(k:∀ w', St bs L' w' -> Q' e' a' w')(h:SQ T (fun _=>True) bs L' 0 r Q' e' a' -> SL T (fun _=>True) bs L N r ops Q l a:=by exact run):WL r P ops Q l a w:=(h ⟨fun w' _ hs=>k w' hs⟩).out w trivial hst
theorem gf[T:TT P](hst:St bs L w)(N:Nat)(k:Q' e' a' w)(h:SQ T (fun x=>x=w) bs L 0 r Q' e' a' -> SL T (fun x=>x=w) bs L N r ops Q l a:=by exact run):WL r P ops Q l a w:=(h ⟨fun w' j _=>by subst j;exact k⟩).out w rfl hst
theorem gh[T:TT P](hst:St bs L w)(N:Nat)(k:WL r P ops' Q' l' a' w)(h:SL T (fun x=>x=w) bs L 0 r ops' Q' l' a' -> SP T (fun x=>x=w) bs L N r Q c a:=by exact run):WP r P c Q a w:=(h ⟨fun w' j _=>by subst j;exact k⟩).out w rfl hst
theorem p8[T:TT P](hst:St bs L w)(N:Nat)(k:WP r P c' Q' a' w)(h:SP T (fun x=>x=w) bs L 0 r Q' c' a' -> SP T (fun x=>x=w) bs L N r Q c a:=by exact run):WP r P c Q a w:=(h ⟨fun w' j _=>by subst j;exact k⟩).out w rfl hst
theorem jr[T:TT P](hst:St bs L w)(N:Nat)(k:Q' e' a' w)(h:SQ T (fun x=>x=w) bs L 0 r Q' e' a' -> SP T (fun x=>x=w) bs L N r Q c a:=by exact run):WP r P c Q a w:=(h ⟨fun w' j _=>by subst j;exact k⟩).out w rfl hst
theorem QA(T:TT P)(r:Option Nat)(hst:St bs L w)(N:Nat)(k:∀ w', St bs L' w' -> WL r P ops' Q' l' a' w')(h:SL T (fun _=>True) bs L' 0 r ops' Q' l' a' -> SQ T (fun _=>True) bs L N r Q e a:=by exact run):Q e a w:=(h ⟨fun w' _ hs=>k w' hs⟩).out w trivial hst
theorem oZ(T:TT P)(r:Option Nat)(hst:St bs L w)(N:Nat)(k:WL r P ops' Q' l' a' w)(h:SL T (fun x=>x=w) bs L 0 r ops' Q' l' a' -> SQ T (fun x=>x=w) bs L N r Q e a:=by exact run):Q e a w:=(h ⟨fun w' j _=>by subst j;exact k⟩).out w rfl hst
theorem Qk(T:TT P)(r:Option Nat)(hst:St bs L w)(N:Nat)(k:∀ w', St bs L' w' -> WP r P c' Q' a' w')(h:SP T (fun _=>True) bs L' 0 r Q' c' a' -> SQ T (fun _=>True) bs L N r Q e a:=by exact run):Q e a w:=(h ⟨fun w' _ hs=>k w' hs⟩).out w trivial hst
theorem kT(T:TT P)(r:Option Nat)(hst:St bs L w)(N:Nat)(k:WP r P c' Q' a' w)(h:SP T (fun x=>x=w) bs L 0 r Q' c' a' -> SQ T (fun x=>x=w) bs L N r Q e a:=by exact run):Q e a w:=(h ⟨fun w' j _=>by subst j;exact k⟩).out w rfl hst
theorem J6(T:TT P)(r:Option Nat)(hst:St bs L w)(N:Nat)(k:∀ w', St bs L' w' -> Q' e' a' w')(h:SQ T (fun _=>True) bs L' 0 r Q' e' a' -> SQ T (fun _=>True) bs L N r Q e a:=by exact run):Q e a w:=(h ⟨fun w' _ hs=>k w' hs⟩).out w trivial hst
theorem jE(T:TT P)(r:Option Nat)(hst:St bs L w)(N:Nat)(k:Q' e' a' w)(h:SQ T (fun x=>x=w) bs L 0 r Q' e' a' -> SQ T (fun x=>x=w) bs L N r Q e a:=by exact run):Q e a w:=(h ⟨fun w' j _=>by subst j;exact k⟩).out w rfl hst
end
end Go.Sx
namespace Go.Sx
open Go
section
variable {P:Program} {ops:Array Oper} {n:Nat} {o:Oper} {s sA sE:List (Nat×Value)} {v:Value} {w w0 w1:World} {C:World->Prop}
def Rd(P:Program)(ops:Array Oper)(n:Nat)(o:Oper)(s:List (Nat×Value))(v:Value)(I:World->Prop):Prop:=∀ w,I w->mj P ops n o s v I w
def RA(P:Program)(ops:Array Oper)(n:Nat)(I:World->Prop):Nat->List Oper->List (Nat×Value)->List Value->List (Nat×Value)->List Oper->Prop
 | 0,l,s,[],sE,R=>s=sE/\l=R
 | m+1,o :: l,s,v :: vs,sE,R=>Rd P ops n o s v I/\RA P ops n I m l (jy o.dst v s) vs sE R
 | _,_,_,_,_,_=>False
def RC(P:Program)(ops:Array Oper)(n:Nat)(I:World->Prop):Nat->List Nat->List Oper->List (Nat×Value)->List Value->Prop
 | i,k,o :: l,s,v :: vs=>(i∈k\/Rd P ops n o s v I)/\RC P ops n I (i+1) k l (jy o.dst v s) vs
 | _,_,_,_,[]=>True
 | _,_,_,_,_=>False
def RU(P:Program)(ops:Array Oper)(n:Nat)(I:World->Prop):List Oper->List (Nat×Value)->List (Option Value)->Prop
 | o :: l,s,none :: cs=>∀ u,RU P ops n I l (jy o.dst u s) cs
 | o :: l,s,some c :: cs=>Rd P ops n o s c I/\RU P ops n I l (jy o.dst c s) cs
 | [],_,[]=>True
 | _,_,_=>False
def MC:List (Option Value)->List Value->Prop
 | none :: cs,_ :: vs=>MC cs vs
 | some c :: cs,v :: vs=>v=c/\MC cs vs
 | [],[]=>True
 | _,_=>False
def oM:Nat->List (Option Value)->List Nat
 | _,[]=>[]
 | i,none :: cs=>i :: oM (i+1) cs
 | i,some _ :: cs=>oM (i+1) cs
def aar(e:Edge):Bool:=match e.ground with
 | .textOnly _=>false
 | .gcOnly _=>false
 | _=>true
def rI(l:List Oper):List (List Nat) :=
 l.foldl (fun acc o=>acc++[o.after.toList.foldl (fun a e=>bif aar e then a++(e.on :: acc.getD e.on []).filter (fun x => !a.contains x)else a) []]) []
def JP(P:Program)(ops:Array Oper)(n:Nat)(ds:List Deferred)(Q:Exit->Act->World->Prop)(l:List Oper)(s:List (Nat×Value))(vA:List Value)(sA:List (Nat×Value))(k:List Nat)(d:Option Nat)(B:List Oper)(cs:List (Option Value))(v:Value)(w1:World):Prop :=
 ∃ I:World->Prop,I w1/\RC P ops n I 0 k l s vA/\∃ vB sE,RA P ops n I B.length B (jy d v sA) vB sE []/\MC cs vB/\∀ w', I w' -> Q .normal (Fr n sE ds) w'
section
variable {I:World->Prop}
theorem RA.len:∀ {m:Nat} {l:List Oper} {s:List (Nat×Value)} {vs:List Value} {sE:List (Nat×Value)} {R:List Oper},RA P ops n I m l s vs sE R->vs.length=m/\l.length=m+R.length
 | 0,l,s,[],sE,R,h=>⟨rfl,by rw[h.2];simp⟩
 | m+1,o :: l,s,v :: vs,sE,R,h=>by
  have:=RA.len h.2
  simp only[zp]
  omega
 | 0,_,_,_ :: _,_,_,h=>h.elim
 | m+1,[],_,_,_,_,h=>h.elim
 | m+1,_ :: _,_,[],_,_,h=>h.elim
theorem RU.len:∀ {l:List Oper} {s:List (Nat×Value)} {cs:List (Option Value)},RU P ops n I l s cs->cs.length=l.length
 | o :: l,s,none :: cs,h=>by simp[RU.len (h undef)]
 | o :: l,s,some c :: cs,h=>by simp[RU.len h.2]
 | [],_,[],_=>rfl
 | [],_,_ :: _,h=>h.elim
 | _ :: _,_,[],h=>h.elim
end
end
section
variable {Γ:Type} {r:Option Nat} {P:Program} {Q:Exit->Act->World->Prop} {n:Nat} {ds:List Deferred} {l l0:List Oper} {ops:Array Oper} {pre:List (List Nat)}
def q7(F:Γ->List Value):Nat->List (Option Value)->List (Γ->Value)
 | _,[]=>[]
 | i,some c :: cs=>(fun _=>c) :: q7 F (i+1) cs
 | i,none :: cs=>(fun g=>((F g)[i]?).getD undef) :: q7 F (i+1) cs
theorem G8{F:Γ->List Value}{g:Γ}:∀ {cs:List (Option Value)} {vs:List Value} {i:Nat},MC cs vs->(F g).drop i=vs->(q7 F i cs).map (· g)=vs
 | none :: cs,v :: vs,i,h,e=>by
  have h1:(F g)[i]? = some v:=by
   have:=congrArg (fun l=>l[0]?) e
   simpa using this
  have h2:(F g).drop (i+1)=vs:=by
   have:=congrArg List.tail e
   simpa[List.tail_drop]using this
  simp[q7,h1,G8 (cs:=cs) h h2]
 | some c :: cs,v :: vs,i,h,e=>by
  have h2:(F g).drop (i+1)=vs:=by
   have:=congrArg List.tail e
   simpa[List.tail_drop]using this
  simp[q7,h.1,G8 h.2 h2]
 | [],[],_,_,_=>rfl
 | none :: _,[],_,h,_=>h.elim
 | some _ :: _,[],_,h,_=>h.elim
 | [],_ :: _,_,h,_=>h.elim
theorem NA{S:Nat->Bool}{v:Value}{vs:List Value}{o:Oper}{l:List Oper}{s:List (Nat×Value)}(h:∀ i,S i=true):∀ i,ia S i (o :: l) (v :: vs) s=ia S (i+1) l vs (jy o.dst v s):=by
 intro i;simp[ia,h i]
theorem RA.sl{I:World->Prop}:∀ {m:Nat} {l:List Oper} {s:List (Nat×Value)} {vs vr:List Value} {sE:List (Nat×Value)} {R:List Oper} {i:Nat},RA P ops n I m l s vs sE R->ia (fun _=>true) i l (vs++vr) s=ia (fun _=>true) (i+m) R vr sE
 | 0,l,s,[],vr,sE,R,i,h=>by rw[h.1,h.2];rfl
 | m+1,o :: l,s,v :: vs,vr,sE,R,i,h=>by
  rw[o6,NA (fun _=>rfl),RA.sl h.2,show i+1+m=i+(m+1) by omega]
 | 0,_,_,_ :: _,_,_,_,_,h=>h.elim
 | m+1,[],_,_,_,_,_,_,h=>h.elim
 | m+1,_ :: _,_,[],_,_,_,_,h=>h.elim
theorem PU{I0:World->Prop}{s0:List (Nat×Value)}{mem:List Nat}{V:List (Γ->Value)}{M:Nat->Γ->World->Prop}{Post:Γ->Prop}{W:Γ->World->Prop}{k:List Nat}{Vr:List (Γ->Value)}{R:List Oper}{sA:List (Nat×Value)}(hM0:∀ g,M 0 g=I0)(hM1:∀ g w,M 1 g w->W g w/\Post g)(hM1' : ∀ g w,W g w->Post g->M 1 g w)(hM2:∀ p g w,¬ M (p+2) g w)
 (hk:∀ i,i∈k->ua pre mem i=0):∀ (m:Nat) (l:List Oper) (i:Nat) (s:List (Nat×Value)) (vA:List Value),(∀ j,i<=j->j<i+m->mem.contains j=false)->RA P ops n I0 m l s vA sA R->(∀ g,Post g->RC P ops n (W g) i k l s vA) ->
 lQ P ops Q n ds s0 l0 pre mem V M (i+m) (fun _=>sA) R Vr->lQ P ops Q n ds s0 l0 pre mem V M i (fun _=>s) l (vA.map (fun v _=>v)++Vr)
 | 0,l,i,s,[],hm,hA,hC,K=>by rw[hA.1,hA.2];simpa using K
 | m+1,o :: l,i,s,v :: vs,hm,hA,hC,K=>by
  refine⟨?_,PU hM0 hM1 hM1' hM2 hk m l (i+1) _ vs (fun j h1 h2=>hm j o_ o_) hA.2 (fun g hg=>(hC g hg).2) (by rw[show i+1+m=i+(m+1) by omega];exact K)⟩
  rw[hm i (zn _) o_]
  intro p g w h1 h2 hM
  match p with
  | 0=>rw[hM0 g]at hM ⊢;exact hA.1 w hM
  | 1 =>
   obtain⟨hW,hP⟩:=hM1 g w hM
   rcases(hC g hP).1 with h3|h3
   . have:=hk i h3;omega
   . exact mj.congr (fun w' h=>hM1' g w' h hP) (h3 w hW)
  | p+2=>exact absurd hM (hM2 p g w)
 | 0,_,_,_,_ :: _,_,h,_,_=>h.elim
 | m+1,[],_,_,_,_,h,_,_=>h.elim
 | m+1,_ :: _,_,_,[],_,h,_,_=>h.elim
theorem Jf(g0:Γ){I0:World->Prop}{s0:List (Nat×Value)}{mem:List Nat}{V:List (Γ->Value)}{M:Nat->Γ->World->Prop}{Post:Γ->Prop}{W:Γ->World->Prop}{F:Γ->List Value}(hM0:∀ g,M 0 g=I0)(hM1:∀ g w,M 1 g w->W g w/\Post g)(hM1' : ∀ g w,W g w->Post g->M 1 g w)(hM2:∀ p g w,¬ M (p+2) g w) :
 ∀ (B:List Oper) (i j:Nat) (s:Γ->List (Nat×Value)) (cs:List (Option Value)),(∀ q,j<=q->mem.contains q=false)->(∀ q∈oM j cs,1<=tL pre mem q)->(∀ g,Post g->∃ sE,RA P ops n (W g) B.length B (s g) ((q7 F i cs).map (· g)) sE [])->(∀ g,RU P ops n I0 B (s g) cs) ->
 lQ P ops Q n ds s0 l0 pre mem V M j s B (q7 F i cs)
 | [],i,j,s,[],hm,hn,h1,hU=>trivial
 | o :: B,i,j,s,none :: cs,hm,hn,h1,hU=>by
  refine⟨?_,Jf g0 hM0 hM1 hM1' hM2 B (i+1) (j+1) _ cs (fun q hq=>hm q o_) (fun q hq=>hn q (by simp only[oM,zb];exact .inr hq)) (fun g hg=>?_) (fun g=>hU g _)⟩
  . rw[hm j (zn _)]
    intro p g w h2 h3 hM
    have h4:=hn j (by simp[oM])
    match p with
    | 0=>omega
    | 1 =>
     obtain⟨hW,hP⟩:=hM1 g w hM
     obtain⟨sE,h5⟩:=h1 g hP
     exact mj.congr (fun w' h=>hM1' g w' h hP) (h5.1 w hW)
    | p+2=>exact absurd hM (hM2 p g w)
  . obtain⟨sE,h5⟩:=h1 g hg
    exact⟨sE,h5.2⟩
 | o :: B,i,j,s,some c :: cs,hm,hn,h1,hU=>by
  refine⟨?_,Jf g0 hM0 hM1 hM1' hM2 B (i+1) (j+1) _ cs (fun q hq=>hm q o_) (fun q hq=>hn q (by simpa[oM]using hq)) (fun g hg=>?_) (fun g=>(hU g).2)⟩
  . rw[hm j (zn _)]
    intro p g w h2 h3 hM
    match p with
    | 0=>rw[hM0 g]at hM ⊢;exact(hU g).1 w hM
    | 1 =>
     obtain⟨hW,hP⟩:=hM1 g w hM
     obtain⟨sE,h5⟩:=h1 g hP
     exact mj.congr (fun w' h=>hM1' g w' h hP) (h5.1 w hW)
    | p+2=>exact absurd hM (hM2 p g w)
  . obtain⟨sE,h5⟩:=h1 g hg
    exact⟨sE,h5.2⟩
 | [],_,_,_,_ :: _,_,_,_,hU=>(hU g0).elim
 | _ :: _,_,_,_,[],_,_,_,hU=>(hU g0).elim
theorem OW{i:Nat}{g g' : Γ}{Vr:List (Γ->Value)}:∀ (vA:List Value) (k:Nat),jR pre i g g' (k+vA.length) Vr->jR pre i g g' k (vA.map (fun v _=>v)++Vr)
 | [],k,h=>by simpa using h
 | v :: vA,k,h=>⟨by cases ((pre.getD k []).contains i||k==i)<;>simp,OW vA (k+1) (by rw[show k+1+vA.length=k+(vA.length+1) by omega];exact h)⟩
theorem IT{i:Nat}{g g' : Γ}{F:Γ->List Value}:∀ (cs:List (Option Value)) (a k:Nat),(∀ q∈oM k cs,(pre.getD q []).contains i=true)->jR pre i g g' k (q7 F a cs)
 | [],_,_,_=>trivial
 | none :: cs,a,k,h=>⟨by rw[h k (by simp[oM])];simp,IT cs (a+1) (k+1) fun q hq=>h q (by simp only[oM,zb];exact .inr hq)⟩
 | some c :: cs,a,k,h=>⟨by cases ((pre.getD k []).contains i||k==i)<;>simp,IT cs (a+1) (k+1) fun q hq=>h q (by simpa[oM]using hq)⟩
def Jd(l:List Oper)(m:Nat)(k:List Nat)(nb:List Nat):Bool :=
 let pre:=rI l
 yD l pre [m]&&(k.all fun i=>(pre.getD m []).contains i)&&(nb.all fun q=>(pre.getD q []).contains m)
theorem aaU{id m:Nat}{w:World}{I0:World->Prop}{s sA:List (Nat×Value)}{vA:List Value}{k:List Nat}{o:Oper}{B:List Oper}{cs:List (Option Value)}(hmx:P.follows .mixedOrders=true)(hok:Jd l m k (oM (m+1) cs)=true)(hI0:I0 w.drew)
 (hA:RA P l.toArray n I0 m l s vA sA (o :: B)) (hU:∀ v,RU P l.toArray n I0 B (jy o.dst v sA) cs)
 (h:∀ w', I0 w' -> lG P l.toArray Q n ds s l o sA (JP P l.toArray n ds Q l s vA sA k o.dst B cs) w'):WP r P (.region id l.toArray true) Q (Fr n s ds) w:=by
 simp only[Jd,zo]at hok
 obtain⟨⟨hreg,hk⟩,hn⟩:=hok
 have hk' : ∀ i,i∈k->ua (rI l) [m] i=0:=fun i hi=>by
  have:=zz.1 hk i hi
  simp only[ua,tO,List.countP_nil,this]
  simp
 have hn' : ∀ q∈oM (m+1) cs,((rI l).getD q []).contains m=true:=fun q hq=>zz.1 hn q hq
 have hn'' : ∀ q∈oM (m+1) cs,1<=tL (rI l) [m] q:=fun q hq=>by
  simp only[tL,tO,List.countP_nil,hn' q hq]
  simp
 obtain⟨hlA,hll⟩:=hA.len
 have hcB:=(hU undef).len
 let Post:Value×(World->Prop)->Prop:=fun g=>RC P l.toArray n g.2 0 k l s vA/\∃ vB sE,RA P l.toArray n g.2 B.length B (jy o.dst g.1 sA) vB sE []/\MC cs vB/\∀ w', g.2 w' -> Q .normal (Fr n sE ds) w'
 let F:Value×(World->Prop)->List Value:=fun g=>open Classical in if h:Post g then Classical.choose h.2 else[]
 have hF:∀ g,Post g->∃ sE,RA P l.toArray n g.2 B.length B (jy o.dst g.1 sA) (F g) sE []/\MC cs (F g)/\∀ w', g.2 w' -> Q .normal (Fr n sE ds) w' := fun g hg=>by
  have e:F g=Classical.choose hg.2:=dif_pos hg
  rw[e]
  exact Classical.choose_spec hg.2
 let M:Nat->Value×(World->Prop)->World->Prop:=fun p g=>match p with
  | 0=>I0
  | 1=>fun w' => g.2 w' /\ Post g
  | _=>fun _=>False
 have hM0:∀ g,M 0 g=I0:=fun g=>rfl
 have hM1:∀ g w', M 1 g w' -> g.2 w' /\ Post g:=fun g w' h=>h
 have hM1' : ∀ g w', g.2 w' -> Post g->M 1 g w' := fun g w' h h' => ⟨h,h'⟩
 have hM2:∀ p g w', ¬ M (p+2) g w' := fun p g w' h=>h
 have hVm:∀ g,Post g->(q7 F 0 cs).map (· g)=F g:=fun g hg=>by
  obtain⟨sE,_,h2,_⟩:=hF g hg
  exact G8 h2 rfl
 let V:List (Value×(World->Prop)->Value):=vA.map (fun v _=>v)++(fun g=>g.1) :: q7 F 0 cs
 refine JR hmx (rI l) [m] hreg V M (undef,I0) (fun g=>ia (fun _=>true) 0 l (V.map (· g)) s) hI0 ?_ (fun g=>rfl) fun g w' hM=>?_
 . refine PU (W:=fun g=>g.2) hM0 hM1 hM1' hM2 hk' m l 0 s vA (fun j _ hj=>by simp;omega) hA (fun g hg=>hg.1) ?_
   refine⟨?_,?_⟩
   . have e1:([m]:List Nat).contains (0+m)=true:=by simp
     have e2:([m]:List Nat).idxOf (0+m)=0:=by simp
     rw[e1,e2]
     intro g w' hM
     refine lG.mono (fun v' w1 hAft=>?_) (h w' hM)
     obtain⟨I1,hI1,hA1,vB,sE,hA2,hA3,hA4⟩:=hAft
     refine⟨(v', I1),⟨hI1,hA1,vB,sE,hA2,hA3,hA4⟩,rfl,OW vA 0 ?_⟩
     refine⟨by simp[hlA],IT cs 0 _ fun q hq=>?_⟩
     have:=hn' q (by rw[show m+1=0+vA.length+1 by omega];exact hq)
     rwa [jN]
   . refine Jf (undef,I0) (W:=fun g=>g.2) hM0 hM1 hM1' hM2 B 0 (0+m+1) _ cs (fun q hq=>by simp;omega) (fun q hq=>hn'' q (by rw[show m+1=0+m+1 by omega];exact hq)) (fun g hg=>?_) fun g=>hU g.1
     obtain⟨sE,h1,_,_⟩:=hF g hg
     exact⟨sE,by rw[hVm g hg];exact h1⟩
 . obtain⟨hW,hP⟩:=hM1 g w' hM
   obtain⟨sE,h1,_,h3⟩:=hF g hP
   have e:ia (fun _=>true) 0 l (V.map (· g)) s=sE:=by
    have e1:V.map (· g)=vA++(g.1 :: F g):=by
     show (vA.map (fun v (_:Value×(World->Prop))=>v)++(fun g:Value×(World->Prop)=>g.1) :: q7 F 0 cs).map (fun f=>f g)=_
     simp only[qL,Af,z1,hVm g hP]
     congr 1
     conv=>rhs;rw[<-List.map_id vA]
     rfl
    rw[e1,hA.sl,NA (fun _=>rfl)]
    have:=h1.sl (i:=0+m+1) (vr:=[])
    rw[qC]at this
    rw[this]
    simp[ia]
   rw[e]
   exact h3 w' hW
theorem aaY{id:Nat}{w:World}{I0:World->Prop}{s sE:List (Nat×Value)}{vA:List Value}(hmx:P.follows .mixedOrders=true)(hok:yD l (rI l) []=true)(hI0:I0 w.drew)(hA:RA P l.toArray n I0 l.length l s vA sE [])(h:∀ w', I0 w' -> Q .normal (Fr n sE ds) w') :
 WP r P (.region id l.toArray true) Q (Fr n s ds) w:=by
 let M:Nat->Unit->World->Prop:=fun p g=>match p with
  | 0=>I0
  | _=>fun _=>False
 have key:∀ (l' : List Oper) (i:Nat) (s' : List (Nat×Value)) (vs:List Value),RA P l.toArray n I0 l'.length l' s' vs sE []->lQ P l.toArray Q n ds s l (rI l) [] (vA.map (fun v _=>v)) M i (fun _=>s') l' (vs.map (fun v _=>v)):=by
  intro l'
  induction l' with
  | nil=>intro i s' vs h;cases vs with|nil=>trivial|cons v vs=>exact h.elim
  | cons o l' ih =>
   intro i s' vs h
   cases vs with
   | nil=>exact h.elim
   | cons v vs =>
    refine⟨?_,ih (i+1) _ vs h.2⟩
    show ∀ p g w', _->_->M p g w' -> _
    intro p g w' _ _ hM
    match p with
    | 0=>exact h.1 w' hM
    | p+1=>exact hM.elim
 refine JR hmx (rI l) [] hok (vA.map (fun v _=>v)) M () (fun _=>sE) hI0 (key l 0 s vA hA) (fun g=>?_) fun g w' hM=>h w' hM
 have:=hA.sl (i:=0) (vr:=[])
 rw[qC]at this
 rw[Af]
 have e:vA.map ((fun x=>x g)∘fun v (_:Unit)=>v)=vA:=by
  conv=>rhs;rw[<-List.map_id vA]
  rfl
 rw[e,this]
 simp[ia]
end
end Go.Sx
namespace Go.Sx
open Go
section
variable {P:Program}
def Rw(P:Program)(n:Nat)(s:List (Nat×Value))(o:Oper)(v:Value)(C:World->Prop)(w:World):Prop:=(execOp (ev n s) o).run P w = .ok (.value v) w\/∃ f args,(execOp (ev n s) o).run P w = .ok (.enter f args) w/\CR P f args w (fun v' w' => v' = v/\C w')
theorem rv{o:Oper}{v:Value}{n:Nat}{s:List (Nat×Value)}{C:World->Prop}{w:World}(h:(execOp (ev n s) o).run P w = .ok (.value v) w):Rw P n s o v C w:=.inl h
theorem rc{o:Oper}{v:Value}{n:Nat}{s:List (Nat×Value)}{C:World->Prop}{w:World}{f:FuncId}{args:Array Value}(h:(execOp (ev n s) o).run P w = .ok (.enter f args) w)(hc:CR P f args w (fun v' w' => v' = v/\C w')):Rw P n s o v C w:=.inr ⟨f,args,h,hc⟩
structure Rf (T:TT P) (bs:List (World×List Nat)) (L:List gi) (ops:Array Oper) (n:Nat) (o:Oper) (s:List (Nat×Value)) (v:Value):Prop where
 out:Rd P ops n o s v (St bs L)
structure DA (T:TT P) (bs:List (World×List Nat)) (L:List gi) (ops:Array Oper) (n m:Nat) (l:List Oper) (s:List (Nat×Value)) (vs:List Value) (sE:List (Nat×Value)) (R:List Oper):Prop where
 out:RA P ops n (St bs L) m l s vs sE R
structure DC (T:TT P) (bs:List (World×List Nat)) (L:List gi) (ops:Array Oper) (n i:Nat) (k:List Nat) (l:List Oper) (s:List (Nat×Value)) (vs:List Value):Prop where
 out:RC P ops n (St bs L) i k l s vs
structure DU (T:TT P) (bs:List (World×List Nat)) (L:List gi) (ops:Array Oper) (n:Nat) (l:List Oper) (s:List (Nat×Value)) (cs:List (Option Value)):Prop where
 out:RU P ops n (St bs L) l s cs
variable {T:TT P} {bs bs' : List (World×List Nat)} {L L1:List gi} {r:Option Nat} {ops:Array Oper} {Q:Exit->Act->World->Prop} {n m:Nat} {s sA sE:List (Nat×Value)} {ds:List Deferred} {w w' w0 w1:World}
variable {d i j:Nat} {ty t:TypeId} {pos:String} {af:Array Edge} {g:Option (Nat×Bool)} {v u:Value} {x y z:Operand} {l B:List Oper} {o:Oper} {vs vA vB:List Value} {cs:List (Option Value)} {k:List Nat} {R:List Oper} {op:Op} {dd:Option Nat}
theorem Rf.sk{gg:Nat×Bool}(hg:gB ops n s (some gg)=false:=by exact rfl):Rf T bs L ops n ⟨dd,op,ty,pos,af,some gg⟩ s undef:=⟨fun w h=>.inr ⟨hg,rfl⟩⟩
theorem Rf.mv  (hx:ev n s x=v:=by conv=>lhs;whnf) (hg:gB ops n s g=true:=by exact rfl):Rf T bs L ops n ⟨some d,.move x,ty,pos,af,g⟩ s (v):=⟨fun w h=>.inl ⟨hg,rfl,.inl (iD hx)⟩⟩
theorem Rf.JT{i b k sz off off' szf byf:Nat}{zf:Value}{fields:Array Field}{f:Field}(hx:ev n s x = .pointer (some ⟨b,k*sz+off,none⟩):=by exact rfl)(hT:jO T.u t=some (.struct fields):=by exact rfl)(hf:fields[i]? = some f:=by exact rfl)(ht:jO T.i f.type=some (szf+1,byf,zf):=by exact rfl)(ho:off+f.offset=off' := by conv=>lhs;whnf)(hg:gB ops n s g=true:=by exact rfl):Rf T bs L ops n ⟨some d,.fieldAddr t x i,ty,pos,af,g⟩ s (.pointer (some ⟨b,k*sz+off', none⟩)):=⟨fun w h=>.inl ⟨hg,rfl,.inl (jL hx (mN T.nr hT) hf (pn T.qD ht) (by rw[<-ho,j4]))⟩⟩
theorem Rf.fa{i b o o' szf byf:Nat}{zf:Value}{fields:Array Field}{f:Field}(hx:ev n s x = .pointer (some ⟨b,o,none⟩):=by exact rfl)(hT:jO T.u t=some (.struct fields):=by exact rfl)(hf:fields[i]? = some f:=by exact rfl)(ht:jO T.i f.type=some (szf+1,byf,zf):=by exact rfl)(ho:o+f.offset=o' := by conv=>lhs;whnf)(hg:gB ops n s g=true:=by exact rfl):Rf T bs L ops n ⟨some d,.fieldAddr t x i,ty,pos,af,g⟩ s (.pointer (some ⟨b,o', none⟩)):=⟨fun w h=>.inl ⟨hg,rfl,.inl (jL hx (mN T.nr hT) hf (pn T.qD ht) ho)⟩⟩
theorem Rf.ld{b o i:Nat}{Tb:TypeId}{cs:List Value}{ud:TypeDesc}(hx:ev n s x = .pointer (some ⟨b,o,none⟩):=by exact rfl)(hT:jO T.u t=some ud:=by exact rfl)(hn:kQ ud=false:=by exact rfl)(hi:L[i]? = some (blk b Tb cs):=by first|exact wM|exact xg|exact qb|exact p6|exact wH|exact wT|exact at6|exact at7)(hv:cs[o]? = some v:=by exact rfl)(hg:gB ops n s g=true:=by exact rfl):Rf T bs L ops n ⟨some d,.load t x,ty,pos,af,g⟩ s (v):=⟨fun w h=>.inl ⟨hg,rfl,.inl (gZ hx (mN T.nr hT) hn (h.xI hi hv))⟩⟩
theorem Rf.JX{α:Type}{cf:α->List Value}{xs:List α}{b k sz off i:Nat}{Tb:TypeId}{ud:TypeDesc}(hx:ev n s x = .pointer (some ⟨b,k*sz+off,none⟩):=by exact rfl)(hT:jO T.u t=some ud:=by exact rfl)(hn:kQ ud=false:=by exact rfl)(hi:L[i]? = some (blk b Tb (xs.flatMap cf)):=by first|exact wM|exact xg|exact qb|exact p6|exact wH|exact wT|exact at6|exact at7)(inst:Inhabited α:=by infer_instance)(hl:∀ x:α,(cf x).length=sz:=by exact fun _=>rfl)(hk:k<xs.length:=by first|omega|(simp only[gM];omega))(hv:(cf (fM xs k))[off]? = some v:=by exact rfl)(hg:gB ops n s g=true:=by exact rfl):Rf T bs L ops n ⟨some d,.load t x,ty,pos,af,g⟩ s (v):=⟨fun w h=>.inl ⟨hg,rfl,.inl (gZ hx (mN T.nr hT) hn (St.HA h hi hl hk hv))⟩⟩
theorem Rf.E6{b o:Nat}{Tb:TypeId}{cs:List Value}{ud:TypeDesc}(hx:ev n s x = .pointer (some ⟨b,o,none⟩):=by exact rfl)(hT:jO T.u t=some ud:=by exact rfl)(hn:kQ ud=false:=by exact rfl)(hi:(blk b Tb cs).holds w0:=by assumption)(hb:(w0,[])∈bs:=by simp)(hv:cs[o]? = some v:=by exact rfl)(hg:gB ops n s g=true:=by exact rfl):Rf T bs L ops n ⟨some d,.load t x,ty,pos,af,g⟩ s (v):=⟨fun w h=>.inl ⟨hg,rfl,.inl (gZ hx (mN T.nr hT) hn (St.HZ h hb hi hv))⟩⟩
theorem Rf.tQ  (hx:ev n s x=v:=by conv=>lhs;whnf) (hg:gB ops n s g=true:=by exact rfl):Rf T bs L ops n ⟨some d,.assign x,ty,pos,af,g⟩ s (v):=⟨fun w h=>.inl ⟨hg,rfl,.inl (tB hx)⟩⟩
theorem Rf.q8{p:Addr}(hx:ev n s x = .pointer (some p):=by exact rfl)(hg:gB ops n s g=true:=by exact rfl):Rf T bs L ops n ⟨some d,.nilCheck x,ty,pos,af,g⟩ s (.pointer (some p)):=⟨fun w h=>.inl ⟨hg,rfl,.inl (jY hx)⟩⟩
theorem Rf.cmp{op:BinOp}{t' : TypeId}{k:IntKind}{a b:Int}{c:Bool}(hx:ev n s x = .int k a:=by exact rfl)(hy:ev n s y = .int k b:=by exact rfl)(hc:jQ op a b=some c:=by first|exact sF (by first|assumption|decide)|exact Br (by first|assumption|decide)|exact wD (by first|assumption|decide)|exact nE (by first|assumption|decide)|exact zC (by first|assumption|decide)|exact It (by first|assumption|decide)|exact Ey (by first|assumption|decide)|exact n9 (by first|assumption|decide)|exact c_gt (by first|assumption|decide)|exact tv (by first|assumption|decide)|exact pS (by first|assumption|decide)|exact uH (by first|assumption|decide))(hg:gB ops n s g=true:=by exact rfl):Rf T bs L ops n ⟨some d,.binOp op t x y t', ty,pos,af,g⟩ s (.bool c):=⟨fun w h=>.inl ⟨hg,rfl,.inl (mz hx hy hc)⟩⟩
theorem Rf.ar{op:BinOp}{t' : TypeId}{k:IntKind}{a b c e:Int}(hx:ev n s x = .int k a:=by exact rfl)(hy:ev n s y = .int k b:=by exact rfl)(hc:Ax op a b=some c:=by exact rfl)(hw:k.wrap c=e:=by first|exact iV o_|exact uV o_|exact w8u o_|exact w32u o_)(hg:gB ops n s g=true:=by exact rfl):Rf T bs L ops n ⟨some d,.binOp op t x y t', ty,pos,af,g⟩ s (.int k e):=⟨fun w h=>.inl ⟨hg,rfl,.inl (kG hx hy hc hw)⟩⟩
theorem Rf.ex{i:Nat}{vs:Array Value}(hx:ev n s x = .tuple vs:=by exact rfl)(hv:vs[i]? = some v:=by exact rfl)(hg:gB ops n s g=true:=by exact rfl):Rf T bs L ops n ⟨some d,.extract x i,ty,pos,af,g⟩ s (v):=⟨fun w h=>.inl ⟨hg,rfl,.inl (BF hx hv)⟩⟩
theorem Rf.Ju{e:TypeId}{kk:IntKind}{b m c k sz by_:Nat}{zv:Value}(hx:ev n s x = .slice (some ⟨b,0,none⟩) m c:=by exact rfl)(hy:ev n s y = .int kk (k:Nat):=by exact rfl)(hT:jO T.u t=some (.slice e):=by exact rfl)(ht:jO T.i e=some (sz,by_,zv):=by exact rfl)(h0:(k:Int)<m:=by first|omega|(simp only[gM];omega))(hg:gB ops n s g=true:=by exact rfl):Rf T bs L ops n ⟨some d,.indexAddr t x y,ty,pos,af,g⟩ s (.pointer (some ⟨b,k*sz+0,none⟩)):=⟨fun w h=>.inl ⟨hg,rfl,.inl (oN hx hy (mN T.nr hT) (pn T.qD ht) ⟨o_,h0⟩ s_)⟩⟩
theorem Rf.J5{α:Type}{cf:α->List Value}{xs:List α}{e e' : TypeId}{kk:IntKind}{k sz by_ i:Nat}{zv:Value}(hx:ev n s x=v:=by conv=>lhs;whnf)(hy:ev n s y = .int kk (k:Nat):=by exact rfl)(hT:jO T.u t=some (.slice e):=by exact rfl)(ht:jO T.i e=some (sz,by_,zv):=by exact rfl)(hi:L[i]? = some (fV cf v e' sz xs):=by first|exact wM|exact xg|exact qb|exact p6|exact wH|exact wT|exact at6|exact at7)(inst:Inhabited α:=by infer_instance)(hl:∀ x:α,(cf x).length=sz:=by exact fun _=>rfl)(hk:k<xs.length:=by first|omega|(simp only[gM];omega))(hg:gB ops n s g=true:=by exact rfl):Rf T bs L ops n ⟨some d,.indexAddr t x y,ty,pos,af,g⟩ s (j7 sz v k 0):=⟨fun w h=>.inl ⟨hg,rfl,.inl (jU hx hy (mN T.nr hT) (pn T.qD ht) (St.MZ h hi hl) o_ o_ (gy hk))⟩⟩
theorem Rf.jj{α:Type}{cf:α->List Value}{xs:List α}{ok:Nat->Prop}{c:α}{e:TypeId}{kk:IntKind}{k sz by_:Nat}{zv:Value}(hx:ev n s x=v:=by conv=>lhs;whnf)(hy:ev n s y = .int kk (k:Nat):=by exact rfl)(hT:jO T.u t=some (.slice e):=by exact rfl)(ht:jO T.i e=some (sz,by_,zv):=by exact rfl)(hi:jx sz cf ok w0 v xs:=by assumption)(hk:xs[k]? = some c:=by assumption)(hg:gB ops n s g=true:=by exact rfl):Rf T bs L ops n ⟨some d,.indexAddr t x y,ty,pos,af,g⟩ s (j7 sz v k 0):=⟨fun w h=>.inl ⟨hg,rfl,.inl (jU hx hy (mN T.nr hT) (pn T.qD ht) hi o_ o_ hk)⟩⟩
theorem Rf.vH{α:Type}{cf:α->List Value}{xs:List α}{ok:Nat->Prop}{c:α}{i k sz off off' szf byf:Nat}{zf:Value}{fields:Array Field}{f:Field}(hx:ev n s x=j7 sz v k off:=by exact rfl)(hT:jO T.u t=some (.struct fields):=by exact rfl)(hf:fields[i]? = some f:=by exact rfl)(ht:jO T.i f.type=some (szf+1,byf,zf):=by exact rfl)(ho:off+f.offset=off' := by conv=>lhs;whnf)(hi:jx sz cf ok w0 v xs:=by assumption)(hk:xs[k]? = some c:=by assumption)(hg:gB ops n s g=true:=by exact rfl):Rf T bs L ops n ⟨some d,.fieldAddr t x i,ty,pos,af,g⟩ s (j7 sz v k off'):=⟨fun w h=>.inl ⟨hg,rfl,.inl (qu hx (mN T.nr hT) hf (pn T.qD ht) ho hi hk)⟩⟩
theorem Rf.kE{α:Type}{cf:α->List Value}{xs:List α}{ok:Nat->Prop}{c:α}{k sz off:Nat}{ud:TypeDesc}{u:Value}(hx:ev n s x=j7 sz u k off:=by exact rfl)(hT:jO T.u t=some ud:=by exact rfl)(hn:kQ ud=false:=by exact rfl)(hi:jx sz cf ok w0 u xs:=by assumption)(hb:(w0,[])∈bs:=by simp)(hz:0<sz:=by decide)(hk:xs[k]? = some c:=by assumption)(hv:(cf c)[off]? = some v:=by exact rfl)(hg:gB ops n s g=true:=by exact rfl):Rf T bs L ops n ⟨some d,.load t x,ty,pos,af,g⟩ s (v):=⟨fun w h=>.inl ⟨hg,rfl,.inl (mA hx (mN T.nr hT) hn (St.Oz h hb hz hi) hk hv)⟩⟩
theorem Rf.rA{b o i sz by_:Nat}{zv:Value}{Tb:TypeId}{cs vs:List Value}{ud:TypeDesc}(hx:ev n s x = .pointer (some ⟨b,o,none⟩):=by exact rfl)(hT:jO T.u t=some ud:=by exact rfl)(hn:kQ ud=true:=by exact rfl)(ht:jO T.i t=some (sz,by_,zv):=by exact rfl)(hi:L[i]? = some (blk b Tb cs):=by first|exact wM|exact xg|exact qb|exact p6|exact wH|exact wT|exact at6|exact at7)(hv:sub' cs o sz=some vs:=by exact rfl)(hg:gB ops n s g=true:=by exact rfl):Rf T bs L ops n ⟨some d,.load t x,ty,pos,af,g⟩ s (.agg vs.toArray):=⟨fun w h=>.inl ⟨hg,rfl,.inl (uF hx (mN T.nr hT) hn (pn T.qD ht) (GY hv) (h.G4 hi (MY hv)))⟩⟩
theorem Rf.not{b:Bool}(hx:ev n s x = .bool b:=by exact rfl)(hg:gB ops n s g=true:=by exact rfl):Rf T bs L ops n ⟨some d,.unOp .not t x,ty,pos,af,g⟩ s (.bool !b):=⟨fun w h=>.inl ⟨hg,rfl,.inl (IP hx rfl)⟩⟩
theorem Rf.pT  (hc:ev n s x = .bool true:=by exact rfl) (hx:ev n s y=v:=by conv=>lhs;whnf) (hg:gB ops n s g=true:=by exact rfl):Rf T bs L ops n ⟨some d,.pick x y z,ty,pos,af,g⟩ s (v):=⟨fun w h=>.inl ⟨hg,rfl,.inl (Iz hc hx)⟩⟩
theorem Rf.pF  (hc:ev n s x = .bool false:=by exact rfl) (hx:ev n s z=v:=by conv=>lhs;whnf) (hg:gB ops n s g=true:=by exact rfl):Rf T bs L ops n ⟨some d,.pick x y z,ty,pos,af,g⟩ s (v):=⟨fun w h=>.inl ⟨hg,rfl,.inl (IG hc hx)⟩⟩
theorem Rf.lV{e:TypeId}{k:IntKind}{b o o' m i sz by_:Nat}{zv:Value}(hx:ev n s x = .pointer (some ⟨b,o,none⟩):=by exact rfl)(hy:ev n s y = .int k i:=by exact rfl)(hT:jO T.u t=some (.array m e):=by exact rfl)(ht:jO T.i e=some (sz,by_,zv):=by exact rfl)(ho:o+i*sz=o' := by conv=>lhs;whnf)(h0:(i:Int)<m:=by decide)(hg:gB ops n s g=true:=by exact rfl):Rf T bs L ops n ⟨some d,.indexAddr t x y,ty,pos,af,g⟩ s (.pointer (some ⟨b,o', none⟩)):=⟨fun w h=>.inl ⟨hg,rfl,.inl (uw hx hy (mN T.nr hT) (pn T.qD ht) ⟨o_,h0⟩ (by simpa using ho))⟩⟩
theorem DA.nil:DA T bs L ops n 0 l s [] s l:=⟨⟨rfl,rfl⟩⟩
theorem DA.c(hv:Rf T bs L ops n ⟨some d,op,ty,pos,af,g⟩ s v)(K:DA T bs L ops n m l ((d,v) :: s) vs sE R):DA T bs L ops n (m+1) (⟨some d,op,ty,pos,af,g⟩ :: l) s (v :: vs) sE R:=⟨⟨hv.out,K.out⟩⟩
theorem DC.nil:DC T bs L ops n i k l s []:=⟨by cases l<;>exact trivial⟩
theorem DC.c(hv:Rf T bs L ops n o s v)(K:DC T bs L ops n (i+1) k l (jy o.dst v s) vs):DC T bs L ops n i k (o :: l) s (v :: vs):=⟨⟨.inr hv.out,K.out⟩⟩
theorem DC.sk(K:DC T bs L ops n (i+1) k l (jy o.dst v s) vs)(hk:k.contains i=true:=by kernel_rfl):DC T bs L ops n i k (o :: l) s (v :: vs):=⟨⟨.inl (by simpa using hk),K.out⟩⟩
theorem DU.nil:DU T bs L ops n [] s []:=⟨trivial⟩
theorem DU.c(hv:Rf T bs L ops n o s v)(K:DU T bs L ops n l (jy o.dst v s) cs):DU T bs L ops n (o :: l) s (some v :: cs):=⟨⟨hv.out,K.out⟩⟩
theorem DU.gb(K:∀ u,DU T bs L ops n l (jy o.dst u s) cs):DU T bs L ops n (o :: l) s (none :: cs):=⟨fun u=>(K u).out⟩
theorem MC.so(h:MC cs vs):MC (some v :: cs) (v :: vs):=⟨rfl,h⟩
theorem MC.nil:MC [] []:=trivial
theorem iT{p:Prop} (h:p:=by
 repeat (first|exact DA.nil|exact DC.nil|exact DU.nil|((first|apply DA.c|apply DA.cN|apply DC.c|apply DU.c);(first|exact Rf.sk|exact Rf.mv|exact Rf.JT|exact Rf.fa|exact Rf.ld|exact Rf.JX|exact Rf.E6|exact Rf.ldoK|exact Rf.tQ|exact Rf.q8|exact Rf.cmp|exact Rf.ar|exact Rf.ex|exact Rf.Ju|exact Rf.J5|exact Rf.faW|exact Rf.ldW|exact Rf.jj|exact Rf.vH|exact Rf.kE|exact Rf.rA|exact Rf.ldoA|exact Rf.ldKA|exact Rf.ldoKA|exact Rf.not|exact Rf.pT|exact Rf.pF|exact Rf.lV|exact Rf.ixG|exact Rf.fldG|exact Rf.len|exact Rf.nP|exact Rf.eP))|refine DC.sk ?_|(apply DU.gb;intro _))):p:=h
theorem kS[T:TT P]{id:Nat}(hst:St bs L w)(h:∀ w', St bs L w' -> Q .normal (Fr n sE ds) w')(hok:yD l (rI l) []=true:=by kernel_rfl)
 (hA:DA T bs L l.toArray n l.length l s vA sE []:=by exact iT):WP r P (.region id l.toArray true) Q (Fr n s ds) w :=
 aaY T.mx hok hst.drew hA.out h
theorem jD[T:TT P]{id:Nat}(hst:St bs L w)(m:Nat)
 (h:∀ w', St bs L w' -> lG P l.toArray Q n ds s l o sA (JP P l.toArray n ds Q l s vA sA ((rI l).getD m []) o.dst B cs) w')
 (hA:DA T bs L l.toArray n m l s vA sA (o :: B):=by exact iT)
 (hU:∀ v,DU T bs L l.toArray n B (jy o.dst v sA) cs:=by exact fun _=>iT)
 (hok:Jd l m ((rI l).getD m []) (oM (m+1) cs)=true:=by kernel_rfl):WP r P (.region id l.toArray true) Q (Fr n s ds) w :=
 aaU T.mx hok hst.drew hA.out (fun v=>(hU v).out) h
theorem jC[T:TT P](hst:St bs' L1 w1)(h:∀ w', St bs' L1 w' -> Q .normal (Fr n sE ds) w')
 (hB:DA T bs' L1 ops n B.length B (jy dd v sA) vB sE []:=by exact iT)
 (hM:MC cs vB:=by repeat (first|exact MC.nil|refine MC.no ?_|refine MC.so ?_))
 (hC:DC T bs' L1 ops n 0 k l s vA:=by exact iT):JP P ops n ds Q l s vA sA k dd B cs v w1 :=
 ⟨_,hst,hC.out,vB,sE,hB.out,hM,h⟩
structure DF (T:TT P) (bs:List (World×List Nat)) (L:List gi) (ops:Array Oper) (n N m:Nat) (l:List Oper) (s:List (Nat×Value)) (vs:List Value) (sE:List (Nat×Value)) (R:List Oper):Prop where
 out:DA T bs L ops n m l s vs sE R
variable {N:Nat}
theorem DF.c(hv:Rf T bs L ops n ⟨some d,op,ty,pos,af,g⟩ s v)(K:DF T bs L ops n N m l ((d,v) :: s) vs sE R):DF T bs L ops n (N+1) (m+1) (⟨some d,op,ty,pos,af,g⟩ :: l) s (v :: vs) sE R:=⟨.c hv K.out⟩
theorem aaL{p q:Prop} (h:p->q:=by
 intro h
 repeat (first|((first|apply DF.c|apply DF.cN|apply CF.c|apply UF.c);(first|exact Rf.sk|exact Rf.mv|exact Rf.JT|exact Rf.fa|exact Rf.ld|exact Rf.JX|exact Rf.E6|exact Rf.ldoK|exact Rf.tQ|exact Rf.q8|exact Rf.cmp|exact Rf.ar|exact Rf.ex|exact Rf.Ju|exact Rf.J5|exact Rf.faW|exact Rf.ldW|exact Rf.jj|exact Rf.vH|exact Rf.kE|exact Rf.rA|exact Rf.ldoA|exact Rf.ldKA|exact Rf.ldoKA|exact Rf.not|exact Rf.pT|exact Rf.pF|exact Rf.lV|exact Rf.ixG|exact Rf.fldG|exact Rf.len|exact Rf.nP|exact Rf.eP))|refine CF.sk ?_|(apply UF.gb;intro _))
 exact h):p->q:=h
theorem gN{m' : Nat}{l' : List Oper}{s' : List (Nat×Value)}{vs' : List Value}(N:Nat)(K:DA T bs L ops n m' l' s' vs' sE R)(h:DF T bs L ops n 0 m' l' s' vs' sE R->DF T bs L ops n N m l s vs sE R:=by exact aaL):DA T bs L ops n m l s vs sE R:=(h ⟨K⟩).out
theorem gw(hv:∀ wq,St bs L wq->Rw P n s ⟨some d,op,ty,pos,af,g⟩ v (St bs L) wq)(K:DA T bs L ops n m l ((d,v) :: s) vs sE R)(hg:gB ops n s g=true:=by exact rfl)(hd:mE op=true:=by exact rfl):DA T bs L ops n (m+1) (⟨some d,op,ty,pos,af,g⟩ :: l) s (v :: vs) sE R:=.c ⟨fun w h=>.inl ⟨hg,hd,hv w h⟩⟩ K
end
end Go.Sx
namespace Go.Sx
open Go
structure Nd where
 k0:Nat
 k1:Nat
 up:Nat
 flip:Bool
 key:Int
 size:Int
 first:Nat
 iO:Int
 total:Int
 deriving Inhabited
def Nd.cells(x:Nd):List Value:=[.int .i64 x.k0,.int .i64 x.k1,.int .i64 x.up,.bool x.flip,.int .i64 x.key,.int .i64 x.size,.int .i64 x.first,.int .i64 x.iO,.int .i64 x.total]
def jk(xs:List Nd)(i:Nat):Nat×Bool :=
 if (fM xs i).up=0 then(0,false)else if (fM xs (fM xs i).up).k0=i then(0,true)else if (fM xs (fM xs i).up).k1=i then(1,true)else(0,false)
def kU(xs:List Nd)(i j:Nat):Bool:=decide ((fM xs i).key<(fM xs j).key\/(fM xs i).key=(fM xs j).key/\i<j)
def iP(xs:List Nd)(i s k:Nat):List Nd :=
 let ys:=if s=0 then fR xs i (fun x=>{ x with k0:=k })else fR xs i (fun x=>{ x with k1:=k })
 if k=0 then ys else fR ys k (fun x=>{ x with up:=i })
def jK(xs:List Nd)(i:Nat):List Nd :=
 if (fM xs i).flip=true then
  let y0:=fR xs i (fun x=>{ x with flip:=false })
  let y1:=fR y0 i (fun x=>{ x with k0:=(fM y0 i).k1 })
  let y2:=fR y1 i (fun x=>{ x with k1:=(fM y0 i).k0 })
  let y3:=if (fM y2 i).k0=0 then y2 else fR y2 (fM y2 i).k0 (fun x=>{ x with flip := !(fM y2 (fM y2 i).k0).flip })
  if (fM y2 i).k1=0 then y3 else fR y3 (fM y2 i).k1 (fun x=>{ x with flip := !(fM y3 (fM y2 i).k1).flip })
 else xs
structure fZ (xs:List Nd):Prop where
 k0:∀ i,i<xs.length->(fM xs i).k0<xs.length
 k1:∀ i,i<xs.length->(fM xs i).k1<xs.length
 up:∀ i,i<xs.length->(fM xs i).up<xs.length
 first:∀ i,i<xs.length->(fM xs i).first<xs.length
 key:∀ i,i<xs.length->iC .i64 (fM xs i).key
theorem fZ.iE{xs:List Nd}{k:Nat}{f:Nd->Nd}(h:fZ xs)(hk:k<xs.length)
 (hf:∀ x:Nd,x.k0<xs.length->x.k1<xs.length->x.up<xs.length->x.first<xs.length->iC .i64 x.key->(f x).k0<xs.length/\(f x).k1<xs.length/\(f x).up<xs.length/\(f x).first<xs.length/\iC .i64 (f x).key):fZ (fR xs k f):=by
 have key:∀ i,i<xs.length->(fM (fR xs k f) i).k0<xs.length/\(fM (fR xs k f) i).k1<xs.length/\(fM (fR xs k f) i).up<xs.length/\(fM (fR xs k f) i).first<xs.length/\iC .i64 (fM (fR xs k f) i).key:=by
  intro i hi
  rw[j5 hk]
  split
  . exact hf _ (h.k0 k hk) (h.k1 k hk) (h.up k hk) (h.first k hk) (h.key k hk)
  . exact⟨h.k0 i hi,h.k1 i hi,h.up i hi,h.first i hi,h.key i hi⟩
 refine⟨fun i hi=>?_,fun i hi=>?_,fun i hi=>?_,fun i hi=>?_,fun i hi=>?_⟩<;>(rw[gM]at hi;try rw[gM])
 . exact(key i hi).1
 . exact(key i hi).2.1
 . exact(key i hi).2.2.1
 . exact(key i hi).2.2.2.1
 . exact(key i hi).2.2.2.2
end Go.Sx
namespace Go.Sx
open Go
inductive Tr where
 | nil:Tr
 | nd (l:Tr) (i:Nat) (r:Tr):Tr
namespace Tr
def root:Tr->Nat
 | .nil=>0
 | .nd _ i _=>i
def mem:Tr->List Nat
 | .nil=>[]
 | .nd l i r=>l.mem++i :: r.mem
end Tr
def iW(xs:List Nd)(d:Bool)(i:Nat):Nat:=bif d then(fM xs i).k0 else(fM xs i).k1
def mQ(xs:List Nd)(L:List Nat):Int:=(L.map fun j=>1+(fM xs j).iO).sum
def Ix(xs:List Nd)(m:Nat)(L:List Nat):Prop:=m∈L/\∀ j∈L,j=m\/kU xs m j=true
structure oq (xs:List Nd) (i:Nat) (L:List Nat):Prop where
 size:(fM xs i).size=(L.length:Int)
 total:(fM xs i).total=IntKind.i64.wrap (mQ xs L)
 first:Ix xs (fM xs i).first L
def gQ(xs:List Nd):Tr->Nat->Prop
 | .nil,_=>True
 | .nd l i r,p=>(i≠0/\i<xs.length)/\((fM xs i).k0=l.root/\(fM xs i).k1=r.root/\(fM xs i).up=p)/\oq xs i (l.mem++i :: r.mem)/\gQ xs l i/\gQ xs r i
abbrev Cx:=List (Bool×Nat×Tr)
def lT(d:Bool)(t:Tr)(g:Nat)(s:Tr):Tr:=bif d then .nd t g s else .nd s g t
def jM(d:Bool)(L:List Nat)(g:Nat)(s:Tr):List Nat:=bif d then L++g :: s.mem else s.mem++g :: L
def jP:Cx->Tr->Tr
 | [],t=>t
 | (d,g,s) :: c,t=>jP c (lT d t g s)
def kX:Cx->List Nat->List Nat
 | [],L=>L
 | (d,g,s) :: c,L=>kX c (jM d L g s)
def uX:Cx->Nat->Nat
 | [],p=>p
 | (_,g,_) :: _,_=>g
def jJ:Cx->List Nat
 | []=>[]
 | (_,g,s) :: c=>g :: s.mem++jJ c
def me(xs:List Nd):Cx->Nat->List Nat->Nat->Prop
 | [],_,_,_=>True
 | (d,g,s) :: c,h,L,p=>(g≠0/\g<xs.length)/\(iW xs d g=h/\iW xs (!d) g=s.root/\(fM xs g).up=uX c p)/\oq xs g (jM d L g s)/\gQ xs s g/\me xs c g (jM d L g s) p
theorem KJ(d:Bool)(t:Tr)(g:Nat)(s:Tr):(lT d t g s).root=g:=by cases d<;>rfl
theorem Gv(d:Bool)(t:Tr)(g:Nat)(s:Tr):(lT d t g s).mem=jM d t.mem g s:=by cases d<;>rfl
theorem nQ:∀ (c:Cx) (t:Tr),(jP c t).mem=kX c t.mem
 | [],t=>rfl
 | (d,g,s) :: c,t=>by rw[jP,nQ c,Gv,kX]
theorem Tt{xs:List Nd}{d:Bool}{t s:Tr}{g p:Nat}:gQ xs (lT d t g s) p↔(g≠0/\g<xs.length)/\(iW xs d g=t.root/\iW xs (!d) g=s.root/\(fM xs g).up=p)/\oq xs g (jM d t.mem g s)/\gQ xs t g/\gQ xs s g:=by
 cases d
 . simp only[lT,cond_false,gQ,iW,Bool.not_false,cond_true,jM]
   constructor
   . rintro⟨h1,⟨h2,h3,h4⟩,h5,h6,h7⟩;exact⟨h1,⟨h3,h2,h4⟩,h5,h7,h6⟩
   . rintro⟨h1,⟨h2,h3,h4⟩,h5,h6,h7⟩;exact⟨h1,⟨h3,h2,h4⟩,h5,h7,h6⟩
 . simp only[lT,cond_true,gQ,iW,Bool.not_true,cond_false,jM]
theorem vS{xs:List Nd}:∀ (c:Cx) (t:Tr) (p:Nat),gQ xs (jP c t) p↔gQ xs t (uX c p)/\me xs c t.root t.mem p
 | [],t,p=>by simp[jP,uX,me]
 | (d,g,s) :: c,t,p=>by
  rw[jP,vS c,Tt,KJ,Gv]
  simp only[uX,me]
  constructor
  . rintro⟨⟨h1,h2,h3,h4,h5⟩,h6⟩;exact⟨h4,h1,h2,h3,h5,h6⟩
  . rintro⟨h4,h1,h2,h3,h5,h6⟩;exact⟨⟨h1,h2,h3,h4,h5⟩,h6⟩
structure KL (xs ys:List Nd):Prop where
 len:ys.length=xs.length
 key:∀ j,(fM ys j).key=(fM xs j).key
 iO:∀ j,(fM ys j).iO=(fM xs j).iO
theorem KL.refl(xs:List Nd):KL xs xs:=⟨rfl,fun _=>rfl,fun _=>rfl⟩
theorem KL.trans{xs ys zs:List Nd}(h:KL xs ys)(k:KL ys zs):KL xs zs:=⟨k.len.trans h.len,fun j=>(k.key j).trans (h.key j),fun j=>(k.iO j).trans (h.iO j)⟩
theorem KL.before{xs ys:List Nd}(h:KL xs ys)(i j:Nat):kU ys i j=kU xs i j:=by simp[kU,h.key]
theorem KL.EB{xs ys:List Nd}(h:KL xs ys)(L:List Nat):mQ ys L=mQ xs L:=by simp[mQ,h.iO]
theorem KL.IA{xs ys:List Nd}(h:KL xs ys){m:Nat}{L:List Nat}(k:Ix xs m L):Ix ys m L:=⟨k.1,fun j hj=>by rw[h.before];exact k.2 j hj⟩
theorem oq.to{xs ys:List Nd}{i:Nat}{L:List Nat}(h:oq xs i L)(k:KL xs ys)(hs:(fM ys i).size=(fM xs i).size)(ht:(fM ys i).total=(fM xs i).total)(hf:(fM ys i).first=(fM xs i).first):oq ys i L :=
 ⟨hs.trans h.size,by rw[ht,h.total,k.EB],by rw[hf];exact k.IA h.first⟩
theorem gQ.to{xs ys:List Nd}(k:KL xs ys):∀ {t:Tr} {p:Nat},gQ xs t p->(∀ j∈t.mem,fM ys j=fM xs j)->gQ ys t p
 | .nil,_,_,_=>trivial
 | .nd l i r,p,h,hs=>by
  obtain⟨⟨h0,h1⟩,⟨h2,h3,h4⟩,h5,h6,h7⟩:=h
  have hi:=hs i (by simp[Tr.mem])
  refine⟨⟨h0,by rw[k.len];exact h1⟩,⟨by rw[hi];exact h2,by rw[hi];exact h3,by rw[hi];exact h4⟩,h5.to k (by rw[hi]) (by rw[hi]) (by rw[hi]),gQ.to k h6 fun j hj=>hs j (by simp[Tr.mem,hj]),gQ.to k h7 fun j hj=>hs j (by simp[Tr.mem,hj])⟩
theorem gQ.up{xs ys:List Nd}(k:KL xs ys){t:Tr}{p q:Nat}(h:gQ xs t p)(hs:∀ j∈t.mem,j≠t.root->fM ys j=fM xs j)(hr:fM ys t.root={ fM xs t.root with up:=q })(hn:t.mem.Nodup):gQ ys t q:=by
 cases t with
 | nil=>trivial
 | nd l i r =>
  obtain⟨⟨h0,h1⟩,⟨h2,h3,h4⟩,h5,h6,h7⟩:=h
  simp only[Tr.root]at hr hs
  simp only[Tr.mem]at hn hs
  rw[zu]at hn
  obtain⟨n1,n2,n3⟩:=hn
  rw[zy]at n2
  refine⟨⟨h0,by rw[k.len];exact h1⟩,⟨by rw[hr];exact h2,by rw[hr];exact h3,by rw[hr]⟩,h5.to k (by rw[hr]) (by rw[hr]) (by rw[hr]),gQ.to k h6 fun j hj=>hs j (by simp[hj]) ?_,gQ.to k h7 fun j hj=>hs j (by simp[hj]) ?_⟩
  . rintro rfl;exact n3 j hj j s_ rfl
  . rintro rfl;exact n2.1 hj
theorem me.to{xs ys:List Nd}(k:KL xs ys):∀ {c:Cx} {r p:Nat} {L:List Nat},me xs c r L p->(∀ j∈jJ c,fM ys j=fM xs j)->me ys c r L p
 | [],_,_,_,_,_=>trivial
 | (d,g,s) :: c,r,p,L,h,hs=>by
  obtain⟨⟨h0,h1⟩,⟨h2,h3,h4⟩,h5,h6,h7⟩:=h
  have hg:=hs g (by simp[jJ])
  refine⟨⟨h0,by rw[k.len];exact h1⟩,⟨by simp only[iW,hg]at h2 ⊢;exact h2,by simp only[iW,hg]at h3 ⊢;exact h3,by rw[hg];exact h4⟩,h5.to k (by rw[hg]) (by rw[hg]) (by rw[hg]),gQ.to k h6 fun j hj=>hs j (by simp[jJ,hj]),me.to k h7 fun j hj=>hs j (by simp[jJ,hj])⟩
theorem me.kid{xs ys:List Nd}(k:KL xs ys){d:Bool}{g r r' p:Nat}{s:Tr}{c:Cx}{L:List Nat}(h:me xs ((d,g,s) :: c) r L p)(hs:∀ j∈s.mem++jJ c,fM ys j=fM xs j)
 (hg:fM ys g=bif d then { fM xs g with k0:=r' } else { fM xs g with k1:=r' }):me ys ((d,g,s) :: c) r' L p:=by
 obtain⟨⟨h0,h1⟩,⟨h2,h3,h4⟩,h5,h6,h7⟩:=h
 refine⟨⟨h0,by rw[k.len];exact h1⟩,⟨?_,?_,?_⟩,h5.to k ?_ ?_ ?_,gQ.to k h6 fun j hj=>hs j (by simp[hj]),me.to k h7 fun j hj=>hs j (by simp[hj])⟩
 . cases d<;>simp[iW,hg]
 . cases d<;>simp[iW,hg]at h3 ⊢ <;> exact h3
 all_goals cases d<;>simp[hg]<;>exact h4
theorem AK:∀ {c:Cx} {L:List Nat} {j:Nat},j∈kX c L↔j∈L\/j∈jJ c
 | [],L,j=>by simp[kX,jJ]
 | (d,g,s) :: c,L,j=>by
  rw[kX,AK (c:=c)]
  cases d<;>simp only[jM,jJ,cond_true,cond_false,zq,zb]<;>simp only[or_assoc,or_left_comm,or_comm]
theorem AE:∀ {c:Cx} {L:List Nat},(kX c L).Nodup->L.Nodup/\(jJ c).Nodup/\∀ j∈L,j∉jJ c
 | [],L,h=>⟨h,by simp[jJ],by simp[jJ]⟩
 | (d,g,s) :: c,L,h=>by
  obtain⟨h1,h2,h3⟩:=AE (c:=c) h
  have key:L.Nodup/\s.mem.Nodup/\g∉L/\g∉s.mem/\∀ j∈L,j∉s.mem:=by
   cases d
   . simp only[jM,cond_false,zu,zy,zb]at h1
     obtain⟨k1,⟨k2,k3⟩,k4⟩:=h1
     exact⟨k3,k1,k2,fun hg=>k4 g hg g (.inl rfl) rfl,fun j hj hs=>k4 j hs j (.inr hj) rfl⟩
   . simp only[jM,cond_true,zu,zy,zb]at h1
     obtain⟨k1,⟨k2,k3⟩,k4⟩:=h1
     exact⟨k1,k3,fun hg=>k4 g hg g (.inl rfl) rfl,k2,fun j hj hs=>k4 j hj j (.inr hs) rfl⟩
  obtain⟨k1,k2,k3,k4,k5⟩:=key
  have hin:∀ j,j∈jM d L g s↔j∈L\/j=g\/j∈s.mem:=fun j=>by cases d<;>simp only[jM,cond_true,cond_false,zq,zb,or_assoc,or_left_comm,or_comm]
  refine⟨k1,?_,fun j hj hc=>?_⟩
  . rw[jJ,zu,zy]
    refine⟨⟨k4,k2⟩,h2,fun a ha b hb e=>?_⟩
    subst e
    rcases zb.1 ha with rfl|ha
    . exact h3 a ((hin a).2 (.inr (.inl rfl))) hb
    . exact h3 a ((hin a).2 (.inr (.inr ha))) hb
  . rw[jJ,zq,zb]at hc
    rcases hc with (rfl|hc)|hc
    . exact k3 hj
    . exact k5 j hj hc
    . exact h3 j ((hin j).2 (.inl hj)) hc
end Go.Sx
namespace Go.Sx
open Go
theorem UG{l l' : List Int}(h:l.Perm l'):l.sum=l'.sum:=by
 induction h with
 | nil=>rfl
 | cons x _ ih=>simp only[List.sum_cons,ih]
 | swap x y l=>simp only[List.sum_cons];omega
 | trans _ _ h1 h2=>exact h1.trans h2
theorem Sv{xs:List Nd}{L L' : List Nat}(h:L.Perm L'):mQ xs L=mQ xs L' := UG (h.map _)
theorem oq.perm{xs:List Nd}{i:Nat}{L L' : List Nat}(h:oq xs i L)(k:L.Perm L'):oq xs i L' := by
 refine⟨by rw[h.size,k.length_eq],?_,⟨k.mem_iff.1 h.first.1,fun j hj=>h.first.2 j (k.mem_iff.2 hj)⟩⟩
 rw[h.total,Sv k]
theorem RB(xs:List Nd)(L M:List Nat):mQ xs (L++M)=mQ xs L+mQ xs M:=by simp[mQ]
theorem GI(x:Int):IntKind.i64.wrap x=if 9223372036854775808<=x%18446744073709551616 then x%18446744073709551616-18446744073709551616 else x%18446744073709551616:=by
 show (if (true&&decide (x%18446744073709551616≥9223372036854775808))=true then x%18446744073709551616-18446744073709551616 else x%18446744073709551616)=_
 simp
theorem Mo(x:Int):IntKind.i64.wrap x=(x+9223372036854775808)%18446744073709551616-9223372036854775808:=by
 rw[GI];split<;>omega
theorem Tw(a b:Int):IntKind.i64.wrap (IntKind.i64.wrap a+IntKind.i64.wrap b)=IntKind.i64.wrap (a+b):=by
 simp only[Mo];omega
theorem UH{x:Int}(h : -9223372036854775808<=x)(h' : x<=9223372036854775807):IntKind.i64.wrap x=x:=by rw[Mo];omega
def lR(xs:List Nd)(i k:Nat):List Nd :=
 if k=0 then xs else
  let y0:=fR xs i (fun x=>{ x with size:=IntKind.i64.wrap (x.size+(fM xs k).size) })
  let y1:=fR y0 i (fun x=>{ x with total:=IntKind.i64.wrap (x.total+(fM y0 k).total) })
  if kU y1 (fM y1 k).first (fM y1 i).first then fR y1 i (fun x=>{ x with first:=(fM y1 k).first })else y1
def iJ(xs:List Nd)(i:Nat):List Nd :=
 let y:=fR xs i (fun x=>{ x with size:=1,first:=i,total:=IntKind.i64.wrap (1+x.iO) })
 lR (lR y i (fM xs i).k0) i (fM xs i).k1
structure nh (xs ys:List Nd) (i:Nat):Prop where
 len:ys.length=xs.length
 other:∀ j,j≠i->fM ys j=fM xs j
 here:∃ s t f,fM ys i={ fM xs i with size:=s,total:=t,first:=f }
theorem nh.refl(xs:List Nd)(i:Nat):nh xs xs i:=⟨rfl,fun _ _=>rfl,_,_,_,rfl⟩
theorem nh.trans{xs ys zs:List Nd}{i:Nat}(h:nh xs ys i)(k:nh ys zs i):nh xs zs i:=by
 obtain⟨s,t,f,e⟩:=h.here
 obtain⟨s', t', f', e'⟩:=k.here
 exact⟨k.len.trans h.len,fun j hj=>(k.other j hj).trans (h.other j hj),s', t', f', by rw[e', e]⟩
theorem nh.kl{xs ys:List Nd}{i:Nat}(h:nh xs ys i):KL xs ys:=by
 obtain⟨s,t,f,e⟩:=h.here
 refine⟨h.len,fun j=>?_,fun j=>?_⟩<;>(by_cases hj:j=i)
 . subst hj;rw[e]
 . rw[h.other j hj]
 . subst hj;rw[e]
 . rw[h.other j hj]
theorem nh.flip{xs ys:List Nd}{i:Nat}(h:nh xs ys i)(j:Nat):(fM ys j).flip=(fM xs j).flip:=by
 obtain⟨s,t,f,e⟩:=h.here
 by_cases hj:j=i
 . subst hj;rw[e]
 . rw[h.other j hj]
theorem Ko{xs:List Nd}{i k:Nat}{L M:List Nat}(hi:i<xs.length)(hk:k<xs.length)(h:oq xs i L)(hM:k≠0->k≠i/\oq xs k M)(h0:k=0->M=[])(hlen:L.length+M.length<=1000001) :
 nh xs (lR xs i k) i/\oq (lR xs i k) i (L++M):=by
 unfold lR
 by_cases hk0:k=0
 . rw[if_pos hk0,h0 hk0,qC];exact⟨nh.refl _ _,h⟩
 . rw[if_neg hk0]
   obtain⟨hne,hv⟩:=hM hk0
   obtain⟨y0,e0⟩:∃ y,y=fR xs i (fun x=>{ x with size:=IntKind.i64.wrap (x.size+(fM xs k).size) }):=⟨_,rfl⟩
   obtain⟨y1,e1⟩:∃ y,y=fR y0 i (fun x=>{ x with total:=IntKind.i64.wrap (x.total+(fM y0 k).total) }):=⟨_,rfl⟩
   simp only[<-e0,<-e1]
   have l0:y0.length=xs.length:=by rw[e0,gM]
   have l1:y1.length=xs.length:=by rw[e1,gM,l0]
   have a0:fM y0 i={ fM xs i with size:=IntKind.i64.wrap ((fM xs i).size+(fM xs k).size) }:=by rw[e0,kr hi]
   have b0:∀ j,j≠i->fM y0 j=fM xs j:=fun j hj=>by rw[e0,kn (fun e=>hj e.symm)]
   have a1:fM y1 i={ fM xs i with size:=IntKind.i64.wrap ((fM xs i).size+(fM xs k).size),total:=IntKind.i64.wrap ((fM xs i).total+(fM xs k).total) }:=by
    rw[e1,kr o_,a0,b0 k hne]
   have b1:∀ j,j≠i->fM y1 j=fM xs j:=fun j hj=>by rw[e1,kn (fun e=>hj e.symm),b0 j hj]
   have o1:nh xs y1 i:=⟨l1,b1,_,_,_,a1⟩
   have hs:IntKind.i64.wrap ((fM xs i).size+(fM xs k).size)=((L++M).length:Int):=by
    rw[h.size,hv.size,UH o_ o_,zw];omega
   have ht:IntKind.i64.wrap ((fM xs i).total+(fM xs k).total)=IntKind.i64.wrap (mQ xs (L++M)):=by
    rw[h.total,hv.total,Tw,RB]
   have hb:∀ a b,kU y1 a b=kU xs a b:=o1.kl.before
   have fk:(fM y1 k).first=(fM xs k).first:=by rw[b1 k hne]
   have fi:(fM y1 i).first=(fM xs i).first:=by rw[a1]
   have tr:∀ a b c,kU xs a b=true->kU xs b c=true->kU xs a c=true:=by
    intro a b c h1 h2
    simp only[kU,decide_eq_true_eq]at h1 h2 ⊢;omega
   have tot:∀ a b,kU xs a b=false->a=b\/kU xs b a=true:=by
    intro a b h1
    simp only[kU,decide_eq_true_eq,decide_eq_false_iff_not]at h1 ⊢;omega
   rw[fk,fi,hb]
   cases hc:kU xs (fM xs k).first (fM xs i).first with
   | true =>
    rw[if_pos rfl]
    have e2:fM (fR y1 i (fun x=>{ x with first:=(fM xs k).first })) i={ fM xs i with size:=IntKind.i64.wrap ((fM xs i).size+(fM xs k).size),total:=IntKind.i64.wrap ((fM xs i).total+(fM xs k).total),first:=(fM xs k).first }:=by
     rw[kr o_,a1]
    have o2:nh xs (fR y1 i (fun x=>{ x with first:=(fM xs k).first })) i:=⟨by rw[gM,l1],fun j hj=>by rw[kn (fun e=>hj e.symm),b1 j hj],_,_,_,e2⟩
    refine⟨o2,⟨by rw[e2];exact hs,by rw[e2,o2.kl.EB];exact ht,?_⟩⟩
    rw[e2]
    refine o2.kl.IA ⟨vE _ hv.first.1,fun j hj=>?_⟩
    rcases zq.1 hj with hj|hj
    . rcases h.first.2 j hj with rfl|hj
      . exact .inr hc
      . exact .inr (tr _ _ _ hc hj)
    . exact hv.first.2 j hj
   | false =>
    rw[if_neg s_]
    refine⟨o1,⟨by rw[a1];exact hs,by rw[a1,o1.kl.EB];exact ht,?_⟩⟩
    rw[fi]
    refine o1.kl.IA ⟨ve _ h.first.1,fun j hj=>?_⟩
    rcases zq.1 hj with hj|hj
    . exact h.first.2 j hj
    . rcases tot _ _ hc with e|e
      . rw[<-e];exact hv.first.2 j hj
      . rcases hv.first.2 j hj with rfl|hj
        . exact .inr e
        . exact .inr (tr _ _ _ e hj)
theorem gQ.vals{xs:List Nd}{t:Tr}{p:Nat}(h:gQ xs t p):t.root≠0->oq xs t.root t.mem:=by
 cases t with
 | nil=>intro h;exact absurd rfl h
 | nd l i r=>intro _;exact h.2.2.1
theorem gQ.mq{xs:List Nd}{t:Tr}{p:Nat}(h:gQ xs t p):t.root≠0->t.root∈t.mem:=by
 cases t with
 | nil=>intro h;exact absurd rfl h
 | nd l i r=>intro _;simp[Tr.root,Tr.mem]
theorem gQ.GX{xs:List Nd}{t:Tr}{p:Nat}(h:gQ xs t p):t.root=0->t.mem=[]:=by
 cases t with
 | nil=>intro _;rfl
 | nd l i r=>intro e;exact absurd e h.1.1
theorem gQ.xK{xs:List Nd}{t:Tr}{p:Nat}(h:gQ xs t p)(h0:0<xs.length):t.root<xs.length:=by
 cases t with
 | nil=>exact h0
 | nd l i r=>exact h.1.2
theorem gQ.oK{xs:List Nd}:∀ {t:Tr} {p:Nat},gQ xs t p->∀ j∈t.mem,j≠0/\j<xs.length
 | .nil,_,_,j,hj=>by simp[Tr.mem]at hj
 | .nd l i r,p,h,j,hj=>by
  obtain⟨h1,_,_,h4,h5⟩:=h
  simp only[Tr.mem,zq,zb]at hj
  rcases hj with hj|rfl|hj
  . exact gQ.oK h4 j hj
  . exact h1
  . exact gQ.oK h5 j hj
theorem xl{xs:List Nd}{i:Nat}{l r:Tr}(hi:i≠0/\i<xs.length)(hl:gQ xs l i)(hr:gQ xs r i)(h0:(fM xs i).k0=l.root)(h1:(fM xs i).k1=r.root)(hn:(l.mem++i :: r.mem).Nodup)(hlen:(l.mem++i :: r.mem).length<=1000000) :
 nh xs (iJ xs i) i/\gQ (iJ xs i) (.nd l i r) (fM xs i).up:=by
 have hpos:0<xs.length:=by omega
 rw[zu,zy]at hn
 obtain⟨n1,⟨n2,n3⟩,n4⟩:=hn
 have nl:i∉l.mem:=fun h=>n4 i h i s_ rfl
 simp only[zw,zp]at hlen
 unfold iJ
 obtain⟨y,ey⟩:∃ y,y=fR xs i (fun x=>{ x with size:=1,first:=i,total:=IntKind.i64.wrap (1+x.iO) }):=⟨_,rfl⟩
 simp only[<-ey]
 have ay:fM y i={ fM xs i with size:=1,first:=i,total:=IntKind.i64.wrap (1+(fM xs i).iO) }:=by rw[ey,kr hi.2]
 have ly:y.length=xs.length:=by rw[ey,gM]
 have by_:∀ j,j≠i->fM y j=fM xs j:=fun j hj=>by rw[ey,kn (fun e=>hj e.symm)]
 have oy:nh xs y i:=⟨ly,by_,_,_,_,ay⟩
 have vy:oq y i [i]:=⟨by rw[ay];rfl,by rw[ay,oy.kl.EB];simp[mQ],by rw[ay];exact⟨s_,fun j hj=>.inl (by simpa using hj)⟩⟩
 have hl' : gQ y l i:=hl.to oy.kl fun j hj=>by_ j (fun e=>nl (e▸hj))
 have hr' : gQ y r i:=hr.to oy.kl fun j hj=>by_ j (fun e=>n2 (e▸hj))
 rw[h0,h1]
 obtain⟨o1,v1⟩:=Ko (xs:=y) (i:=i) (k:=l.root) (L:=[i]) (M:=l.mem) o_ (hl'.xK o_) vy (fun h=>⟨fun e=>nl (e▸hl.mq h),hl'.vals h⟩) (hl'.GX) (by simp;omega)
 have hr2:=hr'.to o1.kl fun j hj=>o1.other j (fun e=>n2 (e▸hj))
 have hl2:=hl'.to o1.kl fun j hj=>o1.other j (fun e=>nl (e▸hj))
 obtain⟨o2,v2⟩:=Ko (xs:=lR y i l.root) (i:=i) (k:=r.root) (L:=[i]++l.mem) (M:=r.mem) (by rw[o1.len];omega) (hr2.xK (by rw[o1.len];omega)) v1 (fun h=>⟨fun e=>n2 (e▸hr.mq h),hr2.vals h⟩) (hr2.GX) (by simp;omega)
 have o3:=(oy.trans o1).trans o2
 obtain⟨s,t,f,e3⟩:=o3.here
 refine⟨o3,⟨hi.1,by rw[o3.len];exact hi.2⟩,⟨by rw[e3];exact h0,by rw[e3];exact h1,by rw[e3]⟩,v2.perm ?_,hl2.to o2.kl fun j hj=>o2.other j (fun e=>nl (e▸hj)),hr2.to o2.kl fun j hj=>o2.other j (fun e=>n2 (e▸hj))⟩
 simp only[List.singleton_append,o6]
 exact u7.symm
end Go.Sx
