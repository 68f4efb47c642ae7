import Derived.Calls
import Derived.Laws.Sem
import Derived.IntWalk
import Derived.Laws.Cells
import Derived.Laws.CopyRow
import Derived.Laws.Entries
/- Parts of a proof. -/
set_option linter.unusedSimpArgs false
set_option linter.unusedVariables false
set_option linter.unusedSectionVars false
open Array renaming getElem?_eq_some_iff->av, getElem?_push->ax, toList->ay
open BitVec renaming ofInt->aT
open Go renaming Program->a0, TypeId->a1, Value->a5, step_lone_go->a6, World->a7, FuncId->a8, Operand->a9, Frame->bb, execOp->be, step_leave_returned->bi, Deferred->bk, MapEntry->bl, IntKind->bo, Calls->br
open Go.Region renaming wanted->bv, binds->b0
open Go.Steps renaming trans->b1, one->b2
open Go.stepG renaming exec->b3, apply->b4, oper->b5
open List renaming replicate->cb, getElem?_set_ne->cc, getElem?_eq_some_iff->ce, getElem?_set_self->ck, getElem?_append_left->cv, map_cons->cx, getElem?_append_right->cy, mem_or_eq_of_mem_set->c6, length_eq_zero_iff->c9, take_append_drop->da, mem_of_getElem?->db, replicate_succ->dg, set_cons_zero->dk, length_append->dl, append_assoc->dp, length_cons->dq, cons_append->dz
open Nat renaming le_refl->ea, le_trans->eb, lt_of_lt_of_le->ec, ne_of_lt->ed
open Ne renaming symm->ee
namespace Go.au
set_option linter.unusedSectionVars false
inductive PV where
 |undef
 |bool (b:Bool)
 |int (k:bo) (n:Int)
 |str (s:List Nat)
 |dD
 |cz (t:PV)
 |aG
 |bw (full:Bool) (es:List PV)
 |seq (es:List PV)
 |ff
 |eE (es:List (PV×PV))
 |func (f:a8) (first gT:List PV)
 |gV
 |fF
 |st (u:a1) (fs:List PV)
 |aC (vs:List PV)
 deriving Inhabited
inductive AV where
 |p (v:PV)
 |ptr (b:Nat) (path:List (a1×Nat))
 |bX (b al ai i:Nat) (path:List (a1×Nat))
 |sl (b al ai off len:Nat)
 |map (b:Nat)
 |func (f:a8) (first gT:List AV)
 |st (u:a1) (fs:List AV)
 |aC (vs:List AV)
 deriving Inhabited
inductive AK where|exact|grow|frozen|bytes
 deriving DecidableEq
def AK.gr:AK->Bool
 | .grow| .bytes=>true
 |_=>false
structure eU where
 st:LoopState
 pending:Option Code
 n:Nat
 params:List Tmp
 assign:Code
 body:Code
 env:List (Nat×AV)
inductive Obj where
 |hole
 |dead
 |box (fz:Bool) (t:AV)
 |arr (k:AK) (al ai:Nat) (es:List AV)
 |map (fz:Bool) (es:List (PV×PV))
 |dt (ks:List PV) (vs:List AV)
 |dv (s:List Nat) (pos:Nat)
 |loop (L:eU)
 deriving Inhabited
abbrev Heap:=List Obj
abbrev Env:=List (Nat×AV)
structure St where
 env:Env
 heap:Heap
def aM(e:Env)(t:Nat):AV:=
 match e with
 |[]=>.p .undef
 |(k,v)::r=>if t=k then v else aM r t
inductive jc where|bad|leaf|agg (u:a1)
 deriving DecidableEq
def aL:PV->jc
 | .undef| .aC _=>.bad
 | .st u _=>.agg u
 |_=>.leaf
def ad:AV->jc
 | .p v=>aL v
 | .aC _=>.bad
 | .st u _=>.agg u
 |_=>.leaf
def cE:PV->List PV
 | .st _ fs=>fs
 |_=>[]
section tables
variable(P:a0)
def dH(u:a1):Option (List Nat):=
 match(P.info? u).map (fun i:TypeInfo=>i.desc)with
 |some (.struct fs)=>
  let l:=fs.toList.map fun f=>P.cellsOf f.type
  if l.all (0<·)&&l.sum==P.cellsOf u&&(fs.toList.zipIdx.all fun(f,i)=>f.offset==(l.take i).sum)then some l else none
 |some (.array n e)=>if 0<P.cellsOf e&&n*P.cellsOf e==P.cellsOf u then some (cb n (P.cellsOf e))else none
 |_=>none
def kindOf(T:a1):jc:=
 match P.underlying T with
 |some (.struct _)|some (.array _ _)=>
  if(dH P (P.underlyingId T)).isSome&&P.cellsOf T==P.cellsOf (P.underlyingId T)then .agg (P.underlyingId T)else .bad
 |some _=>if P.cellsOf T==1 then .leaf else .bad
 |none=>.bad
def bE:jc->Nat
 | .bad=>0
 | .leaf=>1
 | .agg u=>P.cellsOf u
def je(u:a1):List a1:=
 match(P.info? u).map (fun i:TypeInfo=>i.desc)with
 |some (.struct fs)=>fs.toList.map (·.type)
 |some (.array n e)=>cb n e
 |_=>[]
end tables
def ofConst:a5->PV
 | .bool b=>.bool b
 | .int k n=>.int k n
 | .string s=>.str (s.data.toList.map (·.toNat))
 | .pointer none=>.dD
 | .slice none 0 0=>.aG
 | .map none=>.ff
 | .nilFunc=>.gV
 | .nilIface=>.fF
 |_=>.undef
def ow(P:a0)(a:a1->List a5->Option PV):List a1->List Nat->List a5->Option (List PV)
 |[],[],[]=>some []
 |T::b,s::c,cs=>
  if(cs.take s).length=s then
   match a T (cs.take s),ow P a b c (cs.drop s)with
   |some v,some vs=>if bE P (aL v)=s then some (v::vs)else none
   |_,_=>none
  else none
 |_,_,_=>none
def sx(P:a0):Nat->a1->List a5->Option PV
 |0,_,_=>none
 |n+1,T,cs=>
  match kindOf P T with
  | .leaf=>match cs with
   |[c]=>match ofConst c with
    | .undef=>none
    |v=>some v
   |_=>none
  | .agg u=>match dH P u with
   |some l=>
    match ow P (sx P n) (je P u) l cs with
    |some fs=>some (.st u fs)
    |none=>none
   |none=>none
  | .bad=>none
def yG:a5->jc->Bool
 | .agg _,.agg _=>true
 | .agg _,_=>false
 |_,.agg _=>false
 |_,_=>true
def cK(P:a0)(T:a1):Option PV:=
 match(P.info? T).bind (·.zero)with
 |some z=>if yG z (kindOf P T)then sx P 40 T z.cells.toList else none
 |none=>none
section relation
variable(P:a0)(w:a7)(aa:Nat->Prop)
def gB(ak off:Nat)(cs:List a5):Prop:=∀i(h:i<cs.length),w.cell? ⟨ak,off+i,none⟩=some cs[i]
mutual
def aV:PV->List a5->Prop
 | .undef,_| .aC _,_=>False
 | .bool b,cs=>cs=[.bool b]
 | .int k n,cs=>cs=[.int k n]
 | .str s,cs=>∃bs:ByteArray,cs=[.string bs]/\s=bs.data.toList.map (·.toNat)
 | .dD,cs=>cs=[.pointer none]
 | .cz t,cs=>∃ak off ts,aV t ts/\aa ak/\gB w ak off ts/\cs=[.pointer (some ⟨ak,off,none⟩)]
 | .aG,cs=>cs=[.slice none 0 0]
 | .bw full es,cs=>∃ak off cap ai a,bc (cb es.length ai) es a/\(es≠[]->aa ak)/\gB w ak off a.flatten/\
  (full=true->cap=es.length)/\es.length<=cap/\∃sp,(sp=none\/cap=0)/\cs=[.slice (some ⟨ak,off,sp⟩) es.length cap]
 | .seq es,cs=>(es=[]/\cs=[.slice none 0 0])\/∃ak off cap ai a,bc (cb es.length ai) es a/\(es≠[]->aa ak)/\gB w ak off a.flatten/\
  es.length<=cap/\∃sp,(sp=none\/cap=0)/\cs=[.slice (some ⟨ak,off,sp⟩) es.length cap]
 | .ff,cs=>cs=[.map none]
 | .eE es,cs=>∃r h j,aa r/\w.heap[r]?=some (.map h j)/\cC es h.toList/\cs=[.map (some r)]
 | .func f first gT,cs=>∃i g,bg first i/\bg gT g/\cs=[.func (.func f) i.toArray g.toArray]
 | .gV,cs=>cs=[.nilFunc]
 | .fF,cs=>cs=[.nilIface]
 | .st u fs,cs=>∃l a,dH P u=some l/\bc l fs a/\cs=a.flatten
def bc:List Nat->List PV->List (List a5)->Prop
 |[],[],a=>a=[]
 |n::p,v::vs,a=>∃c cs,a=c::cs/\aV v c/\c.length=n/\bc p vs cs
 |_,_,_=>False
def aw:PV->a5->Prop
 | .undef,_=>True
 | .aC vs,v=>∃d,bg vs d/\v=.tuple d.toArray
 | .st u fs,v=>∃l a,dH P u=some l/\bc l fs a/\v=.agg a.flatten.toArray
 | .bool b,v=>v=.bool b
 | .int k n,v=>v=.int k n
 | .str s,v=>∃bs:ByteArray,v=.string bs/\s=bs.data.toList.map (·.toNat)
 | .dD,v=>v=.pointer none
 | .cz t,v=>∃ak off ts,aV t ts/\aa ak/\gB w ak off ts/\v=.pointer (some ⟨ak,off,none⟩)
 | .aG,v=>v=.slice none 0 0
 | .bw full es,v=>∃ak off cap ai a,bc (cb es.length ai) es a/\(es≠[]->aa ak)/\gB w ak off a.flatten/\
  (full=true->cap=es.length)/\es.length<=cap/\∃sp,(sp=none\/cap=0)/\v=.slice (some ⟨ak,off,sp⟩) es.length cap
 | .seq es,v=>(es=[]/\v= .slice none 0 0)\/∃ak off cap ai a,bc (cb es.length ai) es a/\(es≠[]->aa ak)/\gB w ak off a.flatten/\
  es.length<=cap/\∃sp,(sp=none\/cap=0)/\v=.slice (some ⟨ak,off,sp⟩) es.length cap
 | .ff,v=>v=.map none
 | .eE es,v=>∃r h j,aa r/\w.heap[r]?=some (.map h j)/\cC es h.toList/\v=.map (some r)
 | .func f first gT,v=>∃i g,bg first i/\bg gT g/\v=.func (.func f) i.toArray g.toArray
 | .gV,v=>v=.nilFunc
 | .fF,v=>v=.nilIface
def bg:List PV->List a5->Prop
 |[],d=>d=[]
 |v::vs,d=>∃y o,d=y::o/\aw v y/\bg vs o
def cC:List (PV×PV)->List bl->Prop
 |[],es=>es=[]
 |(k,v)::r,es=>∃e m,es=e::m/\aw k e.key/\aw v e.val/\cC r m
end
end relation
class Gl where
 g:Nat->PV
 u8:a1
 raw:Nat->Option (Array a5)
 bx:a1->Option a1
def iU[Gl](T:a1)(s:jc):Bool:=match s with
 | .agg u=>match Gl.bx u with
  |some a=>Nat.beq T a
  |none=>true
 |_=>true
structure mg[Gl](P:a0)(w:a7)(aa:Nat->Prop):Prop where
 val:∀g,aw P w aa (Gl.g g) (.pointer (some ⟨g,0,none⟩))
 raw:∀g cs,Gl.raw g=some cs->aa g/\∃T,w.heap[g]?=some (.cells cs T (0,0))
end Go.au
namespace Go.au
variable[Gl]
structure Bd where
 ak:Nat->Nat
 cap:Nat->Nat
def fL(P:a0):List (a1×Nat)->Option Nat
 |[]=>some 0
 |(u,i)::r=>
  match dH P u,fL P r with
  |some l,some o=>if i<l.length then some ((l.take i).sum+o)else none
  |_,_=>none
def Obj.tC:Obj->Prop
 | .map _ _| .dt _ _=>True
 |_=>False
section
variable(P:a0)(w:a7)(aa:Nat->Prop)(β:Bd)(H:Heap)
def me(b:Nat):Prop:=∃fz t,H[b]?=some (.box fz t)
def ez(b al ai:Nat)(k:AK)(a:List AV):Prop:=H[b]?=some (.arr k al ai a)
def c8(k:AK)(a:List AV):Prop:=k.gr=true/\a=[]
def nw(b:Nat):Prop:=∃o,H[b]?=some o/\o.tC
def mf(b:Nat):Prop:=(∃s pos,H[b]?=some (.dv s pos))
def gC(b:Nat):Prop:=(∃L,H[b]?=some (.loop L))
def bO:AV->a5->Prop
 | .ptr b path,v=>∃ak off o,v=.pointer (some ⟨ak,off,none⟩)/\fL P path=some o/\(me H b\/mf H b->ak=β.ak b/\off=o)
 | .bX b al ai i path,v=>∃ak off o,v=.pointer (some ⟨ak,off,none⟩)/\fL P path=some o/\∀k a,ez H b al ai k a->¬c8 k a->ak=β.ak b/\off=i*ai+o
 | .sl b al ai off len,v=>∀k a,ez H b al ai k a->
  off+len<=a.length/\(c8 k a->v=.slice none 0 0)/\(¬c8 k a->v=.slice (some ⟨β.ak b,off*ai,none⟩) len (β.cap b-off))
 | .map b,v=>(nw H b->v=.map (some (β.ak b)))/\(gC H b->v=.func (.yield (β.ak b)) #[] #[])
 |_,_=>False
def bI(v:AV)(x:a5):Prop:=x.oneCell'=true/\bO P β H v x
mutual
def bf:AV->List a5->Prop
 | .p t,cs=>aV P w aa t cs
 | .st u fs,cs=>∃l a,dH P u=some l/\bH l fs a/\cs=a.flatten
 | .func f first gT,cs=>∃e d,bt first e/\bt gT d/\cs=[.func (.func f) e.toArray d.toArray]
 | .aC _,_=>False
 | .ptr b path,cs=>∃v,cs=[v]/\bI P β H (.ptr b path) v
 | .bX b al ai i path,cs=>∃v,cs=[v]/\bI P β H (.bX b al ai i path) v
 | .sl b al ai off len,cs=>∃v,cs=[v]/\bI P β H (.sl b al ai off len) v
 | .map b,cs=>∃v,cs=[v]/\bI P β H (.map b) v
def bH:List Nat->List AV->List (List a5)->Prop
 |[],[],a=>a=[]
 |n::h,v::vs,a=>∃c cs,a=c::cs/\bf v c/\c.length=n/\bH h vs cs
 |_,_,_=>False
def ar:AV->a5->Prop
 | .p t,v=>aw P w aa t v
 | .st u fs,v=>∃l a,dH P u=some l/\bH l fs a/\v=.agg a.flatten.toArray
 | .func f first gT,v=>∃e d,bt first e/\bt gT d/\v=.func (.func f) e.toArray d.toArray
 | .aC vs,v=>∃xs,bt vs xs/\v=.tuple xs.toArray
 | .ptr b path,v=>bI P β H (.ptr b path) v
 | .bX b al ai i path,v=>bI P β H (.bX b al ai i path) v
 | .sl b al ai off len,v=>bI P β H (.sl b al ai off len) v
 | .map b,v=>bI P β H (.map b) v
def bt:List AV->List a5->Prop
 |[],xs=>xs=[]
 |v::vs,xs=>∃y g,xs=y::g/\ar v y/\bt vs g
end
mutual
def aB(n:Nat×Nat->Prop):AV->Prop
 | .p _=>True
 | .ptr b _| .map b=>n (b,0)
 | .bX b al _ _ _| .sl b al _ _ _=>n (b,al)
 | .func _ first gT=>aP n first/\aP n gT
 | .st _ fs=>aP n fs
 | .aC vs=>aP n vs
def aP(n:Nat×Nat->Prop):List AV->Prop
 |[]=>True
 |v::vs=>aB n v/\aP n vs
end
def Obj.has:Obj->Nat->Prop
 | .hole,_=>False
 | .arr _ al _ _,v=>v<=al
 |_,_=>True
def aH(H:Heap)(x:Nat×Nat):Prop:=∃o,H[x.1]?=some o/\o.has x.2
def AV.qP:AV->Prop
 | .p _=>True
 |_=>False
def Obj.refs(n:Nat×Nat->Prop):Obj->Prop
 | .box _ t=>aB n t
 | .arr _ _ _ es=>aP n es
 | .dt _ vs=>aP n vs
 | .loop L=>∀x,aB n (aM L.env x)
 |_=>True
def Obj.live:Obj->Prop
 | .hole| .dead=>False
 | .arr k _ _ es=>¬c8 k es
 |_=>True
variable(ah:Nat->Prop)
def cB(fz:Bool)(b:Nat):Prop:=if fz then aa (β.ak b)else¬aa (β.ak b)/\¬ah (β.ak b)
def eL(b:Nat):Obj->Prop
 | .hole| .dead=>True
 | .box fz t=>∃cs T,w.heap[β.ak b]?=some (.cells cs T (0,0))/\bf P w aa β H t cs.toList/\cB aa β ah fz b/\(fz=true->t.qP)/\iU T (ad t)=true
 | .arr k _ver ai es=>c8 k es\/
  ∃cs T d f,w.heap[β.ak b]?=some (.cells cs T (0,0))/\bH P w aa β H (cb es.length ai) es d/\cs.toList=d.flatten++f/\
   cs.size=β.cap b*ai/\es.length<=β.cap b/\(k=.exact->β.cap b=es.length)/\cB aa β ah (k== .frozen) b/\(k=.frozen->∀e∈es,e.qP)/\(k=.bytes->T=Gl.u8)
 | .map fz es=>∃a c,w.heap[β.ak b]?=some (.map a c)/\cC P w aa es a.toList/\cB aa β ah fz b
 | .dt ks vs=>∃a c,w.heap[β.ak b]?=some (.map a c)/\bg P w aa ks (a.toList.map (·.key))/\bt P w aa β H vs (a.toList.map (·.val))/\cB aa β ah false b
 | .dv s pos=>∃bs:ByteArray,w.heap[β.ak b]?=some (.stringIter bs pos)/\s=bs.data.toList.map (·.toNat)/\cB aa β ah false b
 | .loop L=>∃tmps defers fn,w.heap[β.ak b]?=some (.loop {state:=L.st,pending:=L.pending,fn,tmps,params:=L.params.toArray,assign:=L.assign,body:=L.body,defers})/\tmps.size=L.n/\
  (∀x,ar P w aa β H (aM L.env x) (tmps.getD x undef))/\cB aa β ah false b
structure bQ:Prop where
 cF:∀b o,H[b]?=some o->eL P w aa β H ah b o
 inj:∀b b' o o',H[b]?=some o->H[b']?=some o'->o.live->o'.live->¬aa (β.ak b)->β.ak b=β.ak b'->b=b'
 refs:∀(b:Nat)(o:Obj),H[b]?=some o->o.refs (aH H)
 bR:∀k,aa k->k<w.heap.size
 dT:∀k,ah k->k<w.heap.size
 gU:mg P w aa
end
structure Ext(ah aa:Nat->Prop)(w w':a7):Prop where
 size:w.heap.size<=w'.heap.size
 same:∀k,ah k\/aa k->w'.heap[k]?=w.heap[k]?
 io:w'.os=w.os/\w'.output=w.output
structure b8(β:Bd)(H:Heap)(aJ:Bd)(H':Heap):Prop where
 box:∀b,aH H (b,0)->me H' b->me H b/\aJ.ak b=β.ak b
 it:∀b,aH H (b,0)->mf H' b->mf H b/\aJ.ak b=β.ak b
 map:∀b,aH H (b,0)->nw H' b->nw H b/\aJ.ak b=β.ak b
 arr:∀b al ai k es,aH H (b,al)->ez H' b al ai k es->∃k0 gp,ez H b al ai k0 gp/\gp.length<=es.length/\(c8 k es↔c8 k0 gp)/\(¬c8 k es->aJ.ak b=β.ak b/\aJ.cap b=β.cap b)
 loop:∀b,aH H (b,0)->gC H' b->gC H b/\aJ.ak b=β.ak b
theorem b8.refl(β:Bd)(H:Heap):b8 β H β H:=
 ⟨fun _ _ h=>⟨h,rfl⟩,fun _ _ h=>⟨h,rfl⟩,fun _ _ h=>⟨h,rfl⟩,fun _ _ _ k a _ h=>⟨k,a,h,ea _,Iff.rfl,fun _=>⟨rfl,rfl⟩⟩,fun _ _ h=>⟨h,rfl⟩⟩
theorem Ext.refl(ah aa:Nat->Prop)(w:a7):Ext ah aa w w:=⟨ea _,fun _ _=>rfl,rfl,rfl⟩
section mono
variable{P:a0}{w w':a7}{aa aD:Nat->Prop}
theorem UF{ak off:Nat}(h:w'.heap[ak]?=w.heap[ak]?):w'.cell? ⟨ak,off,none⟩=w.cell? ⟨ak,off,none⟩:=by
 simp[World.cell?,h]
theorem gB.same{ak off:Nat}{cs:List a5}(h:w'.heap[ak]?=w.heap[ak]?)(hc:gB w ak off cs):gB w' ak off cs:=
 fun i hi=>(UF h).trans (hc i hi)
theorem tO{n:List Nat}{a:List (List a5)}(h:bc P w aa n [] a):a=[]:=by
 cases n<;>simp[bc]at h;exact h
theorem Pp{a:List PV}{v:a5}:aw P w aa (.seq a) v↔(a=[]/\aw P w aa .aG v)\/aw P w aa (.bw false a) v:=by
 simp[aw]
variable(hI:∀k,aa k->aD k)(hs:∀k,aa k->w'.heap[k]?=w.heap[k]?)
include hI hs
mutual
theorem aV.mono:∀(v:PV)(cs:List a5),aV P w aa v cs->aV P w' aD v cs
 | .undef,_,h| .aC _,_,h=>by simp[aV]at h
 | .bool _,_,h| .int _ _,_,h| .str _,_,h| .dD,_,h| .aG,_,h| .ff,_,h| .gV,_,h| .fF,_,h=>by simpa[aV]using h
 | .cz t,cs,h=>by
  simp only[aV]at h⊢;obtain⟨ak,off,ts,a,b,d,j⟩:=h;exact⟨ak,off,ts,aV.mono t ts a,hI _ b,d.same (hs _ b),j⟩
 | .bw full o,cs,h=>by
  simp only[aV]at h⊢;obtain⟨ak,off,cap,ai,g,a,b,d,j⟩:=h;refine⟨ak,off,cap,ai,g,bc.mono _ o g a,fun m=>hI _ (b m),?_,j⟩
  by_cases m:o=[]
  ·subst m;have:=tO a;subst this;intro i hi;simp at hi
  ·exact d.same (hs _ (b m))
 | .seq o,cs,h=>by
  simp only[aV]at h⊢;rcases h with h|⟨ak,off,cap,ai,g,a,b,d,j⟩
  ·exact .inl h
  refine .inr ⟨ak,off,cap,ai,g,bc.mono _ o g a,fun m=>hI _ (b m),?_,j⟩
  by_cases m:o=[]
  ·subst m;have:=tO a;subst this;intro i hi;simp at hi
  ·exact d.same (hs _ (b m))
 | .eE o,cs,h=>by
  simp only[aV]at h⊢;obtain⟨r,p,clock,a,b,d,j⟩:=h;exact⟨r,p,clock,hI _ a,(hs _ a).trans b,cC.mono o _ d,j⟩
 | .func f first gT,cs,h=>by
  simp only[aV]at h⊢;obtain⟨z,s,a,b,d⟩:=h;exact⟨z,s,bg.mono first z a,bg.mono gT s b,d⟩
 | .st u fs,cs,h=>by
  simp only[aV]at h⊢;obtain⟨l,g,a,b,d⟩:=h;exact⟨l,g,a,bc.mono l fs g b,d⟩
theorem bc.mono:∀(l:List Nat)(vs:List PV)(g:List (List a5)),bc P w aa l vs g->bc P w' aD l vs g
 |[],[],_,h=>by simpa[bc]using h
 |[],_::_,_,h=>by simp[bc]at h
 |_::_,[],_,h=>by simp[bc]at h
 |n::B,v::vs,g,h=>by
  simp only[bc]at h⊢;obtain⟨c,cs,a,b,d,j⟩:=h;exact⟨c,cs,a,aV.mono v c b,d,bc.mono B vs cs j⟩
theorem aw.mono:∀(v:PV)(x:a5),aw P w aa v x->aw P w' aD v x
 | .undef,_,h=>by simp[aw]
 | .aC vs,x,h=>by
  simp only[aw]at h⊢;obtain⟨q,a,b⟩:=h;exact⟨q,bg.mono vs q a,b⟩
 | .bool _,_,h| .int _ _,_,h| .str _,_,h| .dD,_,h| .aG,_,h| .ff,_,h| .gV,_,h| .fF,_,h=>by simpa[aw]using h
 | .cz t,cs,h=>by
  simp only[aw]at h⊢;obtain⟨ak,off,ts,a,b,d,j⟩:=h;exact⟨ak,off,ts,aV.mono t ts a,hI _ b,d.same (hs _ b),j⟩
 | .bw full o,cs,h=>by
  simp only[aw]at h⊢;obtain⟨ak,off,cap,ai,g,a,b,d,j⟩:=h;refine⟨ak,off,cap,ai,g,bc.mono _ o g a,fun m=>hI _ (b m),?_,j⟩
  by_cases m:o=[]
  ·subst m;have:=tO a;subst this;intro i hi;simp at hi
  ·exact d.same (hs _ (b m))
 | .seq o,cs,h=>by
  simp only[aw]at h⊢;rcases h with h|⟨ak,off,cap,ai,g,a,b,d,j⟩
  ·exact .inl h
  refine .inr ⟨ak,off,cap,ai,g,bc.mono _ o g a,fun m=>hI _ (b m),?_,j⟩
  by_cases m:o=[]
  ·subst m;have:=tO a;subst this;intro i hi;simp at hi
  ·exact d.same (hs _ (b m))
 | .eE o,cs,h=>by
  simp only[aw]at h⊢;obtain⟨r,p,clock,a,b,d,j⟩:=h;exact⟨r,p,clock,hI _ a,(hs _ a).trans b,cC.mono o _ d,j⟩
 | .func f first gT,cs,h=>by
  simp only[aw]at h⊢;obtain⟨z,s,a,b,d⟩:=h;exact⟨z,s,bg.mono first z a,bg.mono gT s b,d⟩
 | .st u fs,cs,h=>by
  simp only[aw]at h⊢;obtain⟨l,g,a,b,d⟩:=h;exact⟨l,g,a,bc.mono l fs g b,d⟩
theorem bg.mono:∀(vs:List PV)(q:List a5),bg P w aa vs q->bg P w' aD vs q
 |[],_,h=>by simpa[bg]using h
 |v::vs,q,h=>by
  simp only[bg]at h⊢;obtain⟨y,A,a,b,d⟩:=h;exact⟨y,A,a,aw.mono v y b,bg.mono vs A d⟩
theorem cC.mono:∀(o:List (PV×PV))(p:List bl),cC P w aa o p->cC P w' aD o p
 |[],_,h=>by simpa[cC]using h
 |(k,v)::r,p,h=>by
  simp only[cC]at h⊢;obtain⟨e,rest,a,b,d,j⟩:=h;exact⟨e,rest,a,aw.mono k _ b,aw.mono v _ d,cC.mono r rest j⟩
end
theorem mg.mono(h:mg P w aa):mg P w' aD:=⟨fun g=>aw.mono hI hs _ _ (h.val g),fun g cs c=>by
 obtain⟨a,T,b⟩:=h.raw g cs c;exact⟨hI _ a,T,(hs _ a).trans b⟩⟩
variable{β aJ:Bd}{H H':Heap}(aI:b8 β H aJ H')
include aI
omit hI hs in
theorem bO.mono:∀(v:AV)(x:a5),aB (aH H) v->bO P β H v x->bO P aJ H' v x
 | .ptr b path,x,c,h=>by
  simp only[bO,aB]at*;obtain⟨ak,off,o,a,e,f⟩:=h;refine⟨ak,off,o,a,e,fun hl=>?_⟩;rcases hl with hl|hl
  ·obtain⟨k1,k2⟩:=aI.box b c hl;rw[k2];exact f (.inl k1)
  ·obtain⟨k1,k2⟩:=aI.it b c hl;rw[k2];exact f (.inr k1)
 | .bX b al ai i path,x,c,h=>by
  simp only[bO,aB]at*;obtain⟨ak,off,o,g1,g2,g3⟩:=h;refine⟨ak,off,o,g1,g2,fun k j hl d=>?_⟩;obtain⟨k0,gp,a,e,f,g⟩:=aI.arr b al ai k j c hl;rw[(g d).1];exact g3 k0 gp a (fun l=>d (f.2 l))
 | .sl b al ai off len,x,c,h=>by
  simp only[bO,aB]at*;intro k j hl;obtain⟨k0,gp,a,e,f,g⟩:=aI.arr b al ai k j c hl;obtain⟨q,m,n⟩:=h k0 gp a;refine⟨by omega,fun d=>m (f.1 d),fun d=>?_⟩;rw[(g d).1,(g d).2];exact n (fun l=>d (f.2 l))
 | .map b,x,c,h=>by
  simp only[bO,aB]at*;refine⟨fun hl=>?_,fun hl=>?_⟩
  ·obtain⟨a,e⟩:=aI.map b c hl;rw[e];exact h.1 a
  ·obtain⟨a,e⟩:=aI.loop b c hl;rw[e];exact h.2 a
 | .p _,_,_,h| .st _ _,_,_,h| .func _ _ _,_,_,h| .aC _,_,_,h=>by simp[bO]at h
omit hI hs in
theorem bI.mono(v:AV)(x:a5)(a:aB (aH H) v)(h:bI P β H v x):bI P aJ H' v x:=⟨h.1,bO.mono aI v x a h.2⟩
mutual
theorem bf.mono:∀(v:AV)(cs:List a5),aB (aH H) v->bf P w aa β H v cs->bf P w' aD aJ H' v cs
 | .p t,cs,_,h=>by simp only[bf]at h⊢;exact aV.mono hI hs t cs h
 | .st u fs,cs,a,h=>by
  simp only[bf,aB]at*;obtain⟨l,j,d,e,g⟩:=h;exact⟨l,j,d,bH.mono l fs j a e,g⟩
 | .func f first gT,cs,a,h=>by
  simp only[bf,aB]at*;obtain⟨m,k,d,e,g⟩:=h;exact⟨m,k,bt.mono first m a.1 d,bt.mono gT k a.2 e,g⟩
 | .aC _,_,_,h=>by simp[bf]at h
 | .ptr b path,cs,a,h=>by
  simp only[bf]at*;obtain⟨v,d,e⟩:=h;exact⟨v,d,bI.mono aI _ _ a e⟩
 | .bX b al ai i path,cs,a,h=>by
  simp only[bf]at*;obtain⟨v,d,e⟩:=h;exact⟨v,d,bI.mono aI _ _ a e⟩
 | .sl b al ai off len,cs,a,h=>by
  simp only[bf]at*;obtain⟨v,d,e⟩:=h;exact⟨v,d,bI.mono aI _ _ a e⟩
 | .map b,cs,a,h=>by
  simp only[bf]at*;obtain⟨v,d,e⟩:=h;exact⟨v,d,bI.mono aI _ _ a e⟩
theorem bH.mono:∀(l:List Nat)(vs:List AV)(j:List (List a5)),aP (aH H) vs->bH P w aa β H l vs j->bH P w' aD aJ H' l vs j
 |[],[],_,_,h=>by simpa[bH]using h
 |[],_::_,_,_,h=>by simp[bH]at h
 |_::_,[],_,_,h=>by simp[bH]at h
 |n::r,v::vs,j,a,h=>by
  simp only[bH,aP]at*;obtain⟨c,cs,d,e,g,q⟩:=h;exact⟨c,cs,d,bf.mono v c a.1 e,g,bH.mono r vs cs a.2 q⟩
theorem ar.mono:∀(v:AV)(x:a5),aB (aH H) v->ar P w aa β H v x->ar P w' aD aJ H' v x
 | .p t,cs,_,h=>by simp only[ar]at h⊢;exact aw.mono hI hs t cs h
 | .st u fs,cs,a,h=>by
  simp only[ar,aB]at*;obtain⟨l,j,d,e,g⟩:=h;exact⟨l,j,d,bH.mono l fs j a e,g⟩
 | .func f first gT,cs,a,h=>by
  simp only[ar,aB]at*;obtain⟨m,k,d,e,g⟩:=h;exact⟨m,k,bt.mono first m a.1 d,bt.mono gT k a.2 e,g⟩
 | .aC vs,cs,a,h=>by
  simp only[ar,aB]at*;obtain⟨xs,d,e⟩:=h;exact⟨xs,bt.mono vs xs a d,e⟩
 | .ptr b path,cs,a,h=>by simp only[ar]at*;exact bI.mono aI _ _ a h
 | .bX b al ai i path,cs,a,h=>by simp only[ar]at*;exact bI.mono aI _ _ a h
 | .sl b al ai off len,cs,a,h=>by simp only[ar]at*;exact bI.mono aI _ _ a h
 | .map b,cs,a,h=>by simp only[ar]at*;exact bI.mono aI _ _ a h
theorem bt.mono:∀(vs:List AV)(xs:List a5),aP (aH H) vs->bt P w aa β H vs xs->bt P w' aD aJ H' vs xs
 |[],_,_,h=>by simpa[bt]using h
 |v::vs,xs,a,h=>by
  simp only[bt,aP]at*;obtain⟨y,o,d,e,g⟩:=h;exact⟨y,o,d,ar.mono v y a.1 e,bt.mono vs o a.2 g⟩
end
end mono
def eA:List AV->Option (List PV)
 |[]=>some []
 | .p v::r=>match eA r with
  |some l=>some (v::l)
  |none=>none
 |_::_=>none
def gN(u:a1)(fs:List AV):AV:=
 match eA fs with
 |some l=>.p (.st u l)
 |none=>.st u fs
def kl:PV->List (a1×Nat)->Option PV
 |t,[]=>some t
 |t,(u,i)::r=>if aL t=.agg u then(match(cE t)[i]? with
  |some f=>kl f r
  |none=>none)else none
def eB:AV->List (a1×Nat)->Option AV
 |t,[]=>some t
 | .p t,(u,i)::r=>match kl t ((u,i)::r)with
  |some s=>some (.p s)
  |none=>none
 | .st u' fs,(u,i)::r=>if u'=u then(match fs[i]? with
  |some f=>eB f r
  |none=>none)else none
 |_,_=>none
def fB(t:AV)(b:List (a1×Nat))(x:AV):Option AV:=
 match b with
 |[]=>some x
 |(u,i)::r=>
  match t with
  | .p t=>if aL t=.agg u then(match(cE t)[i]? with
   |some f=>(match fB (.p f) r x with
    |some a=>some (gN u (((cE t).map .p).set i a))
    |none=>none)
   |none=>none)else none
  | .st u' fs=>if u'=u then(match fs[i]? with
   |some f=>(match fB f r x with
    |some a=>some (gN u (fs.set i a))
    |none=>none)
   |none=>none)else none
  |_=>none
section
variable{P:a0}{w:a7}{aa:Nat->Prop}{β:Bd}{H:Heap}
theorem tQ:∀{l:List Nat}{vs:List PV}{a:List (List a5)},bc P w aa l vs a->a.map (·.length)=l/\vs.length=l.length/\a.length=l.length
 |[],[],_,h=>by simp[bc]at h;subst h;simp
 |[],_::_,_,h=>by simp[bc]at h
 |_::_,[],_,h=>by simp[bc]at h
 |n::f,v::vs,a,h=>by
  simp only[bc]at h;obtain⟨c,cs,rfl,e,b,d⟩:=h;have:=tQ d;simp[b,this]
theorem wx:∀{l:List Nat}{vs:List AV}{a:List (List a5)},bH P w aa β H l vs a->a.map (·.length)=l/\vs.length=l.length/\a.length=l.length
 |[],[],_,h=>by simp[bH]at h;subst h;simp
 |[],_::_,_,h=>by simp[bH]at h
 |_::_,[],_,h=>by simp[bH]at h
 |n::f,v::vs,a,h=>by
  simp only[bH]at h;obtain⟨c,cs,rfl,e,b,d⟩:=h;have:=wx d;simp[b,this]
theorem Kf{u:a1}{l:List Nat}(h:dH P u=some l):l.sum=P.cellsOf u/\∀n∈l,0<n:=by
 unfold dH at h
 split at h
 ·dsimp only at h
  split at h
  ·rename_i hc;simp at hc;obtain⟨⟨b,c⟩,d⟩:=hc;simp at h;subst h;refine⟨c,?_⟩;intro n a;simp at a;obtain⟨f,hf,rfl⟩:=a;obtain⟨i,hi,rfl⟩:=Array.mem_iff_getElem.1 hf;exact b i hi
  ·simp at h
 ·split at h
  ·rename_i hc;simp at hc;simp at h;subst h;refine⟨by simp[List.sum_replicate_nat,hc.2],?_⟩;intro n a;have:=List.eq_of_mem_replicate a;omega
  ·simp at h
 ·simp at h
theorem mW:∀{v:PV}{cs:List a5},aV P w aa v cs->cs.length=bE P (aL v)/\aL v≠.bad:=by
 intro v cs h;cases v<;>simp only[aV]at h
 case st u fs=>
  obtain⟨l,c,a,b,rfl⟩:=h;have:=tQ b;simp[aL,bE,this.1,(Kf a).1]
 case str=>obtain⟨_,h,_⟩:=h;subst h;simp[aL,bE]
 case seq=>
  rcases h with⟨_,rfl⟩|⟨_,_,_,_,_,_,_,_,_,_,_,rfl⟩<;>simp[aL,bE]
 all_goals first
  |(subst h;simp[aL,bE])
  |(obtain⟨_,_,_,_,_,_,rfl⟩:=h;simp[aL,bE])
  |(obtain⟨_,_,_,_,_,rfl⟩:=h;simp[aL,bE])
  |(obtain⟨_,_,_,_,_,_,_,_,_,_,_,_,rfl⟩:=h;simp[aL,bE])
  |(obtain⟨_,_,_,_,_,_,_,rfl⟩:=h;simp[aL,bE])
  |(obtain⟨_,_,_,_,rfl⟩:=h;simp[aL,bE])
  |(obtain⟨_,h,_⟩:=h;subst h;simp[aL,bE])
  |exact h.elim
theorem ng{v:AV}{cs:List a5}(h:bf P w aa β H v cs):cs.length=bE P (ad v)/\ad v≠.bad:=by
 cases v<;>simp only[bf]at h
 case p t=>exact mW h
 case st u fs=>
  obtain⟨l,c,a,b,rfl⟩:=h;have:=wx b;simp[ad,bE,this.1,(Kf a).1]
 all_goals first
  |(obtain⟨_,rfl,_⟩:=h;simp[ad,bE])
  |(obtain⟨_,_,_,_,rfl⟩:=h;simp[ad,bE])
theorem rR{v:PV}(hs:aL v=.leaf)(cs:List a5):aV P w aa v cs↔∃c,cs=[c]/\aw P w aa v c:=by
 cases v<;>simp[aL]at hs<;>simp only[aV,aw]
 case bool|int|dD|aG|ff|gV|fF=>exact⟨fun h=>⟨_,h,rfl⟩,fun⟨c,g,i⟩=>by rw[g,i]⟩
 case str s=>exact⟨fun⟨bs,g,i⟩=>⟨_,g,bs,rfl,i⟩,fun⟨c,g,bs,i,j⟩=>⟨bs,by rw[g,i],j⟩⟩
 case cz t=>exact⟨fun⟨a,b,c,g,i,j,k⟩=>⟨_,k,a,b,c,g,i,j,rfl⟩,fun⟨v,g,a,b,c,i,j,k,l⟩=>⟨a,b,c,i,j,k,by rw[g,l]⟩⟩
 case bw f es=>exact⟨fun⟨a,b,c,d,e,g,i,j,k,l,sp,n,m⟩=>⟨_,m,a,b,c,d,e,g,i,j,k,l,sp,n,rfl⟩,fun⟨v,h,a,b,c,d,e,g,i,j,k,l,sp,n,m⟩=>⟨a,b,c,d,e,g,i,j,k,l,sp,n,by rw[h,m]⟩⟩
 case seq es=>
  constructor
  ·rintro(⟨g,i⟩|⟨a,b,c,d,e,g,i,j,l,sp,n,m⟩)
   ·exact⟨_,i,.inl ⟨g,rfl⟩⟩
   ·exact⟨_,m,.inr ⟨a,b,c,d,e,g,i,j,l,sp,n,rfl⟩⟩
  ·rintro⟨v,h,(⟨g,i⟩|⟨a,b,c,d,e,g,i,j,l,sp,n,m⟩)⟩
   ·exact .inl ⟨g,by rw[h,i]⟩
   ·exact .inr ⟨a,b,c,d,e,g,i,j,l,sp,n,by rw[h,m]⟩
 case eE es=>exact⟨fun⟨a,b,c,g,i,j,k⟩=>⟨_,k,a,b,c,g,i,j,rfl⟩,fun⟨v,h,a,b,c,g,i,j,k⟩=>⟨a,b,c,g,i,j,by rw[h,k]⟩⟩
 case func f x y=>exact⟨fun⟨a,b,g,i,j⟩=>⟨_,j,a,b,g,i,rfl⟩,fun⟨v,h,a,b,g,i,j⟩=>⟨a,b,g,i,by rw[h,j]⟩⟩
theorem uJ{v:PV}{u:a1}(hs:aL v=.agg u)(cs:List a5):aV P w aa v cs↔aw P w aa v (.agg cs.toArray):=by
 cases v<;>simp[aL]at hs;subst hs;simp only[aV,aw];constructor
 ·rintro⟨l,a,b,c,rfl⟩;exact⟨l,a,b,c,rfl⟩
 ·rintro⟨l,a,b,c,d⟩;refine⟨l,a,b,c,?_⟩;injection d with d;simpa using congrArg ay d
theorem Bi{v:AV}(hs:ad v=.leaf)(cs:List a5):bf P w aa β H v cs↔∃c,cs=[c]/\ar P w aa β H v c:=by
 cases v<;>simp[ad]at hs<;>simp only[bf,ar]
 case p t=>exact rR hs cs
 case func f x y=>exact⟨fun⟨a,b,d,e,g⟩=>⟨_,g,a,b,d,e,rfl⟩,fun⟨v,h,a,b,d,e,g⟩=>⟨a,b,d,e,by rw[h,g]⟩⟩
theorem Lg{v:AV}{u:a1}(hs:ad v=.agg u)(cs:List a5):bf P w aa β H v cs↔ar P w aa β H v (.agg cs.toArray):=by
 cases v<;>simp[ad]at hs
 case p t=>simp only[bf,ar];exact uJ hs cs
 case st u' fs=>
  subst hs;simp only[bf,ar];constructor
  ·rintro⟨l,a,b,c,rfl⟩;exact⟨l,a,b,c,rfl⟩
  ·rintro⟨l,a,b,c,d⟩;refine⟨l,a,b,c,?_⟩;injection d with d;simpa using congrArg ay d
theorem wV{v:AV}{x:a5}(h:ar P w aa β H v x)(hs:ad v≠.bad):bf P w aa β H v x.cells.toList:=by
 cases a:ad v with
 |bad=>exact absurd a hs
 |leaf=>
  rw[Bi a];refine⟨x,?_,h⟩;cases v<;>simp[ad]at a<;>simp only[ar]at h
  case p t=>
   cases t<;>simp[aL]at a<;>simp only[aw]at h
   case bool|int|dD|aG|ff|gV|fF=>subst h;rfl
   case str=>obtain⟨_,rfl,_⟩:=h;rfl
   case cz=>obtain⟨_,_,_,_,_,_,rfl⟩:=h;rfl
   case bw=>obtain⟨_,_,_,_,_,_,_,_,_,_,_,_,rfl⟩:=h;rfl
   case seq=>rcases h with⟨_,rfl⟩|⟨_,_,_,_,_,_,_,_,_,_,_,rfl⟩<;>rfl
   case eE=>obtain⟨_,_,_,_,_,_,rfl⟩:=h;rfl
   case func=>obtain⟨_,_,_,_,rfl⟩:=h;rfl
  case func=>obtain⟨_,_,_,_,rfl⟩:=h;rfl
  all_goals (have b:=h.1;cases x<;>first|rfl|(simp[Value.oneCell']at b))
 |agg u=>
  cases v<;>simp[ad]at a
  case p t=>
   cases t<;>simp[aL]at a;simp only[ar,aw]at h;obtain⟨l,c,b,d,rfl⟩:=h;simp only[bf,aV];exact⟨l,c,b,d,by simp[Value.cells]⟩
  case st u' fs=>
   simp only[ar]at h;obtain⟨l,c,b,d,rfl⟩:=h;simp only[bf];exact⟨l,c,b,d,by simp[Value.cells]⟩
end
mutual
def Wk:PV->PV->Prop
 | .undef,v=>v=.undef
 | .bool b,v=>v=.bool b
 | .int k n,v=>v=.int k n
 | .str s,v=>v=.str s
 | .dD,v=>v=.dD
 | .ff,v=>v=.ff
 | .gV,v=>v=.gV
 | .fF,v=>v=.fF
 | .aG,v=>v=.aG\/v=.seq []
 | .cz t,v=>match v with
  | .cz h=>Wk t h
  |_=>False
 | .bw f es,v=>match v with
  | .bw g fs=>(g=true->f=true)/\bB es fs
  | .seq fs=>bB es fs
  |_=>False
 | .seq es,v=>match v with
  | .seq fs=>bB es fs
  |_=>False
 | .eE es,v=>match v with
  | .eE fs=>kr es fs
  |_=>False
 | .func f a b,v=>match v with
  | .func g c d=>f=g/\bB a c/\bB b d
  |_=>False
 | .st u es,v=>match v with
  | .st u' fs=>u=u'/\bB es fs
  |_=>False
 | .aC es,v=>match v with
  | .aC fs=>bB es fs
  |_=>False
def bB:List PV->List PV->Prop
 |[],fs=>fs=[]
 |v::vs,fs=>match fs with
  |f::fs=>Wk v f/\bB vs fs
  |[]=>False
def kr:List (PV×PV)->List (PV×PV)->Prop
 |[],fs=>fs=[]
 |(k,v)::vs,fs=>match fs with
  |(e,f)::fs=>k=e/\Wk v f/\kr vs fs
  |[]=>False
end
mutual
theorem Wk.refl:∀v,Wk v v
 | .undef| .bool _| .int _ _| .str _| .dD| .ff| .gV| .fF=>by simp[Wk]
 | .aG=>by simp[Wk]
 | .cz t=>by simp only[Wk];exact Wk.refl t
 | .bw f c=>by simp only[Wk];exact⟨id,bB.refl c⟩
 | .seq c=>by simp only[Wk];exact bB.refl c
 | .eE c=>by simp only[Wk];exact kr.refl c
 | .func f a b=>by simp only[Wk];exact⟨trivial,bB.refl a,bB.refl b⟩
 | .st u c=>by simp only[Wk];exact⟨trivial,bB.refl c⟩
 | .aC c=>by simp only[Wk];exact bB.refl c
theorem bB.refl:∀vs,bB vs vs
 |[]=>by simp[bB]
 |v::vs=>by simp only[bB];exact⟨Wk.refl v,bB.refl vs⟩
theorem kr.refl:∀c,kr c c
 |[]=>by simp[kr]
 |(k,v)::vs=>by simp only[kr];exact⟨trivial,Wk.refl v,kr.refl vs⟩
end
theorem bB.length:∀{es fs:List PV},bB es fs->fs.length=es.length
 |[],fs,h=>by simp only[bB]at h;subst h;rfl
 |v::vs,fs,h=>by
  cases fs with
  |nil=>simp[bB]at h
  |cons f fs=>simp only[bB]at h;simp[bB.length h.2]
theorem bB.oD{a fs:List PV}(h:bB a fs):fs=[]↔a=[]:=by
 have:=h.length;rw[<-c9,<-c9,this]
theorem Wk.aL:∀{v v':PV},Wk v v'->au.aL v'=au.aL v
 | .undef,v',h| .bool _,v',h| .int _ _,v',h| .str _,v',h| .dD,v',h| .ff,v',h| .gV,v',h| .fF,v',h=>by simp only[Wk]at h;subst h;rfl
 | .aG,v',h=>by simp only[Wk]at h;rcases h with rfl|rfl<;>rfl
 | .cz _,v',h| .bw _ _,v',h| .seq _,v',h| .eE _,v',h| .func _ _ _,v',h| .aC _,v',h=>by cases v'<;>simp only[Wk]at h<;>rfl
 | .st _ _,v',h=>by
  cases v'<;>simp only[Wk]at h;simp[au.aL,h.1]
section
variable{P:a0}{w:a7}{aa:Nat->Prop}
mutual
theorem aV.cZ:∀(v v':PV)(cs:List a5),Wk v v'->aV P w aa v cs->aV P w aa v' cs
 | .undef,v',cs,h,hc| .bool _,v',cs,h,hc| .int _ _,v',cs,h,hc| .str _,v',cs,h,hc| .dD,v',cs,h,hc| .ff,v',cs,h,hc| .gV,v',cs,h,hc| .fF,v',cs,h,hc=>by simp only[Wk]at h;subst h;exact hc
 | .aG,v',cs,h,hc=>by
  simp only[Wk]at h;rcases h with rfl|rfl
  ·exact hc
  ·simp only[aV]at hc⊢;exact .inl ⟨trivial,hc⟩
 | .cz t,v',cs,h,hc=>by
  cases v'<;>simp only[Wk]at h;simp only[aV]at hc⊢;obtain⟨ak,off,ts,d,i⟩:=hc;exact⟨ak,off,ts,aV.cZ _ _ _ h d,i⟩
 | .bw f o,v',cs,h,hc=>by
  cases v' with
  |bw g fs=>
   simp only[Wk]at h;simp only[aV]at hc⊢;obtain⟨ak,off,cap,ai,m,d,i,j,p,q,s⟩:=hc;have hl:=h.2.length;rw[hl];exact⟨ak,off,cap,ai,m,bc.cZ _ _ _ _ h.2 d,fun z=>i (fun e=>z (h.2.oD.2 e)),j,fun e=>p (h.1 e),q,s⟩
  |seq fs=>
   simp only[Wk]at h;simp only[aV]at hc⊢;obtain⟨ak,off,cap,ai,m,d,i,j,p,q,s⟩:=hc;have hl:=h.length;rw[hl];exact .inr ⟨ak,off,cap,ai,m,bc.cZ _ _ _ _ h d,fun z=>i (fun e=>z (h.oD.2 e)),j,q,s⟩
  |_=>simp only[Wk]at h
 | .seq o,v',cs,h,hc=>by
  cases v'<;>simp only[Wk]at h;simp only[aV]at hc⊢;rcases hc with⟨d,i⟩|⟨ak,off,cap,ai,m,d,i,j,q,s⟩
  ·exact .inl ⟨h.oD.2 d,i⟩
  ·have hl:=h.length;rw[hl];exact .inr ⟨ak,off,cap,ai,m,bc.cZ _ _ _ _ h d,fun z=>i (fun e=>z (h.oD.2 e)),j,q,s⟩
 | .eE o,v',cs,h,hc=>by
  cases v'<;>simp only[Wk]at h;simp only[aV]at hc⊢;obtain⟨r,B,clock,d,i,j,p⟩:=hc;exact⟨r,B,clock,d,i,cC.cZ _ _ _ h j,p⟩
 | .func f a b,v',cs,h,hc=>by
  cases v'<;>simp only[Wk]at h;obtain⟨rfl,E,F⟩:=h;simp only[aV]at hc⊢;obtain⟨D,C,d,i,j⟩:=hc;exact⟨D,C,bg.cZ _ _ _ E d,bg.cZ _ _ _ F i,j⟩
 | .st u o,v',cs,h,hc=>by
  cases v'<;>simp only[Wk]at h;obtain⟨rfl,h⟩:=h;simp only[aV]at hc⊢;obtain⟨l,m,d,i,j⟩:=hc;exact⟨l,m,d,bc.cZ _ _ _ _ h i,j⟩
 | .aC o,v',cs,h,hc=>by simp[aV]at hc
theorem bc.cZ:∀(l:List Nat)(o fs:List PV)(m:List (List a5)),bB o fs->bc P w aa l o m->bc P w aa l fs m
 |l,[],fs,m,h,hc=>by simp only[bB]at h;subst h;exact hc
 |l,v::vs,fs,m,h,hc=>by
  cases fs with
  |nil=>simp[bB]at h
  |cons f fs=>
   simp only[bB]at h;cases l with
   |nil=>simp[bc]at hc
   |cons n l=>
    simp only[bc]at hc⊢;obtain⟨c,cs,d,i,j,p⟩:=hc;exact⟨c,cs,d,aV.cZ _ _ _ h.1 i,j,bc.cZ _ _ _ _ h.2 p⟩
theorem aw.cZ:∀(v v':PV)(x:a5),Wk v v'->aw P w aa v x->aw P w aa v' x
 | .undef,v',cs,h,hc| .bool _,v',cs,h,hc| .int _ _,v',cs,h,hc| .str _,v',cs,h,hc| .dD,v',cs,h,hc| .ff,v',cs,h,hc| .gV,v',cs,h,hc| .fF,v',cs,h,hc=>by simp only[Wk]at h;subst h;exact hc
 | .aG,v',cs,h,hc=>by
  simp only[Wk]at h;rcases h with rfl|rfl
  ·exact hc
  ·simp only[aw]at hc⊢;exact .inl ⟨trivial,hc⟩
 | .cz t,v',cs,h,hc=>by
  cases v'<;>simp only[Wk]at h;simp only[aw]at hc⊢;obtain⟨ak,off,ts,d,i⟩:=hc;exact⟨ak,off,ts,aV.cZ _ _ _ h d,i⟩
 | .bw f o,v',cs,h,hc=>by
  cases v' with
  |bw g fs=>
   simp only[Wk]at h;simp only[aw]at hc⊢;obtain⟨ak,off,cap,ai,m,d,i,j,p,q,s⟩:=hc;have hl:=h.2.length;rw[hl];exact⟨ak,off,cap,ai,m,bc.cZ _ _ _ _ h.2 d,fun z=>i (fun e=>z (h.2.oD.2 e)),j,fun e=>p (h.1 e),q,s⟩
  |seq fs=>
   simp only[Wk]at h;simp only[aw]at hc⊢;obtain⟨ak,off,cap,ai,m,d,i,j,p,q,s⟩:=hc;have hl:=h.length;rw[hl];exact .inr ⟨ak,off,cap,ai,m,bc.cZ _ _ _ _ h d,fun z=>i (fun e=>z (h.oD.2 e)),j,q,s⟩
  |_=>simp only[Wk]at h
 | .seq o,v',cs,h,hc=>by
  cases v'<;>simp only[Wk]at h;simp only[aw]at hc⊢;rcases hc with⟨d,i⟩|⟨ak,off,cap,ai,m,d,i,j,q,s⟩
  ·exact .inl ⟨h.oD.2 d,i⟩
  ·have hl:=h.length;rw[hl];exact .inr ⟨ak,off,cap,ai,m,bc.cZ _ _ _ _ h d,fun z=>i (fun e=>z (h.oD.2 e)),j,q,s⟩
 | .eE o,v',cs,h,hc=>by
  cases v'<;>simp only[Wk]at h;simp only[aw]at hc⊢;obtain⟨r,B,clock,d,i,j,p⟩:=hc;exact⟨r,B,clock,d,i,cC.cZ _ _ _ h j,p⟩
 | .func f a b,v',cs,h,hc=>by
  cases v'<;>simp only[Wk]at h;obtain⟨rfl,E,F⟩:=h;simp only[aw]at hc⊢;obtain⟨D,C,d,i,j⟩:=hc;exact⟨D,C,bg.cZ _ _ _ E d,bg.cZ _ _ _ F i,j⟩
 | .st u o,v',cs,h,hc=>by
  cases v'<;>simp only[Wk]at h;obtain⟨rfl,h⟩:=h;simp only[aw]at hc⊢;obtain⟨l,m,d,i,j⟩:=hc;exact⟨l,m,d,bc.cZ _ _ _ _ h i,j⟩
 | .aC o,v',cs,h,hc=>by
  cases v'<;>simp only[Wk]at h;simp only[aw]at hc⊢;obtain⟨A,d,i⟩:=hc;exact⟨A,bg.cZ _ _ _ h d,i⟩
theorem bg.cZ:∀(o fs:List PV)(A:List a5),bB o fs->bg P w aa o A->bg P w aa fs A
 |[],fs,A,h,hc=>by simp only[bB]at h;subst h;exact hc
 |v::vs,fs,A,h,hc=>by
  cases fs with
  |nil=>simp[bB]at h
  |cons f fs=>
   simp only[bB]at h;simp only[bg]at hc⊢;obtain⟨y,G,d,i,j⟩:=hc;exact⟨y,G,d,aw.cZ _ _ _ h.1 i,bg.cZ _ _ _ h.2 j⟩
theorem cC.cZ:∀(o fs:List (PV×PV))(B:List bl),kr o fs->cC P w aa o B->cC P w aa fs B
 |[],fs,A,h,hc=>by simp only[kr]at h;subst h;exact hc
 |(k,v)::vs,fs,A,h,hc=>by
  cases fs with
  |nil=>simp[kr]at h
  |cons f fs=>
   simp only[kr]at h;obtain⟨rfl,d,i⟩:=h;simp only[cC]at hc⊢;obtain⟨e,rest,e1,e2,e3,e4⟩:=hc;exact⟨e,rest,e1,e2,aw.cZ _ _ _ d e3,cC.cZ _ _ _ i e4⟩
end
end
section
variable{P:a0}{w:a7}{aa:Nat->Prop}{β:Bd}{H:Heap}
theorem lx:∀{fs:List AV}{l:List PV},eA fs=some l->fs=l.map .p
 |[],l,h=>by simp[eA]at h;subst h;rfl
 | .p v::r,l,h=>by
  simp only[eA]at h;cases a:eA r with
  |none=>simp[a]at h
  |some b=>simp[a]at h;subst h;simp[lx a]
 | .ptr ..::_,_,h| .bX ..::_,_,h| .sl ..::_,_,h| .map ..::_,_,h| .func ..::_,_,h| .st ..::_,_,h| .aC ..::_,_,h=>by simp[eA]at h
theorem mZ:∀{l:List Nat}{fs:List PV}{a:List (List a5)},bH P w aa β H l (fs.map .p) a↔bc P w aa l fs a
 |[],[],_=>by simp[bH,bc]
 |[],_::_,_=>by simp[bH,bc]
 |_::_,[],_=>by simp[bH,bc]
 |n::g,v::vs,a=>by
  simp only[cx,bH,bc,bf];constructor
  ·rintro⟨c,cs,b,d,e,f⟩;exact⟨c,cs,b,d,e,mZ.1 f⟩
  ·rintro⟨c,cs,b,d,e,f⟩;exact⟨c,cs,b,d,e,mZ.2 f⟩
theorem jh:∀{fs:List PV}{d:List a5},bt P w aa β H (fs.map .p) d↔bg P w aa fs d
 |[],_=>by simp[bt,bg]
 |v::vs,d=>by
  simp only[cx,bt,bg,ar];constructor
  ·rintro⟨y,e,a,b,c⟩;exact⟨y,e,a,b,jh.1 c⟩
  ·rintro⟨y,e,a,b,c⟩;exact⟨y,e,a,b,jh.2 c⟩
theorem J7{u:a1}{fs:List AV}{cs:List a5}:bf P w aa β H (gN u fs) cs↔bf P w aa β H (.st u fs) cs:=by
 unfold gN;cases h:eA fs with
 |none=>rfl
 |some l=>have:=lx h;subst this;simp[bf,aV,mZ]
theorem VK{u:a1}{fs:List AV}{x:a5}:ar P w aa β H (gN u fs) x↔ar P w aa β H (.st u fs) x:=by
 unfold gN;cases h:eA fs with
 |none=>rfl
 |some l=>have:=lx h;subst this;simp[ar,aw,mZ]
theorem iM(n:Nat×Nat->Prop):∀l:List PV,aP n (l.map .p)
 |[]=>by simp[aP]
 |v::l=>by simp only[cx,aP,aB,true_and];exact iM n l
theorem Ab{n:Nat×Nat->Prop}{u:a1}{fs:List AV}(h:aP n fs):aB n (gN u fs):=by
 unfold gN;cases eA fs with
 |none=>exact h
 |some l=>simp[aB]
theorem b9{n:Nat×Nat->Prop}:∀{fs:List AV},aP n fs↔∀v∈fs,aB n v
 |[]=>by simp[aP]
 |v::vs=>by simp[aP,b9 (fs:=vs)]
theorem rZ:∀{l:List Nat}{fs:List AV}{d:List (List a5)}{i:Nat}{f:AV},bH P w aa β H l fs d->fs[i]?=some f->
 ∃pre c post,d.flatten=pre++c++post/\pre.length=(l.take i).sum/\i<l.length/\l[i]?=some c.length/\bf P w aa β H f c/\
  ∀b c',bf P w aa β H b c'->c'.length=c.length->∃a,a.flatten=pre++c'++post/\bH P w aa β H l (fs.set i b) a
 |[],[],_,i,f,_,hf=>by simp at hf
 |[],_::_,_,_,_,h,_=>by simp[bH]at h
 |_::_,[],_,_,_,h,_=>by simp[bH]at h
 |n::k,v::vs,d,0,f,h,hf=>by
  simp only[bH]at h;obtain⟨c,cs,rfl,g,e,j⟩:=h;simp at hf;subst hf;refine⟨[],c,cs.flatten,by simp,by simp,by simp,by simp[e],g,?_⟩;intro b c' hc hl;exact⟨c'::cs,by simp,by simp only[dk,bH];exact⟨c',cs,rfl,hc,by omega,j⟩⟩
 |n::k,v::vs,d,i+1,f,h,hf=>by
  simp only[bH]at h;obtain⟨c,cs,rfl,g,e,j⟩:=h;simp at hf;obtain⟨pre,x,post,k1,k2,k3,k4,k5,k6⟩:=rZ j hf;refine⟨c++pre,x,post,by simp[k1],by simp[k2,e],by simpa using k3,by simpa using k4,k5,?_⟩;intro b c' hc hl;obtain⟨a,e1,e2⟩:=k6 b c' hc hl;exact⟨c::a,by simp[e1],by simp only[List.set_cons_succ,bH];exact⟨c,a,rfl,g,e,e2⟩⟩
theorem I5{t:AV}{u:a1}{cs:List a5}(hs:ad t= .agg u)(h:bf P w aa β H t cs):
 ∃l fs a,dH P u=some l/\bH P w aa β H l fs a/\cs=a.flatten/\(∀c,t=.p c->fs=(cE c).map .p)/\(∀u' g,t=.st u' g->fs=g/\u'=u):=by
 cases t<;>simp[ad]at hs
 case p t=>
  cases t<;>simp[aL]at hs;subst hs;simp only[bf,aV]at h;obtain⟨l,a,d,e,f⟩:=h;exact⟨l,_,a,d,mZ.2 e,f,fun c b=>by cases b;rfl,fun _ _ h=>by cases h⟩
 case st u' fs=>
  subst hs;simp only[bf]at h;obtain⟨l,a,d,e,f⟩:=h;exact⟨l,fs,a,d,e,f,(fun c b=>by cases b),(fun j i b=>by cases b;exact⟨rfl,rfl⟩)⟩
theorem ya{t:PV}{a:List (a1×Nat)}:eB (.p t) a=(kl t a).map .p:=by
 cases a with
 |nil=>rfl
 |cons x r=>obtain⟨u,i⟩:=x;simp only[eB];cases kl t ((u,i)::r)<;>rfl
theorem oC:∀{z:List (a1×Nat)}{t s:AV}{cs:List a5}{o:Nat},bf P w aa β H t cs->eB t z=some s->fL P z=some o->
 ∃n q post,cs=n++q++post/\n.length=o/\bf P w aa β H s q/\
  ∀x k a,fB t z x=some a->bf P w aa β H x k->k.length=q.length->bf P w aa β H a (n++k++post)
 |[],t,s,cs,o,h,hs,d=>by
  simp[fL]at d;subst d;simp[eB]at hs;subst hs;refine⟨[],cs,[],by simp,by simp,h,?_⟩;intro x k a hx y _;simp[fB]at hx;subst hx;simpa using y
 |(u,i)::r,t,s,cs,o,h,hs,d=>by
  simp only[fL]at d;cases m:dH P u with
  |none=>simp[m]at d
  |some l=>
   cases v:fL P r with
   |none=>simp[m,v]at d
   |some o'=>
    simp[m,v]at d;obtain⟨I,rfl⟩:=d
    have key:∃fs f,(∃j e,dH P u=some j/\bH P w aa β H j fs e/\cs=e.flatten)/\fs[i]?=some f/\eB f r=some s/\
     (∀x a,fB t ((u,i)::r) x=some a->∃b,fB f r x=some b/\a=gN u (fs.set i b)):=by
     cases t
     case p t=>
      rw[ya]at hs;simp only[kl]at hs
      by_cases g:aL t=.agg u
      ·simp only[g,if_true]at hs;obtain⟨j,fs,e,k1,k2,k3,k4,_⟩:=I5 (t:=.p t) (by simpa[ad]using g) h;have:=k4 t rfl;subst this;cases hf:(cE t)[i]? with
       |none=>simp[hf]at hs
       |some f=>
        simp only[hf]at hs;refine⟨_,.p f,⟨j,e,k1,k2,k3⟩,by simp[hf],by rw[ya];exact hs,?_⟩;intro x a hx;simp only[fB,g,if_true,hf]at hx;cases hq:fB (.p f) r x with
        |none=>simp[hq]at hx
        |some b=>simp[hq]at hx;exact⟨b,rfl,hx.symm⟩
      ·simp[g]at hs
     case st u' fs=>
      simp only[eB]at hs
      by_cases g:u'=u
      ·subst g;simp only[if_true]at hs;obtain⟨j,C,e,k1,k2,k3,_,k4⟩:=I5 (t:=.st u' fs) rfl h;have:=(k4 _ _ rfl).1;subst this;cases hf:C[i]? with
       |none=>simp[hf]at hs
       |some f=>
        simp only[hf]at hs;refine⟨_,f,⟨j,e,k1,k2,k3⟩,hf,hs,?_⟩;intro x a hx;simp only[fB,if_true,hf]at hx;cases hq:fB f r x with
        |none=>simp[hq]at hx
        |some b=>simp[hq]at hx;exact⟨b,rfl,hx.symm⟩
      ·simp[g]at hs
     all_goals simp[eB]at hs
    obtain⟨fs,f,⟨j,e,k1,k2,k3⟩,hf,E,aK⟩:=key;rw[m]at k1;cases k1;obtain⟨n,c,post,e1,e2,e3,e4,e5,B⟩:=rZ k2 hf;obtain⟨G,q,F,g1,g2,g3,g4⟩:=oC e5 E v;refine⟨n++G,q,F++post,by rw[k3,e1,g1];simp,by simp[e2,g2],g3,?_⟩;intro x k a hx y hl;obtain⟨b,D,rfl⟩:=aK x a hx;have aS:=g4 x k b D y hl;obtain⟨A,c1,c2⟩:=B b _ aS (by rw[g1];simp[hl]);rw[J7];simp only[bf];exact⟨l,A,m,c2,by rw[c1];simp⟩
theorem xy{path:List (a1×Nat)}{t s:PV}{cs:List a5}{o:Nat}(h:aV P w aa t cs)(hs:kl t path=some s)(f:fL P path=some o):
 ∃a b post,cs=a++b++post/\a.length=o/\aV P w aa s b:=by
 obtain⟨a,b,post,c,d,e,_⟩:=oC (β:=⟨id,id⟩) (H:=[]) (t:=.p t) (s:=.p s) (by simpa[bf]using h) (by rw[ya,hs];rfl) f;exact⟨a,b,post,c,d,by simpa[bf]using e⟩
theorem ui{n:Nat×Nat->Prop}:∀{a:List (a1×Nat)}{t s:AV},eB t a=some s->aB n t->aB n s
 |[],t,s,hs,h=>by simp[eB]at hs;subst hs;exact h
 |(u,i)::r,.p t,s,hs,h=>by
  rw[ya]at hs;cases hq:kl t ((u,i)::r)with
  |none=>simp[hq]at hs
  |some q=>simp[hq]at hs;subst hs;simp[aB]
 |(u,i)::r,.st u' fs,s,hs,h=>by
  simp only[eB]at hs
  split at hs
  ·split at hs
   ·rename_i f hf;simp only[aB]at h;exact ui hs (b9.1 h f (db hf))
   ·simp at hs
  ·simp at hs
 |_::_,.ptr ..,_,hs,_|_::_,.bX ..,_,hs,_|_::_,.sl ..,_,hs,_|_::_,.map ..,_,hs,_|_::_,.func ..,_,hs,_|_::_,.aC ..,_,hs,_=>by simp[eB]at hs
theorem uj{n:Nat×Nat->Prop}:∀{e:List (a1×Nat)}{t b x:AV},fB t e x=some b->aB n t->aB n x->aB n b
 |[],t,b,x,hs,h,hx=>by simp[fB]at hs;subst hs;exact hx
 |(u,i)::r,.p t,b,x,hs,h,hx=>by
  simp only[fB]at hs
  split at hs
  ·split at hs
   ·split at hs
    ·rename_i f hf d c;simp at hs;subst hs;refine Ab (b9.2 ?_);intro v a;rcases c6 a with a|rfl
     ·exact b9.1 (iM n _) v a
     ·exact uj c (by simp[aB]) hx
    ·simp at hs
   ·simp at hs
  ·simp at hs
 |(u,i)::r,.st u' fs,b,x,hs,h,hx=>by
  simp only[fB]at hs
  split at hs
  ·split at hs
   ·split at hs
    ·rename_i _ f hf _ d c;simp at hs;subst hs;simp only[aB]at h;refine Ab (b9.2 ?_);intro v a;rcases c6 a with a|rfl
     ·exact b9.1 h v a
     ·exact uj c (b9.1 h f (db hf)) hx
    ·simp at hs
   ·simp at hs
  ·simp at hs
 |_::_,.ptr ..,_,_,hs,_,_|_::_,.bX ..,_,_,hs,_,_|_::_,.sl ..,_,_,hs,_,_|_::_,.map ..,_,_,hs,_,_|_::_,.func ..,_,_,hs,_,_|_::_,.aC ..,_,_,hs,_,_=>by simp[fB]at hs
end
structure aU where
 v:AV
 aj:List (Nat×Obj):=[]
 aK:List (Nat×Obj):=[]
 aS:List Obj:=[]
def bd(H:Heap)(l:List (Nat×Obj)):Heap:=
 match l with
 |[]=>H
 |(b,o)::r=>bd (H.set b o) r
def put(dst:Option Tmp)(v:AV)(e:Env):Env:=
 match dst with
 |some d=>(d,v)::e
 |none=>e
def aU.app(e:aU)(dst:Option Tmp)(s:St):St:=⟨put dst e.v s.env,bd s.heap e.aK++e.aS⟩
def ev(e:Env):a9->AV
 | .tmp t=>aM e t
 | .const v=>.p (ofConst v)
 | .global g=>.p (Gl.g g)
 | .func f=>.p (.func f [] [])
def fS(s:List Nat):ByteArray:=⟨(s.map UInt8.ofNat).toArray⟩
mutual
def jX:PV->PV->Option Bool
 | .bool a,.bool b=>some (a==b)
 | .int k a,.int c b=>if k=c then some (a==b)else none
 | .str a,.str b=>some (a==b)
 | .st u fs,.st u' gs=>if u=u' then vm fs gs else none
 |_,_=>none
def vm:List PV->List PV->Option Bool
 |[],[]=>some true
 |a::as,b::bs=>match jX a b with
  |some true=>vm as bs
  |some false=>some false
  |none=>none
 |_,_=>none
end
def fw(P:a0)(c:a1->PV->PV->Option Bool):List a1->List PV->List PV->Option Bool
 |[],[],[]=>some true
 |T::d,a::as,b::bs=>
  if kindOf P T=aL a/\kindOf P T=aL b then
   (match c T a b,fw P c d as bs with
   |some r,some s=>some (r&&s)
   |_,_=>none)
  else none
 |_,_,_=>none
def dC(P:a0):Nat->a1->PV->PV->Option Bool
 |0,_,_,_=>none
 |n+1,T,v,v'=>
  match P.underlying T,v,v' with
  |some .bool,.bool a,.bool b=>some (a==b)
  |some (.int _),.int k a,.int d b=>if k=d then some (a==b)else none
  |some .string,.str a,.str b=>some (a==b)
  |some (.struct fs),.st u xs,.st u' c=>
   if kindOf P T= .agg u/\u'=u/\P.stoodInHeld T=false/\fs.toList.all (fun f=>f.name != "_")=true then fw P (dC P n) (fs.toList.map (·.type)) xs c else none
  |some (.array m e),.st u xs,.st u' c=>
   if kindOf P T=.agg u/\u'=u/\(P.info? e).isSome=true then fw P (dC P n) (cb m e) xs c else none
  |_,_,_=>none
def lL(P:a0)(T:a1):Bool:=!P.eqGuardType P.depth T
def pU(P:a0)(T:a1):Bool:=match P.underlying T with|some .bool=>true|_=>false
def aFS(P:a0)(T:a1):Bool:=match P.underlying T with|some (.int _)=>true|_=>false
def gY(P:a0)(T:a1):Bool:=match P.underlying T with|some .string=>true|_=>false
inductive tu where|ptr|slice|map|func|iface
 deriving DecidableEq
def lN:a9->Bool
 | .const _=>true
 |_=>false
def di(P:a0)(T:a1)(c:Bool):AV->Option tu
 | .p .dD=>match P.underlying T with
  |some (.pointer _)=>some .ptr
  |_=>none
 | .p .aG=>match P.underlying T with
  |some (.slice _)=>some .slice
  |_=>none
 | .p .ff=>match P.underlying T with
  |some (.map _ _)=>some .map
  |_=>none
 | .p .gV=>match P.underlying T with
  |some (.func _ _ _)=>some .func
  |_=>none
 | .p .fF=>match c,P.underlying T with
  |true,some (.interface _)=>some .iface
  |_,_=>none
 |_=>none
def cM(H:Heap)(k:tu)(x:AV):Option Bool:=
 match k,x with
 | .ptr,.p .dD| .slice,.p .aG| .map,.p .ff| .func,.p .gV| .iface,.p .fF=>some true
 | .ptr,.p (.cz _)| .slice,.p (.bw _ _)| .map,.p (.eE _)| .func,.p (.func _ _ _)| .func,.func _ _ _=>some false
 | .ptr,.ptr b _=>match H[b]? with
  |some (.box _ _)=>some false
  |_=>none
 | .map,.map b=>match H[b]? with
  |some (.map _ _)=>some false
  |_=>none
 | .slice,.p (.seq (_::_))=>some false
 | .slice,.sl b al ai _ _=>match H[b]? with
  |some (.arr k c a es)=>if al=c/\ai=a then some (k.gr&&es.isEmpty)else none
  |_=>none
 |_,_=>none
def oR(op:BinOp)(k:bo)(a b:Int)(K:PV->Prop):Prop:=
 match op with
 | .add=>K (.int k (k.wrap (a+b)))
 | .sub=>K (.int k (k.wrap (a-b)))
 | .mul=>K (.int k (k.wrap (a*b)))
 | .quo=>b≠0/\K (.int k (k.wrap (a.tdiv b)))
 | .rem=>b≠0/\K (.int k (a.tmod b))
 | .and=>K (.int k (k.wrap (aT k.bits a&&&aT k.bits b).toNat))
 | .or=>K (.int k (k.wrap (aT k.bits a|||aT k.bits b).toNat))
 | .xor=>K (.int k (k.wrap (aT k.bits a^^^aT k.bits b).toNat))
 | .andNot=>K (.int k (k.wrap (aT k.bits a&&&~~~aT k.bits b).toNat))
 | .eql=>K (.bool (a==b))
 | .neq=>K (.bool (a !=b))
 | .lss=>K (.bool (decide (a<b)))
 | .leq=>K (.bool (decide (a<=b)))
 | .gtr=>K (.bool (decide (a>b)))
 | .geq=>K (.bool (decide (a>=b)))
 | .shl=>0<=b/\K (.int k (k.wrap (a*2^(min b.toNat k.bits))))
 | .shr=>0<=b/\K (.int k (a.fdiv (2^(min b.toNat k.bits))))
def fN:List Nat->List Nat->Bool
 |_,[]=>false
 |[],_::_=>true
 |a::x,b::y=>decide (a<b)||(a==b&&fN x y)
def oQ(op:BinOp)(a b:List Nat)(K:PV->Prop):Prop:=
 match op with
 | .add=>a.length+b.length<9223372036854775808/\K (.str (a++b))
 | .eql=>K (.bool (a==b))
 | .neq=>K (.bool (!(a==b)))
 | .lss=>K (.bool (fN a b))
 | .leq=>K (.bool (fN a b||a==b))
 | .gtr=>K (.bool (!(fN a b||a==b)))
 | .geq=>K (.bool (!(fN a b)))
 |_=>False
def jQ(P:a0)(op:BinOp)(T:a1)(c:Bool)(H:Heap)(x y:AV)(K:PV->Prop):Prop:=
 match x,y with
 | .p (.int k a),.p (.int d b)=>(k=d\/op=.shl\/op=.shr)/\oR op k a b K
 | .p (.str a),.p (.str b)=>oQ op a b K
 | .p (.bool a),.p (.bool b)=>pU P T=true/\match op with
  | .eql=>K (.bool (a==b))
  | .neq=>K (.bool (!(a==b)))
  |_=>False
 | .p (.st u fs),.p (.st u' gs)=>lL P T=true/\(match dC P 9 T (.st u fs) (.st u' gs),op with
  |some r,.eql=>K (.bool r)
  |some r,.neq=>K (.bool !r)
  |_,_=>False)
 |x,y=>
  (match di P T c y with
  |some k=>(match cM H k x,op with
   |some r,.eql=>K (.bool r)
   |some r,.neq=>K (.bool !r)
   |_,_=>False)
  |none=>False)
def cT:Nat:=1073741824
def gA(H:Heap):AV->Option (List AV)
 | .p .aG=>some []
 | .p (.bw _ es)=>some (es.map .p)
 | .p (.seq es)=>some (es.map .p)
 | .p (.str s)=>some (s.map fun c=>.p (.int .u8 (c:Nat)))
 | .sl b al ai off len=>match H[b]? with
  |some (.arr _ d a es)=>if al=d/\ai=a/\off+len<=es.length then some ((es.drop off).take len)else none
  |_=>none
 |_=>none
def dx(H:Heap):AV->List (Nat×Obj)
 | .sl b _ _ _ _| .ptr b _| .bX b _ _ _ _| .map b=>match H[b]? with
  |some o=>[(b,o)]
  |none=>[]
 |_=>[]
def dV(P:a0)(ai:Nat):List AV->Prop
 |[]=>True
 |v::vs=>(ad v≠.bad/\bE P (ad v)=ai)/\dV P ai vs
def cN(P:a0)(T:a1):Option Nat:=
 match P.underlying T with
 |some (.slice e)=>match P.info? e with
  |some i=>if i.bytes<32768/\0<i.size/\0<i.bytes then some i.size else none
  |none=>none
 |_=>none
def dQ(P:a0)(T:a1):a1:=
 match P.underlying T with
 |some (.slice e)=>e
 |_=>0
def ib(P:a0)(X:a1):Bool:=
 match P.underlying X with
 |some (.int _)=>false
 |some _=>true
 |none=>false
def gk(P:a0)(T:a1):AK:=if dQ P T=Gl.u8 then .bytes else .grow
def mY(P:a0)(T X:a1)(H:Heap)(s x:AV)(K:aU->Prop):Prop:=
 match cN P T,gA H x with
 |some sz,some xs=>ib P X=true/\(cK P (dQ P T)).isSome=true/\dV P sz xs/\
  (match s with
  | .p .aG=>if xs.isEmpty then K {v:=s,aj:=dx H x}else xs.length<=cT/\K {v:=.sl H.length 0 sz 0 xs.length,aj:=dx H x,aS:=[.arr (gk P T) 0 sz xs]}
  | .p (.bw full es)=>dV P sz (es.map .p)/\if xs.isEmpty then K {v:=s,aj:=dx H x}else full=true/\es.length+xs.length<=cT/\
   K {v:=.sl H.length 0 sz 0 (es.length+xs.length),aj:=dx H x,aS:=[.arr (gk P T) 0 sz (es.map .p++xs)]}
  | .sl b al ai off len=>match H[b]? with
   |some (.arr k c a es)=>al=c/\ai=a/\ai=sz/\off+len<=es.length/\
    if xs.isEmpty then K {v:=s,aj:=(b,.arr k c a es)::dx H x}
    else es.length+xs.length<=cT/\(match k with
     | .frozen=>False
     | .exact=>if off+len+xs.length<=es.length then
      K {v:=.sl b al ai off (len+xs.length),aj:=(b,.arr k c a es)::dx H x,aK:=[(b,.arr .exact al ai (es.take (off+len)++xs++es.drop (off+len+xs.length)))]}
      else K {v:=.sl H.length 0 sz 0 (len+xs.length),aj:=(b,.arr k c a es)::dx H x,aS:=[.arr (gk P T) 0 sz ((es.drop off).take len++xs)]}
     |_=>off=0/\(k=.bytes->dQ P T=Gl.u8)/\K {v:=.sl b (al+1) ai 0 (len+xs.length),aj:=(b,.arr k c a es)::dx H x,aK:=[(b,.arr k (al+1) ai (es.take len++xs))]})
   |_=>False
  |_=>False)
 |_,_=>False
def fY(x:Option AV)(d:Nat)(K:Nat->Prop):Prop:=
 match x with
 |none=>K d
 |some (.p (.int _ i))=>0<=i/\K i.toNat
 |_=>False
def nr(P:a0)(T:a1)(H:Heap)(x:AV)(lo hi d:Option AV)(K:aU->Prop):Prop:=
 d.isNone/\match x with
 | .p (.str s)=>gY P T=true/\fY hi s.length fun h=>fY lo 0 fun l=>h<=s.length/\l<=h/\K {v:=.p (.str ((s.take h).drop l))}
 | .p .aG=>(cN P T).isSome=true/\fY hi 0 fun h=>fY lo 0 fun l=>h<=0/\l<=h/\K {v:=x}
 | .p (.bw full es)=>fY hi es.length fun h=>fY lo 0 fun l=>h<=es.length/\l<=h/\
  (match cN P T with
  |some sz=>dV P sz (es.map .p)/\K {v:=.p (.bw (full&&h==es.length) ((es.take h).drop l))}
  |none=>False)
 | .p (.seq es)=>fY hi es.length fun h=>fY lo 0 fun l=>h<=es.length/\l<=h/\
  (match cN P T with
  |some sz=>dV P sz (es.map .p)/\K {v:=.p (.seq ((es.take h).drop l))}
  |none=>False)
 | .sl b al ai off len=>match H[b]? with
  |some (.arr k c a es)=>al=c/\ai=a/\cN P T=some ai/\¬(k.gr=true/\es=[])/\off+len<=es.length/\
   fY hi len fun h=>fY lo 0 fun l=>off+h<=es.length/\l<=h/\
    (if l=0 then K {v:=.sl b al ai off h,aj:=[(b,.arr k c a es)]}
    else if l=h then K {v:=.p (.bw false []),aj:=[(b,.arr k c a es)]}
    else K {v:=.sl b al ai (off+l) (h-l),aj:=[(b,.arr k c a es)]})
  |_=>False
 |_=>False
def pF(P:a0)(T:a1)(H:Heap)(x:AV)(lo hi:Option AV)(m:AV)(K:aU->Prop):Prop:=
 match x with
 | .sl b al ai off len=>match H[b]? with
  |some (.arr k c a es)=>al=c/\ai=a/\(cN P T).isSome=true/\¬(k.gr=true/\es=[])/\off+len<=es.length/\hi.isSome=true/\
   fY hi len fun h=>fY lo 0 fun l=>fY (some m) 0 fun m=>off+m<=es.length/\h<=m/\l<=h/\K {v:=.p .undef,aj:=[(b,.arr k c a es)]}
  |_=>False
 |_=>False
def o6(P:a0)(T:a1)(x k:PV):Option Bool:=match x with
 | .st u fs=>match dC P 9 T (.st u fs) k,jX (.st u fs) k with
  |some a,some b=>bif a==b then some a else none
  |_,_=>none
 |x=>jX x k
def fE(P:a0)(T:a1):List (PV×PV)->PV->Option (Option PV)
 |[],_=>some none
 |(k,v)::r,x=>match o6 P T x k with
  |some true=>some (some v)
  |some false=>fE P T r x
  |none=>none
def lD(P:a0)(T:a1)(a:List (PV×PV))(x:PV):Option (Option PV):=match x with
 | .st u fs=>match fE P T a (.st u fs)with
  |some none=>some none
  |_=>none
 |x=>fE P T a x
def mL:PV->Bool
 | .st _ _=>false
 |_=>true
def kx(P:a0)(T:a1):List PV->List AV->PV->Option (Option AV)
 |[],[],_=>some none
 |k::ks,v::vs,x=>match o6 P T x k with
  |some true=>some (some v)
  |some false=>kx P T ks vs x
  |none=>none
 |_,_,_=>none
def rl:Obj->Option (List PV×List AV)
 | .map false es=>some (es.map (·.1),es.map fun e=>.p e.2)
 | .dt ks vs=>some (ks,vs)
 |_=>none
def fX:List (PV×PV)->PV->PV->List (PV×PV)
 |[],k,v=>[(k,v)]
 |(a,v')::r,k,v=>if jX k a=some true then(k,v)::r else(a,v')::fX r k v
def se(P:a0)(T:a1):Bool:=match P.underlying T with
 |some (.int _)|some .string|some .bool=>true
 |_=>false
def fc(P:a0)(T:a1):PV->Bool
 | .int k _=>match P.underlying T with
  |some (.int a)=>decide (k=a)
  |_=>false
 | .str _=>gY P T
 | .st u fs=>match P.underlying T with
  |some (.struct cE)=>cE.toList.all (fun f=>f.name != "_" &&se P f.type)&&(dC P 9 T (.st u fs) (.st u fs)).isSome
  |_=>false
 |_=>false
def iS(P:a0)(T:a1):Option (a1×a1):=
 match P.underlying T with
 |some (.map k e)=>some (k,e)
 |_=>none
def lenOf(H:Heap):AV->Option (Nat×List (Nat×Obj))
 | .p (.str s)=>some (s.length,[])
 | .p .aG| .p .ff=>some (0,[])
 | .p (.bw _ es)| .p (.seq es)=>some (es.length,[])
 | .p (.eE es)=>some (es.length,[])
 | .sl b al ai _off len=>match H[b]? with
  |some (.arr k c a es)=>if al=c/\ai=a then some (len,[(b,.arr k c a es)])else none
  |_=>none
 | .map b=>match H[b]? with
  |some (.map fz es)=>some (es.length,[(b,.map fz es)])
  |_=>none
 |_=>none
def gI(P:a0)(T:a1):AV->Bool
 | .p (.str _)=>gY P T
 | .p .aG| .p (.bw _ _)| .p (.seq _)| .sl ..=>match P.underlying T with
  |some (.slice _)=>true
  |_=>false
 | .p .ff| .p (.eE _)| .map _=>match P.underlying T with
  |some (.map _ _)=>true
  |_=>false
 |_=>false
def yN(H:Heap):AV->Option (Nat×List (Nat×Obj))
 | .p .aG=>some (0,[])
 | .p (.bw true es)=>some (es.length,[])
 | .sl b al ai off _len=>match H[b]? with
  |some (.arr .exact c a es)=>if al=c/\ai=a/\off<=es.length then some (es.length-off,[(b,.arr .exact c a es)])else none
  |_=>none
 |_=>none
def bytesOf:List AV->Option (List Nat)
 |[]=>some []
 | .p (.int .u8 c)::r=>if 0<=c/\c<256 then match bytesOf r with
  |some l=>some (c.toNat::l)
  |none=>none
  else none
 |_=>none
def ptrTo(P:a0)(T:a1):Option a1:=
 match P.underlying T with
 |some (.pointer e)=>some e
 |_=>none
def lr(k:bo)(c:Bool):List AV->Int->Option Int
 |[],a=>some a
 | .p (.int d b)::r,a=>if k=d then lr k c r (if c then(if b>a then b else a)else(if b<a then b else a))else none
 |_,_=>none
def gX(a:List AV):List (Nat×AV)->List AV
 |[]=>a
 |(i,v)::r=>gX (a.set i v) r
def ln(P:a0)(l:List Nat):List (Nat×AV)->Prop
 |[]=>True
 |(i,v)::r=>(∃n,l[i]?=some n/\bE P (ad v)=n/\ad v≠.bad)/\ln P l r
def fp(H:Heap):List AV->Option (List PV×List (Nat×Obj)×List (Nat×Obj))
 |[]=>some ([],[],[])
 | .p v::r=>match fp H r with
  |some (a,aj,aK)=>some (v::a,aj,aK)
  |none=>none
 | .ptr b []::r=>match H[b]?,fp H r with
  |some (.box fz (.p t)),some (a,aj,aK)=>some (.cz t::a,(b,.box fz (.p t))::aj,(b,.box true (.p t))::aK)
  |_,_=>none
 |_=>none
def nD(P:a0)(T:a1)(H:Heap)(a:AV)(K:aU->Prop):Prop:=
 match a with
 | .ptr b path=>match H[b]? with
  |some (.box fz t)=>match eB t path with
   |some s=>kindOf P T=ad s/\K {v:=s,aj:=[(b,.box fz t)]}
   |none=>False
  |_=>False
 | .bX b al ai i path=>match H[b]? with
  |some (.arr k d c es)=>al=d/\ai=c/\∃h:i<es.length,match eB (es[i]'h) path with
   |some s=>kindOf P T=ad s/\K {v:=s,aj:=[(b,.arr k d c es)]}
   |none=>False
  |_=>False
 | .p (.cz t)=>kindOf P T=aL t/\K {v:=.p t}
 |_=>False
def nq(P:a0)(T:a1)(H:Heap)(a x:AV)(K:aU->Prop):Prop:=
 kindOf P T=ad x/\ad x≠.bad/\match a with
 | .ptr b path=>match H[b]? with
  |some (.box false t)=>match eB t path,fB t path x with
   |some s,some d=>ad s=ad x/\K {v:=.p (.aC []),aj:=[(b,.box false t)],aK:=[(b,.box false d)]}
   |_,_=>False
  |_=>False
 | .bX b al ai i path=>match H[b]? with
  |some (.arr k e c es)=>al=e/\ai=c/\k≠.frozen/\∃h:i<es.length,match eB (es[i]'h) path,fB (es[i]'h) path x with
   |some s,some d=>ad s=ad x/\K {v:=.p (.aC []),aj:=[(b,.arr k e c es)],aK:=[(b,.arr k e c (es.set i d))]}
   |_,_=>False
  |_=>False
 |_=>False
def nV(P:a0)(a:a1)(b:Nat)(key:PV)(x:AV)(o:Obj)(K:aU->Prop):Prop:=match rl o with
 |some (ks,vs)=>mL key=true/\kx P a ks vs key=some none/\K {v:=.p (.aC []),aj:=[(b,o)],aK:=[(b,.dt (ks++[key]) (vs++[x]))]}
 |none=>False
def fZ(P:a0)(T:a1):Option (a1×Nat):=
 match kindOf P T,P.underlying T with
 | .agg u,some (.struct fs)=>some (u,fs.size)
 |_,_=>none
def gM(P:a0)(T:a1):Option (a1×Nat):=
 match kindOf P T,P.underlying T with
 | .agg u,some (.array n _)=>some (u,n)
 |_,_=>none
def mV(P:a0)(T:a1)(a:AV)(f:Nat)(K:aU->Prop):Prop:=
 match fZ P T with
 |some (u,n)=>f<n/\(match a with
  | .ptr b path=>K {v:=.ptr b (path++[(u,f)])}
  | .bX b al ai i path=>K {v:=.bX b al ai i (path++[(u,f)])}
  | .p (.cz t)=>aL t=.agg u/\(match(cE t)[f]? with
   |some g=>K {v:=.p (.cz g)}
   |none=>False)
  |_=>False)
 |_=>False
def mU(P:a0)(T:a1)(H:Heap)(x i:AV)(K:aU->Prop):Prop:=
 match i with
 | .p (.int _ i)=>0<=i/\(match x with
  | .p (.bw _ es)=>∃h:i.toNat<es.length,cN P T=some (bE P (aL (es[i.toNat]'h)))/\K {v:=.p (.cz (es[i.toNat]'h))}
  | .p (.seq es)=>∃h:i.toNat<es.length,cN P T=some (bE P (aL (es[i.toNat]'h)))/\K {v:=.p (.cz (es[i.toNat]'h))}
  | .sl b al ai off len=>cN P T=some ai/\i.toNat<len/\(match H[b]? with
   |some (.arr k c a es)=>al=c/\ai=a/\¬(k.gr=true/\es=[])/\K {v:=.bX b al ai (off+i.toNat) [],aj:=[(b,.arr k c a es)]}
   |_=>False)
  | .ptr b path=>(match gM P T with
   |some (u,n)=>i.toNat<n/\K {v:=.ptr b (path++[(u,i.toNat)])}
   |_=>False)
  | .bX b al ai j path=>(match gM P T with
   |some (u,n)=>i.toNat<n/\K {v:=.bX b al ai j (path++[(u,i.toNat)])}
   |_=>False)
  | .p (.cz t)=>(match gM P T with
   |some (u,n)=>aL t=.agg u/\i.toNat<n/\(match(cE t)[i.toNat]? with
    |some g=>K {v:=.p (.cz g)}
    |none=>False)
   |_=>False)
  |_=>False)
 |_=>False
def fh(P:a0)(ag:a8->Bool)(o:Oper)(ρ:a9->AV)(H:Heap)(K:aU->Prop):Prop:=
 match o.op with
 | .move x| .assign x=>K {v:=ρ x}
 | .pick c a b=>match ρ c with
  | .p (.bool t)=>K {v:=if t then ρ a else ρ b}
  |_=>False
 | .alloc T=>match cK P T with
  |some z=>kindOf P T=aL z/\aL z≠.bad/\iU T (aL z)=true/\K {v:=.ptr H.length [],aS:=[.box false (.p z)]}
  |none=>False
 | .box T x=>kindOf P T=ad (ρ x)/\ad (ρ x)≠.bad/\iU T (ad (ρ x))=true/\K {v:=.ptr H.length [],aS:=[.box false (ρ x)]}
 | .build T parts=>match kindOf P T,cK P T with
  | .agg u,some z=>(match dH P u with
   |some l=>aL z=.agg u/\ln P l (parts.toList.map fun(i,x)=>(i,ρ x))/\K {v:=gN u (gX ((cE z).map .p) (parts.toList.map fun(i,x)=>(i,ρ x)))}
   |none=>False)
  |_,_=>False
 | .buildSlice T n parts=>match cN P T,cK P (dQ P T)with
  |some sz,some z=>bE P (aL z)=sz/\n*sz<=1000000/\ln P (cb n sz) (parts.toList.map fun(i,x)=>(i,ρ x))/\
   K {v:=.sl H.length 0 sz 0 n,aS:=[.arr .exact 0 sz (gX (cb n (.p z)) (parts.toList.map fun(i,x)=>(i,ρ x)))]}
  |_,_=>False
 | .load T a=>nD P T H (ρ a) K
 | .store T a x=>nq P T H (ρ a) (ρ x) K
 | .binOp op T x y _=>jQ P op T (lN y) H (ρ x) (ρ y) (fun v=>K {v:=.p v,aj:=dx H (ρ x)})
 | .unOp op _ x=>match op,ρ x with
  | .not,.p (.bool b)=>K {v:=.p (.bool (!b))}
  | .neg,.p (.int k n)=>K {v:=.p (.int k (k.wrap (0-n)))}
  | .xor,.p (.int k n)=>K {v:=.p (.int k (k.wrap (aT k.bits (if k.signed then -1 else k.max)^^^aT k.bits n).toNat))}
  |_,_=>False
 | .convert S D x=>match P.underlying S,P.underlying D,ρ x with
  |some _,some (.int k),.p (.int _ n)=>K {v:=.p (.int k (k.wrap n))}
  |some _,some .string,.p (.str s)=>K {v:=.p (.str s)}
  |some (.slice e),some .string,.sl b al ai off len=>(match H[b]? with
   |some (.arr k q j es)=>al=q/\ai=j/\ai=1/\P.underlying e=some (.int .u8)/\0<len/\off+len<=es.length/\(match bytesOf ((es.drop off).take len)with
    |some l=>K {v:=.p (.str l),aj:=[(b,.arr k q j es)]}
    |none=>False)
   |_=>False)
  |_,_,_=>False
 | .extract t i=>match ρ t with
  | .p (.aC vs)=>(match vs[i]? with
   |some v=>K {v:=.p v}
   |none=>False)
  | .aC vs=>(match vs[i]? with
   |some v=>K {v}
   |none=>False)
  |_=>False
 | .fieldAddr T a f=>mV P T (ρ a) f K
 | .indexAddr T x i=>mU P T H (ρ x) (ρ i) K
 | .field T x f=>match kindOf P T,P.underlying T,ρ x with
  | .agg u,some (.struct _),.p t=>aL t=.agg u/\(match(cE t)[f]?,(je P u)[f]? with
   |some g,some F=>kindOf P F=aL g/\K {v:=.p g}
   |_,_=>False)
  |_,_,_=>False
 | .index T x i=>match ρ x,ρ i with
  | .p (.str s),.p (.int _ i)=>gY P T=true/\0<=i/\∃h:i.toNat<s.length,K {v:=.p (.int .u8 (s[i.toNat]'h))}
  | .p (.st u es),.p (.int _ i)=>(match gM P T,(je P u)[i.toNat]?,es[i.toNat]? with
   |some (u',n),some F,some g=>u'=u/\0<=i/\i.toNat<n/\kindOf P F=aL g/\K {v:=.p g}
   |_,_,_=>False)
  |_,_=>False
 | .makeFunc (.func f) fi ca=>if ag f then(match fp H (fi.toList.map ρ),fp H (ca.toList.map ρ)with
   |some (a,[],[]),some (b,aj,aK)=>K {v:=.p (.func f a b),aj,aK}
   |_,_=>False)
  else match eA (fi.toList.map ρ),eA (ca.toList.map ρ)with
   |some a,some b=>K {v:=.p (.func f a b)}
   |_,_=>K {v:=.func f (fi.toList.map ρ) (ca.toList.map ρ)}
 | .makeSlice T l c=>match cN P T,cK P (dQ P T),ρ l,ρ c with
  |some sz,some z,.p (.int .i64 l),.p (.int .i64 c)=>bE P (aL z)=sz/\0<=l/\l=c/\l<=cT/\K {v:=.sl H.length 0 sz 0 l.toNat,aS:=[.arr .exact 0 sz (cb l.toNat (.p z))]}
  |_,_,_,_=>False
 | .slice T x lo hi A=>match A with
  |none=>nr P T H (ρ x) (lo.map ρ) (hi.map ρ) none K
  |some m=>pF P T H (ρ x) (lo.map ρ) (hi.map ρ) (ρ m) K
 | .makeMap _ none=>K {v:=.map H.length,aS:=[.map false []]}
 | .lookup T x i ok=>match iS P T,ρ i with
  |some (w,E),.p key=>(match cK P E with
   |some z=>fc P w key=true/\(match ρ x with
    | .p .ff=>K {v:=.p (if ok then .aC [z,.bool false]else z)}
    | .p (.eE es)=>(match fE P w es key with
     |some (some v)=>K {v:=.p (if ok then .aC [v,.bool true]else v)}
     |some none=>K {v:=.p (if ok then .aC [z,.bool false]else z)}
     |none=>False)
    | .map b=>(match H[b]? with
     |some (.map fz es)=>(match fE P w es key with
      |some (some v)=>K {v:=.p (if ok then .aC [v,.bool true]else v),aj:=[(b,.map fz es)]}
      |some none=>K {v:=.p (if ok then .aC [z,.bool false]else z),aj:=[(b,.map fz es)]}
      |none=>False)
     |some (.dt ks vs)=>mL key=true/\(match kx P w ks vs key with
      |some (some v)=>K {v:=if ok then .aC [v,.p (.bool true)]else v,aj:=[(b,.dt ks vs)]}
      |some none=>K {v:=.p (if ok then .aC [z,.bool false]else z),aj:=[(b,.dt ks vs)]}
      |none=>False)
     |_=>False)
    |_=>False)
   |none=>False)
  |_,_=>False
 | .mapUpdate T m k x| .insert T m k x=>match iS P T,ρ m,ρ k,ρ x with
  |some (w,_),.map b,.p key,.p v=>fc P w key=true/\(match H[b]? with
   |some (.map false es)=>(match lD P w es key with
    |some _=>K {v:=.p (.aC []),aj:=[(b,.map false es)],aK:=[(b,.map false (fX es key v))]}
    |none=>False)
   |some (.dt ks vs)=>nV P w b key (.p v) (.dt ks vs) K
   |_=>False)
  |some (w,_),.map b,.p key,x=>fc P w key=true/\(match H[b]? with
   |some o=>nV P w b key x o K
   |none=>False)
  |_,_,_,_=>False
 | .range T x=>match ρ x with
  | .p (.str s)=>gY P T=true/\K {v:=.ptr H.length [],aS:=[.dv s 0]}
  |_=>False
 | .next it true=>match ρ it with
  | .ptr b []=>(match H[b]? with
   |some (.dv s pos)=>if pos<s.length then
    K {v:=.p (.aC [.bool true,.int .i64 pos,.int .i32 (Utf8.decode (fS s) pos).1]),aj:=[(b,.dv s pos)],aK:=[(b,.dv s (pos+(Utf8.decode (fS s) pos).2))]}
    else K {v:=.p (.aC [.bool false]),aj:=[(b,.dv s pos)]}
   |_=>False)
  |_=>False
 | .nilCheck x=>match ρ x with
  | .ptr _ _| .bX _ _ _ _ _| .p (.cz _)=>K {v:=ρ x}
  |_=>False
 | .call c=>match c.callee with
  | .builtin b=>let args:=c.args.toList.map ρ
   let T:=c.argTypes.getD 0 0
   (match b,args with
   | .len,[x]=>(match lenOf H x with
    |some (n,aj)=>gI P T x=true/\0<c.argTypes.size/\K {v:=.p (.int .i64 n),aj}
    |none=>False)
   | .append,[s,x]=>c.argTypes.size=2/\mY P T (c.argTypes.getD 1 0) H s x K
   | .min,.p (.int k a)::r=>(match lr k false r a with
    |some n=>K {v:=.p (.int k n)}
    |none=>False)
   | .max,.p (.int k a)::r=>(match lr k true r a with
    |some n=>K {v:=.p (.int k n)}
    |none=>False)
   | .copy,[d,x]=>(match cN P T,d,gA H x with
    |some sz,.sl b al ai off len,some xs=>ai=sz/\dV P sz xs/\c.argTypes.size=2/\(match H[b]? with
     |some (.arr k q j es)=>al=q/\ai=j/\k≠.frozen/\off+len<=es.length/\¬(k.gr=true/\es=[])/\
      K {v:=.p (.int .i64 (min xs.length len:Nat)),aj:=(b,.arr k q j es)::dx H x,aK:=[(b,.arr k q j (es.take off++xs.take (min xs.length len)++es.drop (off+min xs.length len)))]}
     |_=>False)
    |_,_,_=>False)
   | .cap,[x]=>(match yN H x with
    |some (n,aj)=>gI P T x=true/\0<c.argTypes.size/\K {v:=.p (.int .i64 n),aj}
    |none=>False)
   | .clear,[x]=>(match x with
    | .p .aG=>gI P T x=true/\0<c.argTypes.size/\K {v:=.p (.aC [])}
    | .sl b al ai off len=>(match cN P T,cK P (dQ P T),H[b]? with
     |some sz,some z,some (.arr k q j es)=>al=q/\ai=j/\ai=sz/\bE P (aL z)=sz/\k≠.frozen/\off+len<=es.length/\¬(k.gr=true/\es=[])/\0<c.argTypes.size/\0<len/\
      K {v:=.p (.aC []),aj:=[(b,.arr k q j es)],aK:=[(b,.arr k q j (es.take off++cb len (.p z)++es.drop (off+len)))]}
     |_,_,_=>False)
    |_=>False)
   | .unsafeSliceData,[x]=>(match x with
    | .p .aG=>K {v:=.p .dD}
    | .sl b al ai off len=>(match H[b]? with
     |some (.arr k q j es)=>al=q/\ai=j/\((k.gr=true/\es=[]/\K {v:=.p .dD,aj:=[(b,.arr k q j es)]})\/(0<len/\off+len<=es.length/\K {v:=.bX b al ai off [],aj:=[(b,.arr k q j es)]}))
     |_=>False)
    |_=>False)
   | .unsafeString,[x,.p (.int .i64 n)]=>(match x with
    | .p .dD=>n=0/\c.argTypes.size=2/\K {v:=.p (.str [])}
    | .bX b al ai i []=>(match H[b]? with
     |some (.arr .bytes q j es)=>al=q/\ai=j/\ai=1/\i=0/\0<n/\n.toNat<=es.length/\n<=9223372036854775807/\c.argTypes.size=2/\ptrTo P T=some Gl.u8/\P.cellsOf Gl.u8=1/\(match bytesOf (es.take n.toNat)with
      |some l=>K {v:=.p (.str l),aj:=[(b,.arr .bytes q j es)],aK:=[(b,.dead)]}
      |none=>False)
     |_=>False)
    |_=>False)
   |_,_=>False)
  |_=>False
 |_=>False
def newAt(a:Nat):List Obj->List (Nat×Obj)
 |[]=>[]
 |o::r=>(a,o)::newAt (a+1) r
structure bU(P:a0)(ah aa:Nat->Prop)(w:a7)(β:Bd)(H:Heap)(aD:Nat->Prop)(w':a7)(aJ:Bd)(H':Heap):Prop where
 bR:∀k,aa k->aD k
 fresh:∀k,aD k->aa k\/¬ah k
 ext:Ext ah aa w w'
 step:b8 β H aJ H'
 rel:bQ P w' aD aJ H' ah
 eH:∀x,aH H x->aH H' x
 loop:∀b,gC H b->gC H' b
def Enters(P:a0)(f:a8):Prop:=∀(args:Array a5)(w:a7),(callFunc f args).run P w=.ok (.enter f args) w
def cR(P:a0)(f:a8)(H:Heap)(args:List AV)(H':Heap)(v:AV):Prop:=
 Enters P f/\∀(w:a7)(aa ah:Nat->Prop)(β:Bd)(a:List a5),bQ P w aa β H ah->bt P w aa β H args a->aP (aH H) args->
  br P f a.toArray w fun e w'=>∃b aJ aD,e=.returned b/\bU P ah aa w β H aD w' aJ H'/\ar P w' aD aJ H' v b/\aB (aH H') v
def ia(P:a0)(b:Nat)(H:Heap)(args:List AV)(H':Heap)(v:AV):Prop:=
 gC H b/\∀(w:a7)(aa ah:Nat->Prop)(β:Bd)(c:List a5),bQ P w aa β H ah->bt P w aa β H args c->aP (aH H) args->
  ∃f tmps assign body,(Instr.yield (β.ak b) c.toArray).run P w=.ok (.round (β.ak b) f tmps assign body) w/\
   ∀(a:bb)(e:List bb),∃d w' aJ aD,Steps P (lone (Frame.round (β.ak b) f tmps assign body .normal) (a::e) w) (lone (a.finish d) e w')/\
    bU P ah aa w β H aD w' aJ H'/\ar P w' aD aJ H' v d/\aB (aH H') v
def qI(P:a0)(f:a8)(args:List AV)(base:Nat)(e:aU):Prop:=
 Enters P f/\∀(H:Heap)(w:a7)(aa ah:Nat->Prop)(β:Bd)(a:List a5),bQ P w aa β H ah->bt P w aa β H args a->aP (aH H) args->
  (∀p∈e.aj,H[p.1]?=some p.2)->(∀i,i<e.aS.length->H[base+i]?=some .hole)->
  br P f a.toArray w fun x w'=>∃b aJ aD,x=.returned b/\bU P ah aa w β H aD w' aJ (bd H (e.aK++newAt base e.aS))/\
   ar P w' aD aJ (bd H (e.aK++newAt base e.aS)) e.v b/\aB (aH (bd H (e.aK++newAt base e.aS))) e.v
def sv(P:a0)(b:Nat)(args:List AV)(a:Nat)(e:aU):Prop:=
 ∀(H:Heap)(w:a7)(aa ah:Nat->Prop)(β:Bd)(d:List a5),bQ P w aa β H ah->bt P w aa β H args d->aP (aH H) args->
  (∀p∈e.aj,H[p.1]?=some p.2)->(∀i,i<e.aS.length->H[a+i]?=some .hole)->
  gC H b/\∃f tmps assign body,(Instr.yield (β.ak b) d.toArray).run P w=.ok (.round (β.ak b) f tmps assign body) w/\
   ∀(c:bb)(h:List bb),∃g w' aJ aD,Steps P (lone (Frame.round (β.ak b) f tmps assign body .normal) (c::h) w) (lone (c.finish g) h w')/\
    bU P ah aa w β H aD w' aJ (bd H (e.aK++newAt a e.aS))/\
    ar P w' aD aJ (bd H (e.aK++newAt a e.aS)) e.v g/\aB (aH (bd H (e.aK++newAt a e.aS))) e.v
def Cw(P:a0)(f:a8)(args:List AV)(aj:List (Nat×Obj))(v:PV):Prop:=
 ∀(H:Heap)(w:a7)(aa ah:Nat->Prop)(β:Bd)(a:List a5),bQ P w aa β H ah->bt P w aa β H args a->aP (aH H) args->(∀p∈aj,H[p.1]?=some p.2)->
  ∃b,(callFunc f a.toArray).run P w=.ok (.value b) w/\aw P w aa v b
def oU(H:Heap)(e:aU):Prop:=(∀p∈e.aj,H[p.1]?=some p.2)/\(∀p∈e.aK,p.1<H.length/\p.2≠.hole)
def mz(P:a0)(f:a8)(args:List PV)(v:PV):Prop:=
 Enters P f/\∀(w:a7)(aa:Nat->Prop)(a:List a5),(∀k,aa k->k<w.heap.size)->mg P w aa->bg P w aa args a->
  br P f a.toArray w fun e w'=>∃b,∃aD:Nat->Prop,e=.returned b/\(∀k,aa k->aD k)/\(∀k,aD k->aa k\/w.heap.size<=k)/\(∀k,aD k->k<w'.heap.size)/\
   w.heap.size<=w'.heap.size/\(∀k,k<w.heap.size->w'.heap[k]?=w.heap[k]?)/\(w'.os=w.os/\w'.output=w.output)/\aw P w' aD v b
def Pb(P:a0)(f:a8)(args:List PV)(v:PV):Prop:=
 ∀(w:a7)(aa:Nat->Prop)(a:List a5),bg P w aa args a->∃b,(callFunc f a.toArray).run P w=.ok (.value b) w/\aw P w aa v b
def az(P:a0)(f:a8)(args:List PV)(v:PV):Prop:=mz P f args v\/Pb P f args v
def ki(H:Heap):AV->Option (PV×Heap)
 | .p v=>some (v,H)
 | .sl b al ai off len=>match H[b]? with
  |some (.arr k d a es)=>
   if al=d/\ai=a/\off+len<=es.length then
    if k.gr=true/\es=[]then some (.aG,H)else
    match eA es with
    |some c=>some (.bw (k== .exact&&off+len==es.length) ((c.drop off).take len),H.set b (.arr .frozen al ai es))
    |none=>none
   else none
  |_=>none
 | .ptr b path=>match H[b]? with
  |some (.box _ (.p t))=>match kl t path with
   |some s=>some (.cz s,H.set b (.box true (.p t)))
   |none=>none
  |_=>none
 | .map b=>match H[b]? with
  |some (.map _ es)=>some (.eE es,H.set b (.map true es))
  |_=>none
 |_=>none
def mG(H:Heap):List AV->Option (List PV×Heap)
 |[]=>some ([],H)
 |x::r=>match ki H x with
  |some (v,H1)=>match mG H1 r with
   |some (vs,a)=>some (v::vs,a)
   |none=>none
  |none=>none
def gE(P:a0)(draw:Bool)(f:a8)(args:List AV)(H:Heap)(K:AV->Heap->Prop):Prop:=
 (∃vs v,args=vs.map .p/\az P f vs v/\K (.p v) H)\/
 (draw=false/\((∃vs H1 v,mG H args=some (vs,H1)/\az P f vs v/\K (.p v) H1)\/(∃H' v,cR P f H args H' v/\K v H')\/
  (∃e,qI P f args H.length e/\oU H e/\K e.v (bd H e.aK++e.aS))\/(∃aj v,Cw P f args aj v/\(∀p∈aj,H[p.1]?=some p.2)/\K (.p v) H)))
def jl(P:a0)(ag:a8->Bool)(draw:Bool)(o:Oper)(K:St->Prop)(s:St):Prop:=
 match o.op with
 | .call {callee:=.value f,args,.. }=>(match ev s.env f with
  | .p (.func g fi ca)=>gE P draw g (fi.map .p++args.toList.map (ev s.env)++ca.map .p) s.heap (fun v H'=>K ⟨put o.dst v s.env,H'⟩)
  | .func g fi ca=>gE P draw g (fi++args.toList.map (ev s.env)++ca) s.heap (fun v H'=>K ⟨put o.dst v s.env,H'⟩)
  | .map b=>∃H' v,ia P b s.heap (args.toList.map (ev s.env)) H' v/\K ⟨put o.dst v s.env,H'⟩
  |_=>False)
 |_=>fh P ag o (ev s.env) s.heap fun e=>K (e.app o.dst s)
def guardOf(a:Array Oper)(j:Nat)(e:Env):AV:=
 match(a[j]?).bind (·.dst)with
 |some d=>aM e d
 |none=>.p (.aC [])
def gG(P:a0)(ag:a8->Bool)(draw:Bool)(a:Array Oper):List Oper->(St->Prop)->St->Prop
 |[],K,s=>K s
 |o::r,K,s=>match o.guard with
  |none=>jl P ag draw o (gG P ag draw a r K) s
  |some (j,want)=>match guardOf a j s.env with
   | .p (.bool t)=>if t=want then jl P ag draw o (gG P ag draw a r K) s else gG P ag draw a r K ⟨put o.dst (.p (.aC [])) s.env,s.heap⟩
   | .p (.aC [])=>gG P ag draw a r K ⟨put o.dst (.p (.aC [])) s.env,s.heap⟩
   |_=>False
def lK:Obj->Option Obj
 | .box _ (.p t)=>some (.box true (.p t))
 | .arr k al ai es=>if k.gr=true/\es=[]then none else match eA es with
  |some _=>some (.arr .frozen al ai es)
  |none=>none
 | .map _ es=>some (.map true es)
 |_=>none
def lR(H:Heap):AV->Option (PV×List Nat)
 | .p v=>some (v,[])
 | .sl b al ai off len=>match H[b]? with
  |some (.arr k d a es)=>
   if al=d/\ai=a/\off+len<=es.length then
    if k.gr=true/\es=[]then none else
    match eA es with
    |some c=>some (.bw (k== .exact&&off+len==es.length) ((c.drop off).take len),[b])
    |none=>none
   else none
  |_=>none
 | .ptr b path=>match H[b]? with
  |some (.box _ (.p t))=>match kl t path with
   |some s=>some (.cz s,[b])
   |none=>none
  |_=>none
 | .map b=>match H[b]? with
  |some (.map _ es)=>some (.eE es,[b])
  |_=>none
 |_=>none
def nE(H:Heap):List AV->Option (List PV×List Nat)
 |[]=>some ([],[])
 |x::r=>match lR H x,nE H r with
  |some (v,bs),some (vs,cs)=>some (v::vs,bs++cs)
  |_,_=>none
def kD(H:Heap):List Nat->Option (List (Nat×Obj)×List (Nat×Obj))
 |[]=>some ([],[])
 |b::r=>match H[b]?,kD H r with
  |some o,some (aj,aK)=>(match lK o with
   |some o'=>some ((b,o)::aj,(b,o')::aK)
   |none=>none)
  |_,_=>none
def gL(P:a0)(f:a8)(args:List AV)(H:Heap)(K:aU->Prop):Prop:=
 (∃vs v,args=vs.map .p/\az P f vs v/\K {v:=.p v})\/
 (∃vs bs aj aK v,nE H args=some (vs,bs)/\kD H bs=some (aj,aK)/\az P f vs v/\K {v:=.p v,aj,aK})\/
 (∃e,qI P f args H.length e/\oU H e/\K e)\/
 (∃aj v,Cw P f args aj v/\(∀p∈aj,H[p.1]?=some p.2)/\K {v:=.p v,aj})
def iW(P:a0)(ag:a8->Bool)(o:Oper)(s:St)(K:aU->Prop):Prop:=
 match o.op with
 | .call {callee:=.value f,args,.. }=>(match ev s.env f with
  | .p (.func g fi ca)=>gL P g (fi.map .p++args.toList.map (ev s.env)++ca.map .p) s.heap K
  | .func g fi ca=>gL P g (fi++args.toList.map (ev s.env)++ca) s.heap K
  | .map b=>∃e,sv P b (args.toList.map (ev s.env)) s.heap.length e/\oU s.heap e/\K e
  |_=>False)
 |_=>fh P ag o (ev s.env) s.heap K
structure Touch where
 i:Nat
 rd:List Nat
 wr:List Nat
def nu(a:Nat):List Obj->List Nat
 |[]=>[]
 |_::r=>a::nu (a+1) r
def gP(i a:Nat)(e:aU):Touch:=⟨i,e.aj.map (·.1),e.aK.map (·.1)++nu a e.aS⟩
def gF(i b:Nat)(e:aU)(a:List Touch):List Touch:=
 match e.aj,e.aK,e.aS with
 |[],[],[]=>a
 |_,_,_=>gP i b e::a
def reach(a:Array Oper):Nat->Nat->Nat->Bool
 |0,_,_=>false
 |f+1,i,j=>match a[j]? with
  |some o=>o.after.toList.any (fun e=>b0 .any e&&e.on==i)||o.after.toList.any (fun e=>b0 .any e&&decide (i<e.on)&&reach a f i e.on)
  |none=>false
def iO(u t:Touch):Bool:=u.wr.any (fun b=>t.rd.contains b||t.wr.contains b)||u.rd.any (fun b=>t.wr.contains b)
def jJ(a:Array Oper):List Touch->Bool
 |[]=>true
 |t::r=>r.all (fun u=>!iO u t||reach a a.size u.i t.i)&&jJ a r
def fO(P:a0)(ag:a8->Bool)(a:Array Oper):List Oper->Nat->List Touch->(St->Prop)->St->Prop
 |[],_,acc,K,s=>jJ a acc=true/\K s
 |o::r,i,acc,K,s=>match o.guard with
  |none=>iW P ag o s fun e=>fO P ag a r (i+1) (gF i s.heap.length e acc) K (e.app o.dst s)
  |some (j,want)=>match guardOf a j s.env with
   | .p (.bool t)=>if t=want then iW P ag o s fun e=>fO P ag a r (i+1) (gF i s.heap.length e acc) K (e.app o.dst s)
    else fO P ag a r (i+1) acc K ⟨put o.dst (.p (.aC [])) s.env,s.heap⟩
   | .p (.aC [])=>fO P ag a r (i+1) acc K ⟨put o.dst (.p (.aC [])) s.env,s.heap⟩
   |_=>False
inductive bn where|normal|exit (id:Nat)|ret
mutual
def fC(T:Heap):PV->AV->Prop
 | .aG,x=>x=.p .aG\/match x with
  | .sl b al _ off len=>al=0/\off=0/\len=0/\∃k z,T[b]?=some (.arr k 0 z [])/\k.gr=true
  |_=>False
 | .st u fs,x=>x=.p (.st u fs)\/match x with
  | .st u' gs=>u=u'/\kq T fs gs
  |_=>False
 |v,x=>x=.p v
def kq(T:Heap):List PV->List AV->Prop
 |[],gs=>gs=[]
 |v::vs,gs=>match gs with
  |g::gs=>fC T v g/\kq T vs gs
  |[]=>False
end
mutual
def Gh(T:Heap):AV->AV->Prop
 | .p v,x=>fC T v x
 | .st u fs,x=>match x with
  | .st u' gs=>u=u'/\lS T fs gs
  |_=>False
 |a,x=>x=a
def lS(T:Heap):List AV->List AV->Prop
 |[],gs=>gs=[]
 |v::vs,gs=>match gs with
  |g::gs=>Gh T v g/\lS T vs gs
  |[]=>False
end
structure oP(s t:St):Prop where
 env:∀x,aM t.env x=aM s.env x\/aM t.env x=.p .undef\/Gh t.heap (aM s.env x) (aM t.env x)
 heap:∀(b:Nat)(o:Obj),t.heap[b]?=some o->o=.hole\/s.heap[b]?=some o\/((s.heap[b]?=none\/s.heap[b]?=some .hole)/\∃k z,o=.arr k 0 z []/\k.gr=true)\/(∃v v',s.heap[b]?=some (.box false v)/\o=.box false v'/\Gh t.heap v v')
 gn:∀x,aB (aH t.heap) (aM t.env x)
 hrefs:∀(b:Nat)(o:Obj),t.heap[b]?=some o->o.refs (aH t.heap)
def dJ(N:Nat)(s t:St):Prop:=t=s\/(oP s t/\∀b,b<N->t.heap[b]?=s.heap[b]?)
def jP(Q:bn->St->Prop)(j:Option Code)(s:St):Prop:=
 match j with
 |none=>Q .normal s
 |some (.exit id)=>Q (.exit id) s
 |some .ret=>Q .ret s
 |_=>False
def jw(P:a0)(it:AV)(b:Nat)(H:Heap)(K:Heap->Prop):Prop:=
 match it with
 | .p (.func g fi ca)=>∃H' v,cR P g H (fi.map .p++[.map b]++ca.map .p) H' v/\K H'
 | .func g fi ca=>∃H' v,cR P g H (fi++[.map b]++ca) H' v/\K H'
 |_=>False
def iE(b:Nat)(env:Env)(Q:bn->St->Prop)(H:Heap):Prop:=
 match H[b]? with
 |some (.loop L)=>L.st≠.busy/\jP Q L.pending ⟨env,H.set b (.loop {L with st:=.exhausted})⟩
 |_=>False
abbrev Cx:=Nat×Nat
def b6(P:a0)(ag:a8->Bool)(q:Cx):Code->(bn->St->Prop)->St->Prop
 | .skip,Q,s| .label _,Q,s=>Q .normal s
 | .region _ ops draw,Q,s=>if draw then fO P ag ops ops.toList 0 [] (Q .normal) s else gG P ag false ops ops.toList (Q .normal) s
 | .seq a b,Q,s=>b6 P ag q a (fun e s'=>match e with
  | .normal=>b6 P ag q b Q s'
  |e=>Q e s') s
 | .cond c a b,Q,s=>match ev s.env c with
  | .p (.bool t)=>if t then b6 P ag q a Q s else b6 P ag q b Q s
  |_=>False
 | .block id b,Q,s=>b6 P ag q b (fun e s'=>match e with
  | .exit i=>if i=id then Q .normal s' else Q (.exit i) s'
  |e=>Q e s') s
 | .scope b,Q,s=>b6 P ag q b Q s
 | .loop b,Q,s=>∃I:Nat->St->Prop,(∃n t,dJ q.2 s t/\I n t)/\∀n t,I n t->b6 P ag q b (fun e s'=>match e with
  | .normal=>∃m g,m<n/\dJ q.2 s' g/\I m g
  |e=>Q e s') t
 | .rangeFunc f h a b,Q,s=>q.2<=s.heap.length/\∃d:Env,(∀x,aM d x=aM s.env x)/\jw P (ev s.env f) s.heap.length (s.heap++[.loop ⟨.ready,none,q.1,h.toList,a,b,d⟩]) (iE s.heap.length s.env Q)
 | .exit id,Q,s=>Q (.exit id) s
 | .ret,Q,s=>Q .ret s
 |_,_,_=>False
def bA(fr:bb)(t:Array a5)(ds:List bk)(todo:List Item):bb:={fr with tmps:=t,defers:=ds,todo,mode:=.run}
section
variable{P:a0}{fr:bb}{t:Array a5}{ds:List bk}{k:List Item}{cs:List bb}{w:a7}
def fj(t:Array a5):a9->a5
 | .tmp x=>t.getD x undef
 | .const v=>v
 | .global g=>.pointer (some ⟨g,0,none⟩)
 | .func f=>.func (.func f) #[] #[]
theorem eval_eq(fr:bb):fr.eval=fj fr.tmps:=by funext x;cases x<;>rfl
theorem aA1:step P (lone (bA fr t ds (.code .skip::k)) cs w)=.next (lone (bA fr t ds k) cs w):=
 a6 (by simp[stepG,b3,bA])
theorem Uk{l:Nat}:step P (lone (bA fr t ds (.code (.label l)::k)) cs w)=.next (lone (bA fr t ds k) cs w):=
 a6 (by simp[stepG,b3,bA])
theorem SX{id:Nat}:step P (lone (bA fr t ds (.inBlock id::k)) cs w)=.next (lone (bA fr t ds k) cs w):=
 a6 (by simp[stepG,b3,bA])
theorem SW{b:Code}:step P (lone (bA fr t ds (.inScope b::k)) cs w)=.next (lone (bA fr t ds k) cs w):=
 a6 (by simp[stepG,b3,bA])
theorem Ca{a b:Code}:step P (lone (bA fr t ds (.code (.seq a b)::k)) cs w)=.next (lone (bA fr t ds (.code a::.code b::k)) cs w):=
 a6 (by simp[stepG,b3,bA])
theorem aAS{c:a9}{x y:Code}{b:Bool}(h:fj t c= .bool b):
 step P (lone (bA fr t ds (.code (.cond c x y)::k)) cs w)=.next (lone (bA fr t ds (.code (if b then x else y)::k)) cs w):=
 a6 (by simp[stepG,b3,bA,eval_eq,h])
theorem xn{id:Nat}{c:Code}:step P (lone (bA fr t ds (.code (.block id c)::k)) cs w)=.next (lone (bA fr t ds (.code c::.inBlock id::k)) cs w):=
 a6 (by simp[stepG,b3,bA])
theorem Ba{c:Code}:step P (lone (bA fr t ds (.code (.scope c)::k)) cs w)=.next (lone (bA fr t ds (.code c::.inScope c::k)) cs w):=
 a6 (by simp[stepG,b3,bA])
theorem aAV{c:Code}:step P (lone (bA fr t ds (.code (.loop c)::k)) cs w)=.next (lone (bA fr t ds (.code c::.inLoop c::k)) cs w):=
 a6 (by simp[stepG,b3,bA])
theorem Tk{c:Code}:step P (lone (bA fr t ds (.inLoop c::k)) cs w)=.next (lone (bA fr t ds (.code c::.inLoop c::k)) cs w):=
 a6 (by simp[stepG,b3,bA])
theorem aAU{id:Nat}{a:List Item}(h:exitTo id k=some a):step P (lone (bA fr t ds (.code (.exit id)::k)) cs w)=.next (lone (bA fr t ds a) cs w):=
 a6 (by simp[stepG,b3,bA,h])
theorem P1{id:Nat}{a:Array Oper}:
 step P (lone (bA fr t ds (.code (.region id a false)::k)) cs w)=.next (lone (bA fr t ds (.inRegion a (List.range a.size)::k)) cs w):=
 a6 (by simp[stepG,b3,bA])
theorem aAT{id:Nat}{a:Array Oper}:
 step P (lone (bA fr t ds (.code (.region id a true)::k)) cs w)=
  .next (lone (bA fr t ds (.inRegion a (Region.schedule (P.follows .mixedOrders) a (w.tape w.drawn (.order fr.fn id)))::k)) cs {w with drawn:=w.drawn+1}):=
 a6 (by simp[stepG,b3,bA,choose,Sem.run,Question.forced,Question.cut])
theorem Gb{a:Array Oper}:step P (lone (bA fr t ds (.inRegion a []::k)) cs w)=.next (lone (bA fr t ds k) cs w):=
 a6 (by simp[stepG,b3,bA])
def mH(dst:Option Tmp)(v:a5)(t:Array a5):Array a5:=
 match dst with
 |some d=>t.setIfInBounds d v
 |none=>t
theorem mQ{a:Array Oper}{i:Nat}{r:List Nat}{o:Oper}(c:a[i]?=some o)(v:a5):
 (bA fr t ds (.inRegion a (i::r)::k)).finish v=bA fr (mH o.dst v t) ds (.inRegion a r::k):=by
 cases b:o.dst<;>simp[Frame.finish,bA,c,b,mH]
theorem H4{a:Array Oper}{i:Nat}{r:List Nat}{o:Oper}(b:a[i]?=some o)(c:bv o (yielded a t)=false):
 step P (lone (bA fr t ds (.inRegion a (i::r)::k)) cs w)=.next (lone (bA fr (mH o.dst undef t) ds (.inRegion a r::k)) cs w):=by
 rw[<-mQ b];exact a6 (by simp only[bA];simp[stepG,b3,b,c])
theorem Sz{o:Oper}(a:∀c,o.op≠ .defer c)(r:Option Nat)(A:Nat->Call->GStep)(B:GStep):
 (match r,o.op with
  |some l,.defer c=>A l c
  |_,_=>B)=B:=by
 cases r with
 |none=>rfl
 |some l=>cases h:o.op<;>first|rfl|exact absurd h (a _)
theorem aAW{a:Array Oper}{i:Nat}{r:List Nat}{o:Oper}{fr:bb}(e:fr.todo= .inRegion a (i::r)::k)(d:a[i]?=some o)(b:∀c,o.op≠ .defer c):
 b5 P true fr cs none w=b4 P true fr cs none (be (fj fr.tmps) o) w:=by
 simp only[b5,Frame.oper?,e,d,eval_eq];exact Sz b _ _ _
theorem A2{f:Bool}{a:Array Oper}{i:Nat}{r:List Nat}{o:Oper}(b:a[i]?=some o)(e:bv o (yielded a t)=true)(d:∀c,o.op≠ .defer c):
 stepG P f {frame:=bA fr t ds (.inRegion a (i::r)::k),callers:=cs,status:=.running,dying:=none} w=
  b4 P true (bA fr t ds (.inRegion a (i::r)::k)) cs none (be (fj t) o) w:=by
 have h:=aAW (P:=P) (cs:=cs) (w:=w) (fr:=bA fr t ds (.inRegion a (i::r)::k)) rfl b d;simp only[bA]at h⊢;simp[stepG,b3,b,e,h]
theorem rA{a:Array Oper}{i:Nat}{r:List Nat}{o:Oper}{n:Next}{b:a5}{w':a7}(d:a[i]?=some o)(h:bv o (yielded a t)=true)
 (e:∀c,o.op≠.defer c)(g:(be (fj t) o).run P w=.ok n w')(f:n=.value b\/n=.skip/\b=undef):
 step P (lone (bA fr t ds (.inRegion a (i::r)::k)) cs w)=.next (lone (bA fr (mH o.dst b t) ds (.inRegion a r::k)) cs w'):=by
 rw[<-mQ d];refine a6 ?_;rw[A2 d h e];rcases f with rfl|⟨rfl,rfl⟩<;>simp[b4,g,bA]
theorem tW{a:Array Oper}{i:Nat}{r:List Nat}{o:Oper}{f:a8}{args:Array a5}{w':a7}(d:a[i]?=some o)(g:bv o (yielded a t)=true)
 (b:∀c,o.op≠.defer c)(e:(be (fj t) o).run P w=.ok (.enter f args) w'):
 step P (lone (bA fr t ds (.inRegion a (i::r)::k)) cs w)=.next (lone (Frame.enter P f args .normal) (bA fr t ds (.inRegion a (i::r)::k)::cs) w'):=by
 refine a6 ?_;rw[A2 d g b];simp[b4,e,bA]
theorem Hn{a:Array Oper}{i:Nat}{r:List Nat}{o:Oper}{l:Nat}{f:a8}{tmps:Array a5}{assign body:Code}{w':a7}(d:a[i]?=some o)(g:bv o (yielded a t)=true)
 (b:∀c,o.op≠.defer c)(e:(be (fj t) o).run P w=.ok (.round l f tmps assign body) w'):
 step P (lone (bA fr t ds (.inRegion a (i::r)::k)) cs w)=.next (lone (Frame.round l f tmps assign body .normal) (bA fr t ds (.inRegion a (i::r)::k)::cs) w'):=by
 refine a6 ?_;rw[A2 d g b];simp[b4,e,bA]
end
end Go.au
namespace Go.au
variable[Gl]
mutual
theorem aB.mono{S T:Nat×Nat->Prop}(h:∀x,S x->T x):∀v,aB S v->aB T v
 | .p _,_=>by simp[aB]
 | .ptr b _,c| .bX b _ _ _ _,c| .sl b _ _ _ _,c| .map b,c=>by simp only[aB]at*;exact h _ c
 | .func _ a b,c=>by simp only[aB]at*;exact⟨aP.mono h a c.1,aP.mono h b c.2⟩
 | .st _ fs,c=>by simp only[aB]at*;exact aP.mono h fs c
 | .aC vs,c=>by simp only[aB]at*;exact aP.mono h vs c
theorem aP.mono{S T:Nat×Nat->Prop}(h:∀x,S x->T x):∀vs,aP S vs->aP T vs
 |[],_=>by simp[aP]
 |v::vs,c=>by simp only[aP]at*;exact⟨aB.mono h v c.1,aP.mono h vs c.2⟩
end
structure cL(P:a0)(n:Nat)(ah aa:Nat->Prop)(β:Bd)(s:St)(t:Array a5)(w:a7):Prop where
 heap:bQ P w aa β s.heap ah
 env:∀x,ar P w aa β s.heap (aM s.env x) (t.getD x undef)
 gn:∀x,aB (aH s.heap) (aM s.env x)
 size:t.size=n
structure oO(N:Nat)(β:Bd)(H:Heap)(aJ:Bd)(H':Heap):Prop where
 box:∀b,b<N->aH H (b,0)->me H' b->me H b/\aJ.ak b=β.ak b
 it:∀b,b<N->aH H (b,0)->mf H' b->mf H b/\aJ.ak b=β.ak b
 map:∀b,b<N->aH H (b,0)->nw H' b->nw H b/\aJ.ak b=β.ak b
 arr:∀b al ai k es,b<N->aH H (b,al)->ez H' b al ai k es->∃k0 gp,ez H b al ai k0 gp/\gp.length<=es.length/\(c8 k es↔c8 k0 gp)/\(¬c8 k es->aJ.ak b=β.ak b/\aJ.cap b=β.cap b)
 loop:∀b,b<N->aH H (b,0)->gC H' b->gC H b/\aJ.ak b=β.ak b
theorem b8.n{N:Nat}{β:Bd}{H:Heap}{aJ:Bd}{H':Heap}(h:b8 β H aJ H'):oO N β H aJ H':=
 ⟨fun b _=>h.box b,fun b _=>h.it b,fun b _=>h.map b,fun b al ai k es _=>h.arr b al ai k es,fun b _=>h.loop b⟩
theorem oO.full{β:Bd}{H:Heap}{aJ:Bd}{H':Heap}(h:oO H.length β H aJ H'):b8 β H aJ H':=by
 have lt:∀b v,aH H (b,v)->b<H.length:=fun b v⟨o,c,_⟩=>(ce.1 c).1;exact⟨fun b x=>h.box b (lt _ _ x) x,fun b x=>h.it b (lt _ _ x) x,fun b x=>h.map b (lt _ _ x) x,fun b al ai k a x=>h.arr b al ai k a (lt _ _ x) x,fun b x=>h.loop b (lt _ _ x) x⟩
theorem oO.trans{N:Nat}{β j l:Bd}{H H1 i:Heap}(h:oO N β H j H1)(hi:∀x,x.1<N->aH H x->aH H1 x)(g:oO N j H1 l i):oO N β H l i:=by
 refine⟨?_,?_,?_,?_,?_⟩
 ·intro b a c hl;obtain⟨d,a2⟩:=g.box b a (hi (b,0) a c) hl;obtain⟨e,f⟩:=h.box b a c d;exact⟨e,a2.trans f⟩
 ·intro b a c hl;obtain⟨d,a2⟩:=g.it b a (hi (b,0) a c) hl;obtain⟨e,f⟩:=h.it b a c d;exact⟨e,a2.trans f⟩
 ·intro b a c hl;obtain⟨d,a2⟩:=g.map b a (hi (b,0) a c) hl;obtain⟨e,f⟩:=h.map b a c d;exact⟨e,a2.trans f⟩
 ·intro b al ai k o a c hl;obtain⟨k1,p,d,a2,a3,a4⟩:=g.arr b al ai k o a (hi (b,al) a c) hl;obtain⟨k0,gp,e,f,m,n⟩:=h.arr b al ai k1 p a c d;refine⟨k0,gp,e,eb f a2,a3.trans m,fun a=>?_⟩;obtain⟨c1,c2⟩:=a4 a;obtain⟨d1,d2⟩:=n (fun x=>a (a3.2 x));exact⟨c1.trans d1,c2.trans d2⟩
 ·intro b a c hl;obtain⟨d,a2⟩:=g.loop b a (hi (b,0) a c) hl;obtain⟨e,f⟩:=h.loop b a c d;exact⟨e,a2.trans f⟩
structure dI(N:Nat)(ah aa:Nat->Prop)(w:a7)(β:Bd)(H:Heap)(jF aD:Nat->Prop)(w':a7)(aJ:Bd)(H':Heap):Prop where
 dT:∀k,ah k->jF k
 bR:∀k,aa k->aD k
 fresh:∀k,aD k->aa k\/¬ah k
 ext:Ext ah aa w w'
 step:oO N β H aJ H'
 eH:∀x,x.1<N->aH H x->aH H' x
 loop:∀b,b<N->gC H b->gC H' b
theorem dI.refl(N:Nat)(ah aa:Nat->Prop)(w:a7)(β:Bd)(H:Heap):dI N ah aa w β H ah aa w β H:=
 ⟨fun _ h=>h,fun _ h=>h,fun _ h=>.inl h,Ext.refl _ _ _,(b8.refl _ _).n,fun _ _ h=>h,fun _ _ h=>h⟩
theorem Ext.trans{ah aa jF aD:Nat->Prop}{w w1 b:a7}(c:∀k,ah k->jF k)(hi:∀k,aa k->aD k)(h:Ext ah aa w w1)(a:Ext jF aD w1 b):Ext ah aa w b:=
 ⟨eb h.size a.size,fun k hk=>(a.same k (hk.imp (c k) (hi k))).trans (h.same k hk),a.io.1.trans h.io.1,a.io.2.trans h.io.2⟩
theorem dI.trans{N:Nat}{ah aa g e i f:Nat->Prop}{w w1 j:a7}{β l m:Bd}{H H1 d:Heap}(h:dI N ah aa w β H g e w1 l H1)(a:dI N g e w1 l H1 i f j m d):dI N ah aa w β H i f j m d:=
 ⟨fun k x=>a.dT k (h.dT k x),fun k x=>a.bR k (h.bR k x),fun k x=>(a.fresh k x).elim (fun y=>h.fresh k y) (fun y=>.inr fun z=>y (h.dT k z)),h.ext.trans h.dT h.bR a.ext,
  h.step.trans h.eH a.step,fun x c hx=>a.eH x c (h.eH x c hx),fun b c n=>a.loop b c (h.loop b c n)⟩
theorem bU.eO{P:a0}{N:Nat}{ah aa aD:Nat->Prop}{w w':a7}{β aJ:Bd}{H H':Heap}(h:bU P ah aa w β H aD w' aJ H'):dI N ah aa w β H ah aD w' aJ H':=
 ⟨fun _ x=>x,h.bR,h.fresh,h.ext,h.step.n,fun x _=>h.eH x,fun b _=>h.loop b⟩
section
variable{P:a0}{ah aa aD:Nat->Prop}{w w':a7}{β aJ:Bd}{H H':Heap}
theorem eL.uk(a:w'.heap=w.heap){b:Nat}{o:Obj}(h:eL P w aa β H ah b o)(g:o.refs (aH H)):eL P w' aa β H ah b o:=by
 have p:=fun(v:AV) cs m=>bf.mono (P:=P) (w:=w) (w':=w') (aa:=aa) (aD:=aa) (β:=β) (aJ:=β) (H:=H) (H':=H) (fun _ x=>x) (fun k _=>by rw[a]) (b8.refl β H) v cs m;have q:=fun l(v:List AV) cs m=>bH.mono (P:=P) (w:=w) (w':=w') (aa:=aa) (aD:=aa) (β:=β) (aJ:=β) (H:=H) (H':=H) (fun _ x=>x) (fun k _=>by rw[a]) (b8.refl β H) l v cs m;have r:=fun(i:List (PV×PV)) f=>cC.mono (P:=P) (w:=w) (w':=w') (aa:=aa) (aD:=aa) (fun _ x=>x) (fun k _=>by rw[a]) i f;cases o with
 |hole=>trivial
 |dead=>trivial
 |box fz t=>
  obtain⟨cs,T,c,d,e⟩:=h;exact⟨cs,T,by rw[a];exact c,p _ _ g d,e⟩
 |arr k al ai i=>
  rcases h with h|⟨cs,T,n,rest,c,d,e⟩
  ·exact .inl h
  ·exact .inr ⟨cs,T,n,rest,by rw[a];exact c,q _ _ _ g d,e⟩
 |map fz i=>
  obtain⟨f,clock,c,d,e⟩:=h;exact⟨f,clock,by rw[a];exact c,r _ _ d,e⟩
 |dt ks vs=>
  obtain⟨f,clock,c,d,e,j⟩:=h;exact⟨f,clock,by rw[a];exact c,bg.mono (fun _ x=>x) (fun _ _=>by rw[a]) _ _ d,bt.mono (fun _ x=>x) (fun _ _=>by rw[a]) (b8.refl _ _) _ _ g e,j⟩
 |dv s pos=>
  obtain⟨bs,c,d⟩:=h;exact⟨bs,by rw[a];exact c,d⟩
 |loop L=>
  obtain⟨tmps,defers,fn,c,d,e,j⟩:=h;exact⟨tmps,defers,fn,by rw[a];exact c,d,fun x=>ar.mono (fun _ x=>x) (fun _ _=>by rw[a]) (b8.refl _ _) _ _ (g x) (e x),j⟩
theorem bQ.uk(a:w'.heap=w.heap)(h:bQ P w aa β H ah):bQ P w' aa β H ah:=
 ⟨fun b o c=>(h.cF b o c).uk a (h.refs b o c),h.inj,h.refs,fun k hk=>by rw[a];exact h.bR k hk,fun k hk=>by rw[a];exact h.dT k hk,h.gU.mono (fun _ x=>x) (fun _ _=>by rw[a])⟩
theorem bQ.mb(h:bQ P w aa β H ah){b:Nat}{o:Obj}(e:H[b]?=some o)(hl:o.live):β.ak b<w.heap.size:=by
 have c:=h.cF b o e;cases o with
 |hole=>exact hl.elim
 |dead=>exact hl.elim
 |box fz t=>obtain⟨cs,T,a,_⟩:=c;exact(av.1 a).1
 |arr k al ai es=>
  rcases c with c|⟨cs,T,f,rest,a,_⟩
  ·exact(hl c).elim
  ·exact(av.1 a).1
 |map fz es=>obtain⟨d,clock,a,_⟩:=c;exact(av.1 a).1
 |dt ks vs=>obtain⟨d,clock,a,_⟩:=c;exact(av.1 a).1
 |dv s pos=>obtain⟨bs,a,_⟩:=c;exact(av.1 a).1
 |loop L=>obtain⟨_,_,_,a,_⟩:=c;exact(av.1 a).1
theorem bU.set{b:Nat}{o':Obj}(g:bQ P w aa β H ah)(q:b<H.length)(m:∀x,x≠b->aJ.ak x=β.ak x/\aJ.cap x=β.cap x)
 (f:∀k,aa k->aD k)(O:∀k,aD k->aa k\/(k=aJ.ak b/\o'.live))(af:∀k,aD k->k<w'.heap.size)
 (U:w.heap.size<=w'.heap.size)(I:∀k,(k≠aJ.ak b\/¬o'.live)->k<w.heap.size->w'.heap[k]?=w.heap[k]?)
 (E:o'.live->w.heap.size<=aJ.ak b\/(aJ.ak b=β.ak b/\(∃o,H[b]?=some o/\o.live)/\((∀k,k=β.ak b->w'.heap[k]?=w.heap[k]?)\/¬aa (β.ak b))/\¬ah (β.ak b)))
 (aI:b8 β H aJ (H.set b o'))(ak:eL P w' aD aJ (H.set b o') ah b o')(am:o'.refs (aH (H.set b o')))(ag:∀(o:Obj)(v:Nat),H[b]?=some o->o.has v->o'.has v)(ae:∀L,H[b]?=some (.loop L)->∃B,o'=.loop B)(ad:w'.os=w.os/\w'.output=w.output:=by exact⟨rfl,rfl⟩):
 bU P ah aa w β H aD w' aJ (H.set b o'):=by
 have z:∀x o,x≠b->H[x]?=some o->o.live->¬aa (β.ak x)->o'.live->β.ak x≠aJ.ak b:=by
  intro x o hx d hl i r he;rcases E r with a|⟨a,⟨an,c,e⟩,_⟩
  ·have:=g.mb d hl;omega
  ·rw[a]at he;exact hx (g.inj x b o an d c hl e i he)
 have S:o'.live->¬ah (aJ.ak b):=by
  intro hl F;rcases E hl with a|⟨a,_,_,c⟩
  ·have:=g.dT _ F;omega
  ·rw[a]at F;exact c F
 have j:∀k,ah k\/aa k->w'.heap[k]?=w.heap[k]?:=by
  intro k hk;have Q:k<w.heap.size:=hk.elim (g.dT k) (g.bR k)
  by_cases u:k=aJ.ak b
  ·by_cases hl:o'.live
   ·rcases hk with hk|hk
    ·exact(S hl (u▸hk)).elim
    ·rcases E hl with a|⟨a,_,c,_⟩
     ·omega
     ·rcases c with c|c
      ·exact c k (u.trans a)
      ·exact(c (by rw[<-a,<-u];exact hk)).elim
   ·exact I k (.inr hl) Q
  ·exact I k (.inl u) Q
 have aj:∀x,aH H x->aH (H.set b o') x:=by
  rintro⟨x,v⟩ ⟨o,d,R⟩
  by_cases hx:x=b
  ·subst hx;exact⟨o',by simp[ck q],ag o v d R⟩
  ·exact⟨o,by simp only;rw[cc (ee hx)];exact d,R⟩
 have hrefs:∀v,aB (aH H) v->aB (aH (H.set b o')) v:=aB.mono aj;refine⟨f,fun k hk=>(O k hk).imp id (fun(h:k=aJ.ak b/\o'.live)=>h.1▸S h.2),⟨U,j,ad⟩,aI,⟨?_,?_,?_,af,fun k hk=>ec (g.dT k hk) U,g.gU.mono f (fun k hk=>j k (.inr hk))⟩,aj,?_⟩
 ·intro x o d
  by_cases hx:x=b
  ·subst hx;rw[ck q]at d;cases d;exact ak
  ·rw[cc (ee hx)]at d;have l:=g.cF x o d;have A:=g.refs x o d;have N:=(m x hx).1;have D:=(m x hx).2;have hs:o.live->w'.heap[aJ.ak x]?=w.heap[β.ak x]?:=by
    intro hl;rw[N]
    by_cases i:aa (β.ak x)
    ·exact j _ (.inr i)
    refine I _ ?_ (g.mb d hl)
    by_cases r:o'.live
    ·exact .inl (z x o hx d hl i r)
    ·exact .inr r
   have held:∀fz,o.live->cB aa β ah fz x->cB aD aJ ah fz x:=by
    intro fz hl p;unfold cB at p⊢;rw[N];cases fz with
    |true=>simp only[if_true]at p⊢;exact f _ p
    |false=>
     simp only[Bool.false_eq_true,if_false]at p⊢;refine⟨fun h=>?_,p.2⟩;rcases O _ h with h|⟨h,r⟩
     ·exact p.1 h
     ·exact z x o hx d hl p.1 r h
   cases o with
   |hole=>trivial
   |dead=>trivial
   |box fz t=>
    obtain⟨cs,T,a,c,e,n⟩:=l;exact⟨cs,T,(hs trivial).trans a,bf.mono f (fun k hk=>j k (.inr hk)) aI _ _ A c,held _ trivial e,n⟩
   |arr k al ai es=>
    rcases l with l|⟨cs,T,X,rest,a,c,e,n,Y,Z,ab,ac⟩
    ·exact .inl l
    ·by_cases hl:c8 k es
     ·exact .inl hl
     ·refine .inr ⟨cs,T,X,rest,(hs hl).trans a,bH.mono f (fun k hk=>j k (.inr hk)) aI _ _ _ A c,e,?_,?_,?_,held _ hl ab,ac⟩
      ·rw[D];exact n
      ·rw[D];exact Y
      ·rw[D];exact Z
   |map fz es=>
    obtain⟨C,clock,a,c,e⟩:=l;exact⟨C,clock,(hs trivial).trans a,cC.mono f (fun k hk=>j k (.inr hk)) _ _ c,held _ trivial e⟩
   |dt ks vs=>
    obtain⟨C,clock,a,c,e,n⟩:=l;exact⟨C,clock,(hs trivial).trans a,bg.mono f (fun k hk=>j k (.inr hk)) _ _ c,bt.mono f (fun k hk=>j k (.inr hk)) aI _ _ A e,held _ trivial n⟩
   |dv s pos=>
    obtain⟨bs,a,c,e⟩:=l;exact⟨bs,(hs trivial).trans a,c,held _ trivial e⟩
   |loop L=>
    obtain⟨tmps,defers,fn,a,c,e,n⟩:=l;exact⟨tmps,defers,fn,(hs trivial).trans a,c,fun x=>ar.mono f (fun k hk=>j k (.inr hk)) aI _ _ (A x) (e x),held _ trivial n⟩
 ·intro x y V W a c J K i he
  by_cases hx:x=b<;>by_cases hy:y=b
  ·rw[hx,hy]
  ·subst hx;rw[ck q]at a;cases a;rw[cc (ee hy)]at c;rw[(m y hy).1]at he;exact(z y W hy c K (fun hi=>i (he▸f _ hi)) J he.symm).elim
  ·subst hy;rw[ck q]at c;cases c;rw[cc (ee hx)]at a;rw[(m x hx).1]at he;rw[(m x hx).1]at i;exact(z x V hx a J (fun hi=>i (f _ hi)) K he).elim
  ·rw[cc (ee hx)]at a;rw[cc (ee hy)]at c;rw[(m x hx).1,(m y hy).1]at he;rw[(m x hx).1]at i;exact g.inj x y V W a c J K (fun hi=>i (f _ hi)) he
 ·intro x o d
  by_cases hx:x=b
  ·subst hx;rw[ck q]at d;cases d;exact am
  ·rw[cc (ee hx)]at d;have:=g.refs x o d;cases o with
   |box fz t=>exact hrefs _ this
   |arr k al ai es=>exact b9.2 fun v G=>hrefs v (b9.1 this v G)
   |dt ks vs=>exact b9.2 fun v G=>hrefs v (b9.1 this v G)
   |loop L=>exact fun x=>hrefs _ (this x)
   |_=>trivial
 ·rintro x ⟨L,M⟩
  by_cases hx:x=b
  ·subst hx;obtain⟨B,rfl⟩:=ae L M;exact⟨B,ck q⟩
  ·exact⟨L,by rw[cc (ee hx)];exact M⟩
end
end Go.au
namespace Go.au
variable[Gl]
def bh(P:a0)(o:Oper)(ρ:a9->AV)(a:Nat)(e:aU):Prop:=
 ∀(H:Heap)(w:a7)(aa ah:Nat->Prop)(β:Bd)(ρc:a9->a5),
  bQ P w aa β H ah->(∀x∈o.op.operands,ar P w aa β H (ρ x) (ρc x)/\aB (aH H) (ρ x))->(∀p∈e.aj,H[p.1]?=some p.2)->(∀i,i<e.aS.length->H[a+i]?=some .hole)->
  ∃n b w' aJ aD,(be ρc o).run P w=.ok n w'/\(n=.value b\/n=.skip/\b=undef)/\
   bU P ah aa w β H aD w' aJ (bd H (e.aK++newAt a e.aS))/\ar P w' aD aJ (bd H (e.aK++newAt a e.aS)) e.v b/\
   aB (aH (bd H (e.aK++newAt a e.aS))) e.v
section
variable{P:a0}{ah aa aD:Nat->Prop}{w w':a7}{β aJ:Bd}{H H':Heap}
theorem bU.refl(h:bQ P w aa β H ah):bU P ah aa w β H aa w β H:=
 ⟨fun _ x=>x,fun _ x=>.inl x,Ext.refl _ _ _,b8.refl _ _,h,fun _ x=>x,fun _ x=>x⟩
theorem bh.same{o:Oper}{ρ:a9->AV}{c:Nat}{v:AV}{aj:List (Nat×Obj)}
 (h:∀(H:Heap)(w:a7)(aa ah:Nat->Prop)(β:Bd)(ρc:a9->a5),bQ P w aa β H ah->(∀x∈o.op.operands,ar P w aa β H (ρ x) (ρc x)/\aB (aH H) (ρ x))->
  (∀p∈aj,H[p.1]?=some p.2)->∃a,(be ρc o).run P w=.ok (.value a) w/\ar P w aa β H v a/\aB (aH H) v):
 bh P o ρ c {v,aj}:=by
 intro H w aa ah β ρc b i g _;obtain⟨a,d,e,f⟩:=h H w aa ah β ρc b i g;exact⟨_,a,w,β,aa,d,.inl rfl,by simpa[newAt,bd]using bU.refl b,by simpa[newAt,bd]using e,by simpa[newAt,bd]using f⟩
theorem bU.trans{i j:Nat->Prop}{w1 m:a7}{n o:Bd}{H1 g:Heap}(h:bU P ah aa w β H i w1 n H1)(c:bU P ah i w1 n H1 j m o g):bU P ah aa w β H j m o g:=by
 refine⟨fun k x=>c.bR k (h.bR k x),fun k x=>(c.fresh k x).elim (h.fresh k) .inr,h.ext.trans (fun _ x=>x) h.bR c.ext,⟨?_,?_,?_,?_,?_⟩,c.rel,fun b a=>c.eH b (h.eH _ a),fun b a=>c.loop b (h.loop b a)⟩
 ·intro b a hl;obtain⟨d,a2⟩:=c.step.box b (h.eH _ a) hl;obtain⟨e,f⟩:=h.step.box b a d;exact⟨e,a2.trans f⟩
 ·intro b a hl;obtain⟨d,a2⟩:=c.step.it b (h.eH _ a) hl;obtain⟨e,f⟩:=h.step.it b a d;exact⟨e,a2.trans f⟩
 ·intro b a hl;obtain⟨d,a2⟩:=c.step.map b (h.eH _ a) hl;obtain⟨e,f⟩:=h.step.map b a d;exact⟨e,a2.trans f⟩
 ·intro b al ai k r a hl;obtain⟨k1,s,d,a2,a3,a4⟩:=c.step.arr b al ai k r (h.eH _ a) hl;obtain⟨k0,gp,e,f,p,q⟩:=h.step.arr b al ai k1 s a d;refine⟨k0,gp,e,eb f a2,a3.trans p,fun l=>?_⟩;obtain⟨c1,c2⟩:=a4 l;obtain⟨d1,d2⟩:=q (fun x=>l (a3.2 x));exact⟨c1.trans d1,c2.trans d2⟩
 ·intro b a hl;obtain⟨d,a2⟩:=c.step.loop b (h.eH _ a) hl;obtain⟨e,f⟩:=h.step.loop b a d;exact⟨e,a2.trans f⟩
theorem zX(H:Heap)(l r:List (Nat×Obj)):bd H (l++r)=bd (bd H l) r:=by
 induction l generalizing H with
 |nil=>rfl
 |cons p l a=>obtain⟨b,o⟩:=p;simp[bd,a]
theorem nX(H:Heap)(l:List (Nat×Obj)):(bd H l).length=H.length:=by
 induction l generalizing H with
 |nil=>rfl
 |cons p l a=>obtain⟨b,o⟩:=p;simp[bd,a]
theorem wy(H T:Heap)(l:List (Nat×Obj))(h:∀p∈l,p.1<H.length):bd (H++T) l=bd H l++T:=by
 induction l generalizing H with
 |nil=>rfl
 |cons p l c=>
  obtain⟨b,o⟩:=p;have a:b<H.length:=h (b,o) (by simp);simp only[bd];rw[List.set_append_left _ _ a,c];intro q hq;rw[List.length_set];exact h q (by simp[hq])
theorem Ai(H:Heap)(l:List Obj):bd (H++cb l.length .hole) (newAt H.length l)=H++l:=by
 induction l generalizing H with
 |nil=>simp[newAt,bd]
 |cons o l a=>
  simp only[newAt,bd,dq,dg];rw[List.set_append_right _ _ (ea _)];simp only[Nat.sub_self,dk];have:=a (H++[o]);simp only[dl,List.length_singleton,dp,List.singleton_append]at this;exact this
theorem jG(H:Heap)(m b:Nat):(H++cb m Obj.hole)[b]?=if b<H.length then H[b]? else if b<H.length+m then some .hole else none:=by
 by_cases h:b<H.length
 ·simp[h,cv]
 ·rw[cy (by omega)];simp only[List.getElem?_replicate,h,if_false]
  by_cases a:b<H.length+m
  ·simp[a,show b-H.length<m by omega]
  ·simp[a,show¬(b-H.length<m)by omega]
theorem mP{H:Heap}{m b:Nat}{o:Obj}(h:(H++cb m Obj.hole)[b]?=some o):H[b]?=some o\/o=.hole:=by
 rw[jG]at h
 split at h
 ·exact .inl h
 ·split at h
  ·exact .inr (by simpa using h.symm)
  ·simp at h
theorem l8(H:Heap)(m:Nat)(b:Nat×Nat)(h:aH H b):aH (H++cb m Obj.hole) b:=by
 obtain⟨o,a,d⟩:=h;have c:b.1<H.length:=(ce.1 a).1;exact⟨o,by rw[jG,if_pos c];exact a,d⟩
theorem nZ(β:Bd)(H:Heap)(m:Nat):b8 β H β (H++cb m .hole):=by
 refine⟨?_,?_,?_,?_,?_⟩
 ·rintro b _ ⟨fz,t,h⟩;rcases mP h with h|h<;>simp_all [me]
 ·rintro b _ ⟨fz,t,h⟩;rcases mP h with h|h<;>simp_all [mf]
 ·rintro b _ ⟨o,h,a⟩;rcases mP h with h|rfl
  ·exact⟨⟨o,h,a⟩,rfl⟩
  ·exact a.elim
 ·intro b al ai k c _ h;rcases mP h with h|h
  ·exact⟨k,c,h,ea _,Iff.rfl,fun _=>⟨rfl,rfl⟩⟩
  ·simp at h
 ·rintro b _ ⟨L,h⟩;rcases mP h with h|h<;>simp_all [gC]
theorem Obj.uo{S T:Nat×Nat->Prop}(h:∀x,S x->T x):∀{o:Obj},o.refs S->o.refs T
 | .box _ t,a=>aB.mono h t a
 | .arr _ _ _ es,a=>aP.mono h es a
 | .dt _ vs,a=>aP.mono h vs a
 | .loop _L,a=>fun x=>aB.mono h _ (a x)
 | .hole,_| .dead,_| .map _ _,_| .dv _ _,_=>trivial
theorem bQ.my(m:Nat)(h:bQ P w aa β H ah):bQ P w aa β (H++cb m .hole) ah:=by
 refine⟨?_,?_,?_,h.bR,h.dT,h.gU⟩
 ·intro b o d;rcases mP d with d|rfl
  ·have e:=h.cF b o d;have g:=h.refs b o d;have st:=nZ β H m;cases o with
   |hole=>trivial
   |dead=>trivial
   |box fz t=>
    obtain⟨cs,T,a,c,f⟩:=e;exact⟨cs,T,a,bf.mono (fun _ x=>x) (fun _ _=>rfl) st _ _ g c,f⟩
   |arr k al ai es=>
    rcases e with e|⟨cs,T,n,rest,a,c,f⟩
    ·exact .inl e
    ·exact .inr ⟨cs,T,n,rest,a,bH.mono (fun _ x=>x) (fun _ _=>rfl) st _ _ _ g c,f⟩
   |map fz es=>exact e
   |dt ks vs=>
    obtain⟨p,clock,a,c,f,i⟩:=e;exact⟨p,clock,a,c,bt.mono (fun _ x=>x) (fun _ _=>rfl) st _ _ g f,i⟩
   |dv s pos=>exact e
   |loop L=>
    obtain⟨tmps,defers,fn,a,c,f,i⟩:=e;exact⟨tmps,defers,fn,a,c,fun x=>ar.mono (fun _ x=>x) (fun _ _=>rfl) st _ _ (g x) (f x),i⟩
  ·trivial
 ·intro x y u v a c j l r q;rcases mP a with a|rfl
  ·rcases mP c with c|rfl
   ·exact h.inj x y u v a c j l r q
   ·exact l.elim
  ·exact j.elim
 ·intro b o d;rcases mP d with d|rfl
  ·exact Obj.uo (l8 H m) (h.refs b o d)
  ·trivial
theorem bh.use{o:Oper}{ρ:a9->AV}{e:aU}(h:bh P o ρ H.length e){ρc:a9->a5}(k:bQ P w aa β H ah)
 (c:∀x∈o.op.operands,ar P w aa β H (ρ x) (ρc x)/\aB (aH H) (ρ x))(aj:∀p∈e.aj,H[p.1]?=some p.2)(aK:∀p∈e.aK,p.1<H.length):
 ∃n a w' aJ aD,(be ρc o).run P w=.ok n w'/\(n=.value a\/n=.skip/\a=undef)/\
  bU P ah aa w β H aD w' aJ (bd H e.aK++e.aS)/\ar P w' aD aJ (bd H e.aK++e.aS) e.v a/\aB (aH (bd H e.aK++e.aS)) e.v:=by
 have aI:=nZ β H e.aS.length;obtain⟨n,a,w',aJ,aD,m,q,d,f,g⟩:=h (H++cb e.aS.length .hole) w aa ah β ρc (k.my _)
  (fun x hx=>⟨ar.mono (fun _ x=>x) (fun _ _=>rfl) aI _ _ (c x hx).2 (c x hx).1,aB.mono (l8 _ _) _ (c x hx).2⟩)
  (fun p s=>by have:=aj p s;rw[jG,if_pos (ce.1 this).1];exact this)
  (fun i hi=>by rw[jG,if_neg (by omega),if_pos (by omega)])
 have r:bd (H++cb e.aS.length .hole) (e.aK++newAt H.length e.aS)=bd H e.aK++e.aS:=by
  rw[zX,wy _ _ _ aK];have:=Ai (bd H e.aK) e.aS
  rwa [nX]at this
 rw[r]at d f g;refine⟨n,a,w',aJ,aD,m,q,?_,f,g⟩;have l:bU P ah aa w β H aa w β (H++cb e.aS.length .hole):=⟨fun _ x=>x,fun _ x=>.inl x,Ext.refl _ _ _,aI,k.my _,l8 _ _,fun b⟨L,j⟩=>⟨L,by rw[jG,if_pos (ce.1 j).1];exact j⟩⟩
 exact l.trans d
theorem qI.use{f:a8}{args:List AV}{e:aU}(h:qI P f args H.length e)(m:oU H e){c:List a5}(n:bQ P w aa β H ah)(r:bt P w aa β H args c)(o:aP (aH H) args):
 br P f c.toArray w fun x w'=>∃a aJ aD,x=.returned a/\bU P ah aa w β H aD w' aJ (bd H e.aK++e.aS)/\ar P w' aD aJ (bd H e.aK++e.aS) e.v a/\aB (aH (bd H e.aK++e.aS)) e.v:=by
 have aI:=nZ β H e.aS.length;refine(h.2 (H++cb e.aS.length .hole) w aa ah β c (n.my _)
  (bt.mono (fun _ x=>x) (fun _ _=>rfl) aI _ _ o r) (aP.mono (l8 _ _) _ o)
  (fun p d=>by have:=m.1 p d;rw[jG,if_pos (ce.1 this).1];exact this)
  (fun i hi=>by rw[jG,if_neg (by omega),if_pos (by omega)])).mono ?_
 rintro x w' ⟨a,aJ,aD,rfl,g,j,k⟩;have s:bd (H++cb e.aS.length .hole) (e.aK++newAt H.length e.aS)=bd H e.aK++e.aS:=by
  rw[zX,wy _ _ _ (fun p d=>(m.2 p d).1)];have:=Ai (bd H e.aK) e.aS
  rwa [nX]at this
 rw[s]at g j k;have q:bU P ah aa w β H aa w β (H++cb e.aS.length .hole):=⟨fun _ x=>x,fun _ x=>.inl x,Ext.refl _ _ _,aI,n.my _,l8 _ _,fun b⟨L,l⟩=>⟨L,by rw[jG,if_pos (ce.1 l).1];exact l⟩⟩
 exact⟨a,aJ,aD,rfl,q.trans g,j,k⟩
end
def kZ(P:a0)(ag:a8->Bool):Prop:=
 ∀(o:Oper)(ρ:a9->AV)(H:Heap)(K:aU->Prop),(∀v,ρ (.const v)=.p (ofConst v))->fh P ag o ρ H K->
  ∃e,K e/\bh P o ρ H.length e/\(∀p∈e.aj,H[p.1]?=some p.2)/\(∀p∈e.aK,p.1<H.length/\p.2≠.hole)
section
variable{P:a0}{ag:a8->Bool}{n:Nat}
theorem GD{w:a7}{aa:Nat->Prop}(v:a5):aw P w aa (ofConst v) v:=by
 unfold ofConst
 split<;>simp[aw]
theorem ny{ah aa:Nat->Prop}{β:Bd}{s:St}{t:Array a5}{w:a7}(h:cL P n ah aa β s t w)(x:a9):
 ar P w aa β s.heap (ev s.env x) (fj t x)/\aB (aH s.heap) (ev s.env x):=by
 cases x with
 |tmp x=>exact⟨h.env x,h.gn x⟩
 |const v=>exact⟨by simp only[ev,fj,ar];exact GD v,by simp[ev,aB]⟩
 |global g=>exact⟨by simp only[ev,fj,ar];exact h.heap.gU.val g,by simp[ev,aB]⟩
 |func f=>exact⟨by simp[ev,fj,ar,aw,bg],by simp[ev,aB]⟩
def iG(n:Nat)(o:Oper):Bool:=
 match o.dst with
 |some d=>decide (d<n)
 |none=>true
theorem ud(e:Env)(dst:Option Tmp)(v:AV)(x:Nat):aM (put dst v e) x=if dst=some x then v else aM e x:=by
 cases dst with
 |none=>simp[put]
 |some d=>
  simp only[put,aM,Option.some.injEq]
  by_cases h:x=d
  ·simp[h]
  ·simp[h,ee h]
theorem Uh{n:Nat}{o:Oper}(a:iG n o=true){t:Array a5}(c:t.size=n)(v:a5)(x:Nat):(mH o.dst v t).getD x undef=if o.dst=some x then v else t.getD x undef:=by
 unfold iG at a;cases b:o.dst with
 |none=>simp[mH]
 |some d=>
  simp only[b,decide_eq_true_eq]at a;simp only[mH,Option.some.injEq]
  by_cases h:d=x
  ·subst h;simp[c,a]
  ·simp only[h,if_false,Array.getD_eq_getD_getElem?,Array.getElem?_setIfInBounds_ne h]
theorem TS{t:Array a5}(dst:Option Tmp)(v:a5):(mH dst v t).size=t.size:=by cases dst<;>simp[mH]
theorem cL.put{ah aa aD:Nat->Prop}{β aJ:Bd}{s:St}{H':Heap}{t:Array a5}{w w':a7}{o:Oper}{v:AV}{b:a5}(h:cL P n ah aa β s t w)(c:iG n o=true)
 (a:bU P ah aa w β s.heap aD w' aJ H')(e:ar P w' aD aJ H' v b)(d:aB (aH H') v):
 cL P n ah aD aJ ⟨put o.dst v s.env,H'⟩ (mH o.dst b t) w':=by
 refine⟨a.rel,fun x=>?_,fun x=>?_,by rw[TS];exact h.size⟩
 ·rw[ud,Uh c h.size]
  split
  ·exact e
  ·exact ar.mono a.bR (fun k hk=>a.ext.same k (.inr hk)) a.step _ _ (h.gn x) (h.env x)
 ·rw[ud]
  split
  ·exact d
  ·exact aB.mono a.eH _ (h.gn x)
theorem Is{H T:Heap}{b:Nat×Nat}(h:aH H b):aH (H++T) b:=by
 obtain⟨o,a,c⟩:=h;exact⟨o,by rw[cv (ce.1 a).1];exact a,c⟩
theorem bQ.later{ah aa aD:Nat->Prop}{w w':a7}{β:Bd}{H:Heap}(h:bQ P w aa β H ah)(e:∀k,aa k->aD k)(hf:∀k,aD k->aa k\/w.heap.size<=k)
 (A:∀k,aD k->k<w'.heap.size)(p:w.heap.size<=w'.heap.size)(hs:∀k,k<w.heap.size->w'.heap[k]?=w.heap[k]?)(z:w'.os=w.os/\w'.output=w.output:=by exact⟨rfl,rfl⟩):bU P ah aa w β H aD w' β H:=by
 have same:∀k,aa k->w'.heap[k]?=w.heap[k]?:=fun k hk=>hs k (h.bR k hk);refine⟨e,fun k hk=>(hf k hk).imp id (fun c a=>by have:=h.dT k a;omega),⟨p,fun k hk=>hs k (hk.elim (h.dT k) (h.bR k)),z⟩,b8.refl _ _,?_,fun _ x=>x,fun _ x=>x⟩;refine⟨fun b o l=>?_,fun b b' o o' c a C D B=>h.inj b b' o o' c a C D (fun hi=>B (e _ hi)),h.refs,A,fun k hk=>ec (h.dT k hk) p,h.gU.mono e same⟩;have f:=h.cF b o l;have m:=h.refs b o l;have held:∀fz,o.live->cB aa β ah fz b->cB aD β ah fz b:=by
  intro fz hl j;have:=h.mb l hl;unfold cB at j⊢;cases fz with
  |true=>exact e _ j
  |false=>exact⟨fun x=>(hf _ x).elim j.1 (by omega),j.2⟩
 have i:o.live->w'.heap[β.ak b]?=w.heap[β.ak b]?:=fun hl=>hs _ (h.mb l hl);cases o with
 |hole=>trivial
 |dead=>trivial
 |box fz t=>
  obtain⟨cs,T,c,a,d,g⟩:=f;exact⟨cs,T,(i trivial).trans c,bf.mono e same (b8.refl _ _) _ _ m a,held _ trivial d,g⟩
 |arr k al ai es=>
  rcases f with f|⟨cs,T,q,rest,c,a,d,g,r,u,v,y⟩
  ·exact .inl f
  ·by_cases hl:c8 k es
   ·exact .inl hl
   ·exact .inr ⟨cs,T,q,rest,(i hl).trans c,bH.mono e same (b8.refl _ _) _ _ _ m a,d,g,r,u,held _ hl v,y⟩
 |map fz es=>
  obtain⟨n,clock,c,a,d⟩:=f;exact⟨n,clock,(i trivial).trans c,cC.mono e same _ _ a,held _ trivial d⟩
 |dt ks vs=>
  obtain⟨n,clock,c,a,d,g⟩:=f;exact⟨n,clock,(i trivial).trans c,bg.mono e same _ _ a,bt.mono e same (b8.refl _ _) _ _ m d,held _ trivial g⟩
 |dv s pos=>
  obtain⟨bs,c,a,d⟩:=f;exact⟨bs,(i trivial).trans c,a,held _ trivial d⟩
 |loop L=>
  obtain⟨tmps,defers,fn,c,a,d,g⟩:=f;exact⟨tmps,defers,fn,(i trivial).trans c,a,fun x=>ar.mono e same (b8.refl _ _) _ _ (m x) (d x),held _ trivial g⟩
theorem n7{w:a7}{aa:Nat->Prop}{β:Bd}{H:Heap}:∀{a b:List AV}{x y:List a5},bt P w aa β H a x->bt P w aa β H b y->bt P w aa β H (a++b) (x++y)
 |[],b,x,y,h,c=>by simp only[bt]at h;subst h;simpa using c
 |v::a,b,x,y,h,c=>by
  simp only[bt]at h;obtain⟨z,f,rfl,d,e⟩:=h;simp only[dz,bt];exact⟨z,f++y,rfl,d,n7 e c⟩
theorem jr{S:Nat×Nat->Prop}{a b:List AV}(h:aP S a)(d:aP S b):aP S (a++b):=by
 rw[b9]at*;intro v c;rcases List.mem_append.1 c with c|c
 ·exact h v c
 ·exact d v c
theorem uf{ah aa:Nat->Prop}{β:Bd}{s:St}{t:Array a5}{w:a7}(h:cL P n ah aa β s t w):∀l:List a9,
 bt P w aa β s.heap (l.map (ev s.env)) (l.map (fj t))/\aP (aH s.heap) (l.map (ev s.env))
 |[]=>by simp[bt,aP]
 |x::l=>by
  have a:=ny h x;have b:=uf h l;simp only[cx,bt,aP];exact⟨⟨_,_,rfl,a.1,b.1⟩,a.2,b.2⟩
end
section
variable{P:a0}{w:a7}{aa ah:Nat->Prop}{β:Bd}{H:Heap}
def Bd.at(β:Bd)(b ak cap:Nat):Bd:=⟨fun x=>if x=b then ak else β.ak x,fun x=>if x=b then cap else β.cap x⟩
theorem xe{b:Nat}(f:H[b]?=some .hole)(o':Obj)(ak cap:Nat):b8 β H (β.at b ak cap) (H.set b o'):=by
 have a:∀{x v},aH H (x,v)->x≠b:=by
  rintro x v ⟨o,d,i⟩ rfl;simp only at d;rw[f]at d;cases d;exact i
 have c:∀{x v},aH H (x,v)->(H.set b o')[x]?=H[x]?:=fun hx=>cc (ee (a hx));refine⟨?_,?_,?_,?_,?_⟩
 ·rintro x hx ⟨fz,t,h⟩;rw[c hx]at h;exact⟨⟨fz,t,h⟩,by simp[Bd.at,a hx]⟩
 ·rintro x hx ⟨fz,t,h⟩;rw[c hx]at h;exact⟨⟨fz,t,h⟩,by simp[Bd.at,a hx]⟩
 ·rintro x hx ⟨o,h,g⟩;rw[c hx]at h;exact⟨⟨o,h,g⟩,by simp[Bd.at,a hx]⟩
 ·intro x al ai k e hx h;unfold ez at h;rw[c hx]at h;exact⟨k,e,h,ea _,Iff.rfl,fun _=>by simp[Bd.at,a hx]⟩
 ·rintro x hx ⟨L,h⟩;rw[c hx]at h;exact⟨⟨L,h⟩,by simp[Bd.at,a hx]⟩
theorem rO(e:bQ P w aa β H ah){a:Nat}(b:H[a]?=some .hole){ob:Go.Obj}{o':Obj}{cap:Nat}
 (g:eL P {w with heap:=w.heap.push ob} aa (β.at a w.heap.size cap) (H.set a o') ah a o')(h:o'.refs (aH (H.set a o'))):
 bU P ah aa w β H aa {w with heap:=w.heap.push ob} (β.at a w.heap.size cap) (H.set a o'):=by
 refine bU.set e (ce.1 b).1 (fun x hx=>by simp[Bd.at,hx]) (fun _ x=>x) (fun _ x=>.inl x) (fun k hk=>by have:=e.bR k hk;simp;omega) (by simp)
  (fun k _ hk=>by simp[ax,ed hk]) (fun _=>.inl (by simp[Bd.at])) (xe b _ _ _) g h (fun i v c f=>by rw[b]at c;cases c;exact f.elim) (fun L d=>by rw[b]at d;cases d)
theorem tZ(w:a7)(a:Go.Obj){k:Nat}(hk:k<w.heap.size):({w with heap:=w.heap.push a}:a7).heap[k]?=w.heap[k]?:=by
 simp[ax,ed hk]
end
section
variable{P:a0}{w:a7}{aa aD ah:Nat->Prop}{β:Bd}{H:Heap}
def Row(P:a0)(w:a7)(aa:Nat->Prop)(β:Bd)(H:Heap)(ai:Nat)(a:List AV)(b:List (List a5)):Prop:=bH P w aa β H (cb a.length ai) a b
theorem gR{ai:Nat}{a:List (List a5)}:Row P w aa β H ai [] a↔a=[]:=by simp[Row,bH]
theorem pB{ai:Nat}{v:AV}{b:List AV}{a:List (List a5)}:Row P w aa β H ai (v::b) a↔∃c cs,a=c::cs/\bf P w aa β H v c/\c.length=ai/\Row P w aa β H ai b cs:=by
 simp[Row,dg,bH]
theorem ky{ai:Nat}:∀{a b:List AV}{d:List (List a5)},Row P w aa β H ai (a++b) d↔∃c1 c2,d=c1++c2/\Row P w aa β H ai a c1/\Row P w aa β H ai b c2
 |[],b,d=>by
  simp only[List.nil_append];constructor
  ·intro h;exact⟨[],d,rfl,gR.2 rfl,h⟩
  ·rintro⟨c1,c2,rfl,e,f⟩;rw[gR.1 e];simpa using f
 |v::a,b,d=>by
  simp only[dz,pB];constructor
  ·rintro⟨c,cs,rfl,e,f,g⟩;obtain⟨c1,c2,rfl,i,j⟩:=ky.1 g;exact⟨c::c1,c2,rfl,⟨c,c1,rfl,e,f,i⟩,j⟩
  ·rintro⟨c1,c2,rfl,⟨c,cs,rfl,e,f,g⟩,i⟩;exact⟨c,cs++c2,rfl,e,f,ky.2 ⟨cs,c2,rfl,g,i⟩⟩
theorem fA{ai:Nat}:∀{b:List AV}{a:List (List a5)},Row P w aa β H ai b a->a.length=b.length/\a.flatten.length=b.length*ai
 |[],a,h=>by rw[gR]at h;subst h;simp
 |v::b,a,h=>by
  rw[pB]at h;obtain⟨c,cs,rfl,f,d,e⟩:=h;have:=fA e;simp only[dq,List.flatten_cons,dl,this,d,Nat.succ_mul];exact⟨trivial,by omega⟩
theorem ly{ai:Nat}{a:List PV}{b:List (List a5)}:Row P w aa β H ai (a.map .p) b↔bc P w aa (cb a.length ai) a b:=by
 unfold Row;rw[List.length_map];exact mZ
theorem jt{ai:Nat}{d:List AV}{e:List (List a5)}(h:Row P w aa β H ai d e)(off len:Nat)(hl:off+len<=d.length):
 ∃a b c,e=a++b++c/\Row P w aa β H ai ((d.drop off).take len) b/\a.flatten.length=off*ai/\Row P w aa β H ai (d.take off) a/\Row P w aa β H ai (d.drop (off+len)) c:=by
 have e1:d=d.take off++((d.drop off).take len++d.drop (off+len)):=by
  rw[<-List.drop_drop,da,da]
 rw[e1,ky]at h;obtain⟨a,r,rfl,f,g⟩:=h;rw[ky]at g;obtain⟨b,c,rfl,i,j⟩:=g;refine⟨a,b,c,by simp,i,?_,f,j⟩;have:=(fA f).2;rw[this,List.length_take,Nat.min_eq_left (by omega)]
theorem lg{cs:Array a5}{T:a1}{fz:Nat×Nat}{ak:Nat}(a:w.heap[ak]?=some (.cells cs T fz)){pre xs post:List a5}(hc:cs.toList=pre++xs++post):
 gB w ak pre.length xs:=by
 intro i hi;have:cs[pre.length+i]?=some xs[i]:=by
  rw[<-Array.getElem?_toList,hc,dp,cy (by omega)];simp only[Nat.add_sub_cancel_left];rw[cv hi,List.getElem?_eq_getElem hi]
 simp[World.cell?,a,this]
theorem z7(a:List PV)(off len:Nat):(((a.map AV.p).drop off).take len)=((a.drop off).take len).map .p:=by
 rw[<-List.map_drop,<-List.map_take]
theorem lA{H:Heap}{b:Nat}{d o:Obj}(c:H[b]?=some d)(e:∀v,d.has v->o.has v):∀x,aH H x->aH (H.set b o) x:=by
 rintro⟨x,v⟩ ⟨f,a,h⟩
 by_cases hx:b=x
 ·subst hx;simp only at a;rw[c]at a;cases a;exact⟨o,by simp only;rw[ck (ce.1 c).1],e v h⟩
 ·exact⟨f,by simp only;rw[cc hx];exact a,h⟩
theorem rr{b:Nat}{o o':Obj}(m:H[b]?=some o)(hk:(∃f g t,o= .box f t/\o'= .box g t)\/(∃k n v z c,o= .arr k v z c/\o'= .arr n v z c/\¬c8 k c/\¬c8 n c)\/(∃f g c,o= .map f c/\o'= .map g c)):
 b8 β H β (H.set b o'):=by
 have u:b<H.length:=(ce.1 m).1;have i:∀x,x≠b->(H.set b o')[x]?=H[x]?:=fun x hx=>cc (ee hx);have e:(H.set b o')[b]?=some o':=ck u;refine⟨?_,?_,?_,?_,?_⟩
 ·rintro x _ ⟨fz,t,h⟩;refine⟨?_,rfl⟩
  by_cases hx:x=b
  ·subst hx;rw[e]at h;cases h;rcases hk with⟨f,g,l,d,a⟩|⟨_,_,_,_,_,_,a,_⟩|⟨_,_,_,_,a⟩
   ·exact⟨f,l,by rw[m,d]⟩
   ·cases a
   ·cases a
  ·rw[i x hx]at h;exact⟨fz,t,h⟩
 ·rintro x _ ⟨s,p,h⟩;refine⟨?_,rfl⟩
  by_cases hx:x=b
  ·subst hx;rw[e]at h;cases h;rcases hk with⟨f,g,l,d,a⟩|⟨_,_,_,_,_,_,a,_⟩|⟨_,_,_,_,a⟩<;>cases a
  ·rw[i x hx]at h;exact⟨s,p,h⟩
 ·rintro x _ ⟨w,h,j⟩;refine⟨?_,rfl⟩
  by_cases hx:x=b
  ·subst hx;rw[e]at h;cases h;rcases hk with⟨f,g,l,d,a⟩|⟨_,_,_,_,_,_,a,_⟩|⟨f,g,c,d,a⟩
   ·rw[a]at j;exact j.elim
   ·rw[a]at j;exact j.elim
   ·exact⟨o,m,by rw[d];trivial⟩
  ·rw[i x hx]at h;exact⟨w,h,j⟩
 ·intro x al ai k c _ h
  by_cases hx:x=b
  ·subst hx;unfold ez at h⊢;rw[e]at h;cases h;rcases hk with⟨f,g,l,d,a⟩|⟨k0,n,v,z,y,d,a,q,r⟩|⟨f,g,c,d,a⟩
   ·cases a
   ·cases a;exact⟨k0,c,by rw[m,d],ea _,⟨fun x=>(r x).elim,fun x=>(q x).elim⟩,fun _=>⟨rfl,rfl⟩⟩
   ·cases a
  ·unfold ez at h⊢;rw[i x hx]at h;exact⟨k,c,h,ea _,Iff.rfl,fun _=>⟨rfl,rfl⟩⟩
 ·rintro x _ ⟨L,h⟩;refine⟨?_,rfl⟩
  by_cases hx:x=b
  ·subst hx;rw[e]at h;cases h;rcases hk with⟨f,g,l,d,a⟩|⟨_,_,_,_,_,_,a,_⟩|⟨_,_,_,_,a⟩<;>cases a
  ·rw[i x hx]at h;exact⟨L,h⟩
theorem cB.sB{fz:Bool}{b:Nat}(h:cB aa β ah fz b):aa (β.ak b)\/(¬aa (β.ak b)/\¬ah (β.ak b)):=by
 cases fz with
 |true=>exact .inl h
 |false=>exact .inr h
theorem rC(e:bQ P w aa β H ah){b:Nat}{o o':Obj}(f:H[b]?=some o)(hl:o.live)(O:o'.live)(u:∀v,o.has v->o'.has v)(r:∀L,o≠ .loop L)
 (aI:b8 β H β (H.set b o'))(N:aa (β.ak b)\/(¬aa (β.ak b)/\¬ah (β.ak b)))
 (aS:∀aD:Nat->Prop,(∀k,aa k->aD k)->aD (β.ak b)->eL P w aD β (H.set b o') ah b o')(A:o'.refs (aH (H.set b o'))):
 ∃aD,bU P ah aa w β H aD w β (H.set b o')/\aD (β.ak b):=by
 have q:b<H.length:=(ce.1 f).1
 by_cases hi:aa (β.ak b)
 ·
  refine⟨aa,?_,hi⟩;have aj:=lA f u;refine⟨fun _ x=>x,fun _ x=>.inl x,Ext.refl _ _ _,aI,⟨?_,?_,?_,e.bR,e.dT,e.gU⟩,aj,fun x⟨L,j⟩=>⟨L,by
   by_cases hx:b=x
   ·subst hx;rw[f]at j;cases j;exact(r L rfl).elim
   ·rw[cc hx];exact j⟩⟩
  ·intro x l d
   by_cases hx:x=b
   ·subst hx;rw[ck q]at d;cases d;exact aS aa (fun _ x=>x) hi
   ·rw[cc (ee hx)]at d;have g:=e.cF x l d;have m:=e.refs x l d;cases l with
    |hole=>trivial
    |dead=>trivial
    |box fz t=>
     obtain⟨cs,T,a,c,i⟩:=g;exact⟨cs,T,a,bf.mono (fun _ x=>x) (fun _ _=>rfl) aI _ _ m c,i⟩
    |arr k al ai es=>
     rcases g with g|⟨cs,T,J,rest,a,c,i⟩
     ·exact .inl g
     ·exact .inr ⟨cs,T,J,rest,a,bH.mono (fun _ x=>x) (fun _ _=>rfl) aI _ _ _ m c,i⟩
    |map fz es=>exact g
    |dt ks vs=>
     obtain⟨K,clock,a,c,i,p⟩:=g;exact⟨K,clock,a,c,bt.mono (fun _ x=>x) (fun _ _=>rfl) aI _ _ m i,p⟩
    |dv s pos=>exact g
    |loop L=>
     obtain⟨tmps,defers,fn,a,c,i,p⟩:=g;exact⟨tmps,defers,fn,a,c,fun x=>ar.mono (fun _ x=>x) (fun _ _=>rfl) aI _ _ (m x) (i x),p⟩
  ·intro x y D W a c S U Q M;have conv:∀(z:Nat)(n:Obj),(H.set b o')[z]?=some n->n.live->∃E:Obj,H[z]?=some E/\E.live:=by
    intro z n B V
    by_cases C:z=b
    ·subst C;exact⟨o,f,hl⟩
    ·rw[cc (ee C)]at B;exact⟨n,B,V⟩
   obtain⟨F,G,c1⟩:=conv x D a S;obtain⟨a2,I,c2⟩:=conv y W c U;exact e.inj x y F a2 G I c1 c2 Q M
  ·intro x l d
   by_cases hx:x=b
   ·subst hx;rw[ck q]at d;cases d;exact A
   ·rw[cc (ee hx)]at d;exact Obj.uo aj (e.refs x l d)
 ·refine⟨fun k=>aa k\/k=β.ak b,?_,.inr rfl⟩;have R:=N.resolve_left hi;exact bU.set e q (fun _ _=>⟨rfl,rfl⟩) (fun _ x=>.inl x) (fun k hk=>hk.imp id (fun h=>⟨h,O⟩)) (fun k hk=>hk.elim (e.bR k) (fun h=>h▸e.mb f hl)) (ea _)
   (fun _ _ _=>rfl) (fun _=>.inr ⟨rfl,⟨o,f,hl⟩,.inl (fun _ _=>rfl),R.2⟩) aI (aS _ (fun _ x=>.inl x) (.inr rfl)) A (fun D v a c=>by rw[f]at a;cases a;exact u v c) (fun L j=>by rw[f]at j;cases j;exact(r L rfl).elim)
theorem Ih{z:AV}{pv:PV}{H1:Heap}{v:a5}(d:ki H z=some (pv,H1))(i:bQ P w aa β H ah)(f:ar P w aa β H z v)(Y:aB (aH H) z):
 ∃aD,bU P ah aa w β H aD w β H1/\aw P w aD pv v:=by
 cases z with
 |p t=>
  simp[ki]at d;obtain⟨rfl,rfl⟩:=d;exact⟨aa,bU.refl i,by simpa[ar]using f⟩
 |sl b al ai off len=>
  simp only[ki]at d
  split at d
  case h_2=>simp at d
  rename_i k Z W j g
  split at d
  case isFalse=>simp at d
  rename_i O;obtain⟨rfl,rfl,hl⟩:=O;simp only[ar]at f;obtain⟨_,f⟩:=f;simp only[bO]at f;obtain⟨v1,v2,v3⟩:=f k j g
  split at d
  ·rename_i u;simp at d;obtain⟨rfl,rfl⟩:=d;exact⟨aa,bU.refl i,by simp[aw,v2 u]⟩
  ·rename_i u
   split at d
   case h_2=>simp at d
   rename_i J R;simp at d;obtain⟨rfl,rfl⟩:=d;have A:=lx R;have E:=i.cF b _ g;rcases E with E|⟨cs,T,F,rest,n,l,r,B,L,M,N,X⟩
   ·exact(u E).elim
   have I:¬c8 .frozen j:=fun h=>by cases h.1
   have aI:b8 β H β (H.set b (.arr .frozen al ai j)):=rr g (.inr (.inl ⟨_,_,_,_,_,rfl,rfl,u,I⟩));obtain⟨aD,q,y⟩:=rC i g u (o':=.arr .frozen al ai j) I (fun _ h=>h) (fun _ h=>by cases h) aI N.sB
    (fun aD hi x=>.inr ⟨cs,T,F,rest,n,bH.mono hi (fun _ _=>rfl) aI _ _ _ (i.refs b _ g) l,r,B,L,(fun h=>by cases h),x,fun _ e C=>(by rw[A]at C;simp at C;obtain⟨a,_,rfl⟩:=C;trivial),fun h=>by cases h⟩)
    (by rw[A];exact iM _ _)
   refine⟨aD,q,?_⟩;rw[v3 u];have S:Row P w aD β H ai j F:=bH.mono q.bR (fun _ _=>rfl) (b8.refl _ _) _ _ _ (i.refs b _ g) l;obtain⟨a,m,c,e1,e2,e3,e4,e5⟩:=jt S off len v1;rw[A,z7,ly]at e2;have D:((J.drop off).take len).length=len:=by
    have:j.length=J.length:=by rw[A];simp
    simp;omega
   simp only[aw];refine⟨β.ak b,off*ai,β.cap b-off,ai,m,e2,fun _=>y,?_,?_,?_,none,.inl rfl,?_⟩
   ·rw[<-e3];exact lg n (post:=c.flatten++rest) (by rw[r,e1];simp)
   ·intro hf;simp at hf;rw[D,M hf.1];omega
   ·rw[D];omega
   ·rw[D]
 |ptr b path=>
  simp only[ki]at d
  split at d
  case h_2=>simp at d
  rename_i fz t g
  split at d
  case h_2=>simp at d
  rename_i s hs;simp at d;obtain⟨rfl,rfl⟩:=d;simp only[ar]at f;obtain⟨_,f⟩:=f;simp only[bO]at f;obtain⟨V,U,o,rfl,Q,f⟩:=f;obtain⟨rfl,rfl⟩:=f (.inl ⟨fz,_,g⟩);obtain⟨cs,T,n,l,r,B⟩:=i.cF b _ g;have aI:b8 β H β (H.set b (.box true (.p t))):=rr g (.inl ⟨_,_,_,rfl,rfl⟩);obtain⟨aD,q,y⟩:=rC i g trivial (o':=.box true (.p t)) trivial (fun _ h=>h) (fun _ h=>by cases h) aI r.sB
   (fun aD hi x=>⟨cs,T,n,bf.mono hi (fun _ _=>rfl) aI _ _ (by simp[aB]) l,x,fun _=>trivial,B.2⟩) (by simp[Obj.refs,aB])
  refine⟨aD,q,?_⟩;have K:aV P w aD t cs.toList:=by simp only[bf]at l;exact aV.mono q.bR (fun _ _=>rfl) _ _ l
  obtain⟨pre,xs,post,e1,e2,e3⟩:=xy K hs Q;simp only[aw];refine⟨β.ak b,U,xs,e3,y,?_,rfl⟩;rw[<-e2];exact lg n e1
 |map b=>
  simp only[ki]at d
  split at d
  case h_2=>simp at d
  rename_i fz j g;simp at d;obtain⟨rfl,rfl⟩:=d;simp only[ar]at f;obtain⟨_,f⟩:=f;simp only[bO]at f;have f:=f.1 ⟨_,g,trivial⟩;obtain⟨G,clock,n,l,r⟩:=i.cF b _ g;have aI:b8 β H β (H.set b (.map true j)):=rr g (.inr (.inr ⟨_,_,_,rfl,rfl⟩));obtain⟨aD,q,y⟩:=rC i g trivial (o':=.map true j) trivial (fun _ h=>h) (fun _ h=>by cases h) aI r.sB
   (fun aD hi x=>⟨G,clock,n,cC.mono hi (fun _ _=>rfl) _ _ l,x⟩) trivial
  refine⟨aD,q,?_⟩;simp only[aw];exact⟨β.ak b,G,clock,y,n,cC.mono q.bR (fun _ _=>rfl) _ _ l,f⟩
 |bX=>simp[ki]at d
 |func=>simp[ki]at d
 |st=>simp[ki]at d
 |aC=>simp[ki]at d
end
section
variable{P:a0}{ag:a8->Bool}{n N:Nat}
theorem AF{w:a7}{β:Bd}{ah:Nat->Prop}:∀{e:List AV}{g:List PV}{H H1:Heap}{aa:Nat->Prop}{vs:List a5},mG H e=some (g,H1)->bQ P w aa β H ah->
 bt P w aa β H e vs->aP (aH H) e->∃aD,bU P ah aa w β H aD w β H1/\bg P w aD g vs
 |[],g,H,H1,aa,vs,b,h,c,_=>by
  simp[mG]at b;obtain⟨rfl,rfl⟩:=b;simp only[bt]at c;exact⟨aa,bU.refl h,by simpa[bg]using c⟩
 |a::e,g,H,H1,aa,vs,b,h,c,f=>by
  simp only[mG]at b
  split at b
  case h_2=>simp at b
  rename_i v o j
  split at b
  case h_2=>simp at b
  rename_i r p k;simp at b;obtain⟨rfl,rfl⟩:=b;simp only[bt]at c;obtain⟨y,n,rfl,k1,k2⟩:=c;simp only[aP]at f;obtain⟨q,d,l⟩:=Ih j h k1 f.1;obtain⟨i,q1,m⟩:=AF k d.rel (bt.mono d.bR (fun _ _=>rfl) d.step _ _ f.2 k2) (aP.mono d.eH _ f.2);refine⟨i,d.trans q1,?_⟩;simp only[bg];exact⟨y,n,rfl,aw.mono q1.bR (fun _ _=>rfl) _ _ l,m⟩
def jN(P:a0)(n N:Nat)(fr:bb)(k:List Item)(cs:List bb)(c:Array Oper)(ah aa:Nat->Prop)(w:a7)(β:Bd)(H:Heap)(m:Machine)(r:List Nat)(b:List bk)(K:St->Prop):Prop:=
 ∃s' aD aJ a w',K s'/\Steps P m (lone (bA fr a b (.inRegion c r::k)) cs w')/\cL P n ah aD aJ s' a w'/\dI N ah aa w β H ah aD w' aJ s'.heap
theorem Rf{d:Bool}{o:Oper}{K:St->Prop}{s:St}(h:jl P ag d o K s)(c:Call):o.op≠.defer c:=by
 intro hc;unfold jl at h;rw[hc]at h;simp[fh,hc]at h
variable{fr:bb}{k:List Item}{cs:List bb}{ops:Array Oper}{i:Nat}{r:List Nat}{ds:List bk}
theorem G9{d:Bool}{o:Oper}{f:a9}{F:Array a9}{Z:Array a1}{g:a8}{fi ca:List AV}{K:St->Prop}{s:St}{ah aa:Nat->Prop}{β:Bd}{t:Array a5}{w:a7}
 (W:o.op=.call {callee:=.value f,args:=F,argTypes:=Z})
 (hf:(ev s.env f=.func g fi ca)\/(∃a b,ev s.env f=.p (.func g a b)/\fi=a.map .p/\ca=b.map .p))
 (h:gE P d g (fi++F.toList.map (ev s.env)++ca) s.heap (fun v H'=>K ⟨put o.dst v s.env,H'⟩))
 (m:cL P n ah aa β s t w)(G:iG n o=true)(C:ops[i]?=some o)(M:bv o (yielded ops t)=true):
 jN P n N fr k cs ops ah aa w β s.heap (lone (bA fr t ds (.inRegion ops (i::r)::k)) cs w) r ds K:=by
 have E:=ny m f;obtain⟨y,u,al,ak,ai,ap,ao⟩:∃y u:List a5,fj t f=.func (.func g) y.toArray u.toArray/\bt P w aa β s.heap fi y/\bt P w aa β s.heap ca u/\aP (aH s.heap) fi/\aP (aH s.heap) ca:=by
  rcases hf with hf|⟨a,b,hf,rfl,rfl⟩
  ·rw[hf]at E;simp only[ar,aB]at E;obtain⟨⟨y,u,l,j,z⟩,ac,ad⟩:=E;exact⟨y,u,z,l,j,ac,ad⟩
  ·rw[hf]at E;simp only[ar,aw]at E;obtain⟨⟨y,u,l,j,z⟩,_⟩:=E;exact⟨y,u,z,jh.2 l,jh.2 j,iM _ _,iM _ _⟩
 obtain⟨af,ag⟩:=uf m F.toList;have D:=n7 (n7 ak af) ai;have Q:=jr (jr ap ag) ao;have q:(be (fj t) o).run P w=(callFunc g (y++F.toList.map (fj t)++u).toArray).run P w:=by
  simp only[be,W,resolve,al,Deferred.ofValue,Sem.run_bind,Sem.run_pure,Result.andThen_ok,invoke];congr 2;simp
 have L:∀c,o.op≠.defer c:=fun c hc=>by rw[W]at hc;cases hc
 have pure:∀(H1:Heap)(B:Nat->Prop)(vs:List PV)(v:PV),bU P ah aa w β s.heap B w β H1->bg P w B vs (y++F.toList.map (fj t)++u)->az P g vs v->
  K ⟨put o.dst (.p v) s.env,H1⟩->jN P n N fr k cs ops ah aa w β s.heap (lone (bA fr t ds (.inRegion ops (i::r)::k)) cs w) r ds K:=by
  intro H1 B vs v A Y I U;rcases I with⟨R,I⟩|I
  ·rw[R]at q;obtain⟨e,w',S,⟨O,aD,H,g1,g2,g3,g4,g5,ab,g6⟩,aI,V,J⟩:=I w B _ A.rel.bR A.rel.gU Y (bA fr t ds (.inRegion ops (i::r)::k)::cs);subst H;have X:=A.trans (A.rel.later g1 g2 g3 g4 g5 ab);refine⟨_,aD,β,_,w',U,?_,m.put G X (by simpa[ar]using g6) (by simp[aB]),X.eO⟩;rw[<-mQ C];exact(b2 (tW C M L q)).trans (b1 aI (.one (bi J)))
  ·obtain⟨O,l,j⟩:=I w B _ Y;rw[l]at q;exact⟨_,B,β,_,w,U,.one (rA C M L q (.inl rfl)),m.put G A (by simpa[ar]using j) (by simp[aB]),A.eO⟩
 rcases h with⟨vs,v,l,j,z⟩|⟨_,⟨vs,H1,v,l,j,z⟩|⟨H',v,⟨R,l⟩,j⟩|⟨e,T,an,j⟩|⟨aj,v,ae,am,j⟩⟩
 ·exact pure s.heap aa vs v (bU.refl m.heap) (by rw[l]at D;exact jh.1 D) j z
 ·obtain⟨B,aq,au⟩:=AF l m.heap D Q;exact pure H1 B vs v aq au j z
 ·rw[R]at q;obtain⟨e,w',S,⟨O,aJ,aD,H,g1,g2,g3⟩,aI,V,J⟩:=l w aa ah β _ m.heap D Q (bA fr t ds (.inRegion ops (i::r)::k)::cs);subst H;refine⟨_,aD,aJ,_,w',j,?_,m.put G g1 g2 g3,g1.eO⟩;rw[<-mQ C];exact(b2 (tW C M L q)).trans (b1 aI (.one (bi J)))
 ·rw[T.1]at q;obtain⟨x,w',S,⟨O,aJ,aD,H,g1,g2,g3⟩,aI,V,J⟩:=T.use an m.heap D Q (bA fr t ds (.inRegion ops (i::r)::k)::cs);subst H;refine⟨_,aD,aJ,_,w',j,?_,m.put G g1 g2 g3,g1.eO⟩;rw[<-mQ C];exact(b2 (tW C M L q)).trans (b1 aI (.one (bi J)))
 ·obtain⟨O,l,z⟩:=ae s.heap w aa ah β _ m.heap D Q am;rw[l]at q;have A:=bU.refl m.heap;exact⟨_,aa,β,_,w,j,.one (rA C M L q (.inl rfl)),m.put G A (by simpa[ar]using z) (by simp[aB]),A.eO⟩
end
end Go.au
