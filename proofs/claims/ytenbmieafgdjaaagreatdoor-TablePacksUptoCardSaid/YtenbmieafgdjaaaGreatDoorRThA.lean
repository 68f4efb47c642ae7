import Derived.Calls
import Derived.Laws.Sem
import Derived.IntWalk
import Derived.Laws.Cells
import Derived.Laws.CopyRow
import Derived.Laws.Entries
/- Parts of a proof. -/
set_option linter.unusedSimpArgs false
set_option linter.unusedVariables false
set_option linter.unusedSectionVars false
open Array renaming getElem?_eq_some_iff->av, getElem?_push->ax, toList->ay
open BitVec renaming ofInt->aT
open Go renaming Program->a0, TypeId->a1, Value->a5, step_lone_go->a6, World->a7, FuncId->a8, Operand->a9, Frame->bb, execOp->be, step_leave_returned->bi, Deferred->bk, MapEntry->bl, IntKind->bo, Calls->bv
open Go.Region renaming wanted->b0, binds->b1
open Go.Steps renaming trans->b2, one->b3
open Go.stepG renaming exec->b4, apply->b5, oper->cb
open List renaming replicate->cc, getElem?_set_ne->ce, getElem?_eq_some_iff->ck, getElem?_set_self->cv, getElem?_append_left->cx, map_cons->cy, getElem?_append_right->c6, mem_or_eq_of_mem_set->c9, length_eq_zero_iff->da, take_append_drop->db, mem_of_getElem?->dg, replicate_succ->dk, set_cons_zero->dl, length_append->dp, append_assoc->dq, length_cons->dz, cons_append->ea
open Nat renaming le_refl->eb, le_trans->ec, lt_of_lt_of_le->ed, ne_of_lt->ee
open Ne renaming symm->ei
namespace Go.aj
set_option linter.unusedSectionVars false
inductive PV where
 |undef
 |bool (b:Bool)
 |int (k:bo) (n:Int)
 |str (s:List Nat)
 |dC
 |ct (t:PV)
 |aN
 |bL (full:Bool) (es:List PV)
 |seq (es:List PV)
 |fw
 |eJ (es:List (PV×PV))
 |func (f:a8) (first ic:List PV)
 |gG
 |fS
 |st (u:a1) (fs:List PV)
 |aE (vs:List PV)
 deriving Inhabited
inductive AV where
 |p (v:PV)
 |ptr (b:Nat) (path:List (a1×Nat))
 |bV (b ar ai i:Nat) (path:List (a1×Nat))
 |sl (b ar ai off len:Nat)
 |map (b:Nat)
 |func (f:a8) (first ic:List AV)
 |st (u:a1) (fs:List AV)
 |aE (vs:List AV)
 deriving Inhabited
inductive AK where|exact|grow|frozen|bytes
 deriving DecidableEq
def AK.gr:AK->Bool
 | .grow| .bytes=>true
 |_=>false
structure fg where
 st:LoopState
 pending:Option Code
 n:Nat
 params:List Tmp
 assign:Code
 body:Code
 env:List (Nat×AV)
inductive Obj where
 |hole
 |dead
 |box (fz:Bool) (t:AV)
 |arr (k:AK) (ar ai:Nat) (es:List AV)
 |map (fz:Bool) (es:List (PV×PV))
 |di (ks:List PV) (vs:List AV)
 |dt (s:List Nat) (pos:Nat)
 |loop (L:fg)
 deriving Inhabited
abbrev Heap:=List Obj
abbrev Env:=List (Nat×AV)
structure St where
 env:Env
 heap:Heap
def aM(e:Env)(t:Nat):AV:=
 match e with
 |[]=>.p .undef
 |(k,v)::r=>if t=k then v else aM r t
inductive jk where|bad|leaf|agg (u:a1)
 deriving DecidableEq
def aL:PV->jk
 | .undef| .aE _=>.bad
 | .st u _=>.agg u
 |_=>.leaf
def aa:AV->jk
 | .p v=>aL v
 | .aE _=>.bad
 | .st u _=>.agg u
 |_=>.leaf
def cF:PV->List PV
 | .st _ fs=>fs
 |_=>[]
section tables
variable(P:a0)
def dD(u:a1):Option (List Nat):=
 match(P.info? u).map (fun i:TypeInfo=>i.desc)with
 |some (.struct fs)=>
  let l:=fs.toList.map fun f=>P.cellsOf f.type
  if l.all (0<·)&&l.sum==P.cellsOf u&&(fs.toList.zipIdx.all fun(f,i)=>f.offset==(l.take i).sum)then some l else none
 |some (.array n e)=>if 0<P.cellsOf e&&n*P.cellsOf e==P.cellsOf u then some (cc n (P.cellsOf e))else none
 |_=>none
def kindOf(T:a1):jk:=
 match P.underlying T with
 |some (.struct _)|some (.array _ _)=>
  if(dD P (P.underlyingId T)).isSome&&P.cellsOf T==P.cellsOf (P.underlyingId T)then .agg (P.underlyingId T)else .bad
 |some _=>if P.cellsOf T==1 then .leaf else .bad
 |none=>.bad
def bD:jk->Nat
 | .bad=>0
 | .leaf=>1
 | .agg u=>P.cellsOf u
def jm(u:a1):List a1:=
 match(P.info? u).map (fun i:TypeInfo=>i.desc)with
 |some (.struct fs)=>fs.toList.map (·.type)
 |some (.array n e)=>cc n e
 |_=>[]
end tables
def ofConst:a5->PV
 | .bool b=>.bool b
 | .int k n=>.int k n
 | .string s=>.str (s.data.toList.map (·.toNat))
 | .pointer none=>.dC
 | .slice none 0 0=>.aN
 | .map none=>.fw
 | .nilFunc=>.gG
 | .nilIface=>.fS
 |_=>.undef
def o8(P:a0)(a:a1->List a5->Option PV):List a1->List Nat->List a5->Option (List PV)
 |[],[],[]=>some []
 |T::b,s::c,cs=>
  if(cs.take s).length=s then
   match a T (cs.take s),o8 P a b c (cs.drop s)with
   |some v,some vs=>if bD P (aL v)=s then some (v::vs)else none
   |_,_=>none
  else none
 |_,_,_=>none
def tC(P:a0):Nat->a1->List a5->Option PV
 |0,_,_=>none
 |n+1,T,cs=>
  match kindOf P T with
  | .leaf=>match cs with
   |[c]=>match ofConst c with
    | .undef=>none
    |v=>some v
   |_=>none
  | .agg u=>match dD P u with
   |some l=>
    match o8 P (tC P n) (jm P u) l cs with
    |some fs=>some (.st u fs)
    |none=>none
   |none=>none
  | .bad=>none
def zw:a5->jk->Bool
 | .agg _,.agg _=>true
 | .agg _,_=>false
 |_,.agg _=>false
 |_,_=>true
def cH(P:a0)(T:a1):Option PV:=
 match(P.info? T).bind (·.zero)with
 |some z=>if zw z (kindOf P T)then tC P 40 T z.cells.toList else none
 |none=>none
section relation
variable(P:a0)(w:a7)(ad:Nat->Prop)
def gM(al off:Nat)(cs:List a5):Prop:=∀i(h:i<cs.length),w.cell? ⟨al,off+i,none⟩=some cs[i]
mutual
def aP:PV->List a5->Prop
 | .undef,_| .aE _,_=>False
 | .bool b,cs=>cs=[.bool b]
 | .int k n,cs=>cs=[.int k n]
 | .str s,cs=>∃bs:ByteArray,cs=[.string bs]/\s=bs.data.toList.map (·.toNat)
 | .dC,cs=>cs=[.pointer none]
 | .ct t,cs=>∃al off ts,aP t ts/\ad al/\gM w al off ts/\cs=[.pointer (some ⟨al,off,none⟩)]
 | .aN,cs=>cs=[.slice none 0 0]
 | .bL full es,cs=>∃al off cap ai a,aY (cc es.length ai) es a/\(es≠[]->ad al)/\gM w al off a.flatten/\
  (full=true->cap=es.length)/\es.length<=cap/\∃sp,(sp=none\/cap=0)/\cs=[.slice (some ⟨al,off,sp⟩) es.length cap]
 | .seq es,cs=>(es=[]/\cs=[.slice none 0 0])\/∃al off cap ai a,aY (cc es.length ai) es a/\(es≠[]->ad al)/\gM w al off a.flatten/\
  es.length<=cap/\∃sp,(sp=none\/cap=0)/\cs=[.slice (some ⟨al,off,sp⟩) es.length cap]
 | .fw,cs=>cs=[.map none]
 | .eJ es,cs=>∃r h j,ad r/\w.heap[r]?=some (.map h j)/\cz es h.toList/\cs=[.map (some r)]
 | .func f first ic,cs=>∃i g,bn first i/\bn ic g/\cs=[.func (.func f) i.toArray g.toArray]
 | .gG,cs=>cs=[.nilFunc]
 | .fS,cs=>cs=[.nilIface]
 | .st u fs,cs=>∃l a,dD P u=some l/\aY l fs a/\cs=a.flatten
def aY:List Nat->List PV->List (List a5)->Prop
 |[],[],a=>a=[]
 |n::p,v::vs,a=>∃c cs,a=c::cs/\aP v c/\c.length=n/\aY p vs cs
 |_,_,_=>False
def aA:PV->a5->Prop
 | .undef,_=>True
 | .aE vs,v=>∃d,bn vs d/\v=.tuple d.toArray
 | .st u fs,v=>∃l a,dD P u=some l/\aY l fs a/\v=.agg a.flatten.toArray
 | .bool b,v=>v=.bool b
 | .int k n,v=>v=.int k n
 | .str s,v=>∃bs:ByteArray,v=.string bs/\s=bs.data.toList.map (·.toNat)
 | .dC,v=>v=.pointer none
 | .ct t,v=>∃al off ts,aP t ts/\ad al/\gM w al off ts/\v=.pointer (some ⟨al,off,none⟩)
 | .aN,v=>v=.slice none 0 0
 | .bL full es,v=>∃al off cap ai a,aY (cc es.length ai) es a/\(es≠[]->ad al)/\gM w al off a.flatten/\
  (full=true->cap=es.length)/\es.length<=cap/\∃sp,(sp=none\/cap=0)/\v=.slice (some ⟨al,off,sp⟩) es.length cap
 | .seq es,v=>(es=[]/\v= .slice none 0 0)\/∃al off cap ai a,aY (cc es.length ai) es a/\(es≠[]->ad al)/\gM w al off a.flatten/\
  es.length<=cap/\∃sp,(sp=none\/cap=0)/\v=.slice (some ⟨al,off,sp⟩) es.length cap
 | .fw,v=>v=.map none
 | .eJ es,v=>∃r h j,ad r/\w.heap[r]?=some (.map h j)/\cz es h.toList/\v=.map (some r)
 | .func f first ic,v=>∃i g,bn first i/\bn ic g/\v=.func (.func f) i.toArray g.toArray
 | .gG,v=>v=.nilFunc
 | .fS,v=>v=.nilIface
def bn:List PV->List a5->Prop
 |[],d=>d=[]
 |v::vs,d=>∃y o,d=y::o/\aA v y/\bn vs o
def cz:List (PV×PV)->List bl->Prop
 |[],es=>es=[]
 |(k,v)::r,es=>∃e m,es=e::m/\aA k e.key/\aA v e.val/\cz r m
end
end relation
class Gl where
 g:Nat->PV
 u8:a1
 raw:Nat->Option (Array a5)
 bx:a1->Option a1
def jg[Gl](T:a1)(s:jk):Bool:=match s with
 | .agg u=>match Gl.bx u with
  |some a=>Nat.beq T a
  |none=>true
 |_=>true
structure mI[Gl](P:a0)(w:a7)(ad:Nat->Prop):Prop where
 val:∀g,aA P w ad (Gl.g g) (.pointer (some ⟨g,0,none⟩))
 raw:∀g cs,Gl.raw g=some cs->ad g/\∃T,w.heap[g]?=some (.cells cs T (0,0))
end Go.aj
namespace Go.aj
variable[Gl]
structure Bd where
 al:Nat->Nat
 cap:Nat->Nat
def fY(P:a0):List (a1×Nat)->Option Nat
 |[]=>some 0
 |(u,i)::r=>
  match dD P u,fY P r with
  |some l,some o=>if i<l.length then some ((l.take i).sum+o)else none
  |_,_=>none
def Obj.uD:Obj->Prop
 | .map _ _| .di _ _=>True
 |_=>False
section
variable(P:a0)(w:a7)(ad:Nat->Prop)(β:Bd)(H:Heap)
def mG(b:Nat):Prop:=∃fz t,H[b]?=some (.box fz t)
def eD(b ar ai:Nat)(k:AK)(a:List AV):Prop:=H[b]?=some (.arr k ar ai a)
def cX(k:AK)(a:List AV):Prop:=k.gr=true/\a=[]
def nM(b:Nat):Prop:=∃o,H[b]?=some o/\o.uD
def mH(b:Nat):Prop:=(∃s pos,H[b]?=some (.dt s pos))
def gN(b:Nat):Prop:=(∃L,H[b]?=some (.loop L))
def bO:AV->a5->Prop
 | .ptr b path,v=>∃al off o,v=.pointer (some ⟨al,off,none⟩)/\fY P path=some o/\(mG H b\/mH H b->al=β.al b/\off=o)
 | .bV b ar ai i path,v=>∃al off o,v=.pointer (some ⟨al,off,none⟩)/\fY P path=some o/\∀k a,eD H b ar ai k a->¬cX k a->al=β.al b/\off=i*ai+o
 | .sl b ar ai off len,v=>∀k a,eD H b ar ai k a->
  off+len<=a.length/\(cX k a->v=.slice none 0 0)/\(¬cX k a->v=.slice (some ⟨β.al b,off*ai,none⟩) len (β.cap b-off))
 | .map b,v=>(nM H b->v=.map (some (β.al b)))/\(gN H b->v=.func (.yield (β.al b)) #[] #[])
 |_,_=>False
def bK(v:AV)(x:a5):Prop:=x.oneCell'=true/\bO P β H v x
mutual
def bf:AV->List a5->Prop
 | .p t,cs=>aP P w ad t cs
 | .st u fs,cs=>∃l a,dD P u=some l/\bJ l fs a/\cs=a.flatten
 | .func f first ic,cs=>∃e d,br first e/\br ic d/\cs=[.func (.func f) e.toArray d.toArray]
 | .aE _,_=>False
 | .ptr b path,cs=>∃v,cs=[v]/\bK P β H (.ptr b path) v
 | .bV b ar ai i path,cs=>∃v,cs=[v]/\bK P β H (.bV b ar ai i path) v
 | .sl b ar ai off len,cs=>∃v,cs=[v]/\bK P β H (.sl b ar ai off len) v
 | .map b,cs=>∃v,cs=[v]/\bK P β H (.map b) v
def bJ:List Nat->List AV->List (List a5)->Prop
 |[],[],a=>a=[]
 |n::h,v::vs,a=>∃c cs,a=c::cs/\bf v c/\c.length=n/\bJ h vs cs
 |_,_,_=>False
def au:AV->a5->Prop
 | .p t,v=>aA P w ad t v
 | .st u fs,v=>∃l a,dD P u=some l/\bJ l fs a/\v=.agg a.flatten.toArray
 | .func f first ic,v=>∃e d,br first e/\br ic d/\v=.func (.func f) e.toArray d.toArray
 | .aE vs,v=>∃xs,br vs xs/\v=.tuple xs.toArray
 | .ptr b path,v=>bK P β H (.ptr b path) v
 | .bV b ar ai i path,v=>bK P β H (.bV b ar ai i path) v
 | .sl b ar ai off len,v=>bK P β H (.sl b ar ai off len) v
 | .map b,v=>bK P β H (.map b) v
def br:List AV->List a5->Prop
 |[],xs=>xs=[]
 |v::vs,xs=>∃y g,xs=y::g/\au v y/\br vs g
end
mutual
def aC(n:Nat×Nat->Prop):AV->Prop
 | .p _=>True
 | .ptr b _| .map b=>n (b,0)
 | .bV b ar _ _ _| .sl b ar _ _ _=>n (b,ar)
 | .func _ first ic=>aR n first/\aR n ic
 | .st _ fs=>aR n fs
 | .aE vs=>aR n vs
def aR(n:Nat×Nat->Prop):List AV->Prop
 |[]=>True
 |v::vs=>aC n v/\aR n vs
end
def Obj.has:Obj->Nat->Prop
 | .hole,_=>False
 | .arr _ ar _ _,v=>v<=ar
 |_,_=>True
def aG(H:Heap)(x:Nat×Nat):Prop:=∃o,H[x.1]?=some o/\o.has x.2
def AV.rO:AV->Prop
 | .p _=>True
 |_=>False
def Obj.refs(n:Nat×Nat->Prop):Obj->Prop
 | .box _ t=>aC n t
 | .arr _ _ _ es=>aR n es
 | .di _ vs=>aR n vs
 | .loop L=>∀x,aC n (aM L.env x)
 |_=>True
def Obj.live:Obj->Prop
 | .hole| .dead=>False
 | .arr k _ _ es=>¬cX k es
 |_=>True
variable(ah:Nat->Prop)
def cw(fz:Bool)(b:Nat):Prop:=if fz then ad (β.al b)else¬ad (β.al b)/\¬ah (β.al b)
def eZ(b:Nat):Obj->Prop
 | .hole| .dead=>True
 | .box fz t=>∃cs T,w.heap[β.al b]?=some (.cells cs T (0,0))/\bf P w ad β H t cs.toList/\cw ad β ah fz b/\(fz=true->t.rO)/\jg T (aa t)=true
 | .arr k _ver ai es=>cX k es\/
  ∃cs T d f,w.heap[β.al b]?=some (.cells cs T (0,0))/\bJ P w ad β H (cc es.length ai) es d/\cs.toList=d.flatten++f/\
   cs.size=β.cap b*ai/\es.length<=β.cap b/\(k=.exact->β.cap b=es.length)/\cw ad β ah (k== .frozen) b/\(k=.frozen->∀e∈es,e.rO)/\(k=.bytes->T=Gl.u8)
 | .map fz es=>∃a c,w.heap[β.al b]?=some (.map a c)/\cz P w ad es a.toList/\cw ad β ah fz b
 | .di ks vs=>∃a c,w.heap[β.al b]?=some (.map a c)/\bn P w ad ks (a.toList.map (·.key))/\br P w ad β H vs (a.toList.map (·.val))/\cw ad β ah false b
 | .dt s pos=>∃bs:ByteArray,w.heap[β.al b]?=some (.stringIter bs pos)/\s=bs.data.toList.map (·.toNat)/\cw ad β ah false b
 | .loop L=>∃tmps defers fn,w.heap[β.al b]?=some (.loop {state:=L.st,pending:=L.pending,fn,tmps,params:=L.params.toArray,assign:=L.assign,body:=L.body,defers})/\tmps.size=L.n/\
  (∀x,au P w ad β H (aM L.env x) (tmps.getD x undef))/\cw ad β ah false b
structure bP:Prop where
 cB:∀b o,H[b]?=some o->eZ P w ad β H ah b o
 inj:∀b b' o o',H[b]?=some o->H[b']?=some o'->o.live->o'.live->¬ad (β.al b)->β.al b=β.al b'->b=b'
 refs:∀(b:Nat)(o:Obj),H[b]?=some o->o.refs (aG H)
 bQ:∀k,ad k->k<w.heap.size
 dX:∀k,ah k->k<w.heap.size
 ig:mI P w ad
end
structure Ext(ah ad:Nat->Prop)(w w':a7):Prop where
 size:w.heap.size<=w'.heap.size
 same:∀k,ah k\/ad k->w'.heap[k]?=w.heap[k]?
 io:w'.os=w.os/\w'.output=w.output
structure b9(β:Bd)(H:Heap)(aH:Bd)(H':Heap):Prop where
 box:∀b,aG H (b,0)->mG H' b->mG H b/\aH.al b=β.al b
 it:∀b,aG H (b,0)->mH H' b->mH H b/\aH.al b=β.al b
 map:∀b,aG H (b,0)->nM H' b->nM H b/\aH.al b=β.al b
 arr:∀b ar ai k es,aG H (b,ar)->eD H' b ar ai k es->∃k0 gE,eD H b ar ai k0 gE/\gE.length<=es.length/\(cX k es↔cX k0 gE)/\(¬cX k es->aH.al b=β.al b/\aH.cap b=β.cap b)
 loop:∀b,aG H (b,0)->gN H' b->gN H b/\aH.al b=β.al b
theorem b9.refl(β:Bd)(H:Heap):b9 β H β H:=
 ⟨fun _ _ h=>⟨h,rfl⟩,fun _ _ h=>⟨h,rfl⟩,fun _ _ h=>⟨h,rfl⟩,fun _ _ _ k a _ h=>⟨k,a,h,eb _,Iff.rfl,fun _=>⟨rfl,rfl⟩⟩,fun _ _ h=>⟨h,rfl⟩⟩
theorem Ext.refl(ah ad:Nat->Prop)(w:a7):Ext ah ad w w:=⟨eb _,fun _ _=>rfl,rfl,rfl⟩
section mono
variable{P:a0}{w w':a7}{ad aD:Nat->Prop}
theorem Ws{al off:Nat}(h:w'.heap[al]?=w.heap[al]?):w'.cell? ⟨al,off,none⟩=w.cell? ⟨al,off,none⟩:=by
 simp[World.cell?,h]
theorem gM.same{al off:Nat}{cs:List a5}(h:w'.heap[al]?=w.heap[al]?)(hc:gM w al off cs):gM w' al off cs:=
 fun i hi=>(Ws h).trans (hc i hi)
theorem uM{n:List Nat}{a:List (List a5)}(h:aY P w ad n [] a):a=[]:=by
 cases n<;>simp[aY]at h;exact h
variable(hI:∀k,ad k->aD k)(hs:∀k,ad k->w'.heap[k]?=w.heap[k]?)
include hI hs
mutual
theorem aP.mono:∀(v:PV)(cs:List a5),aP P w ad v cs->aP P w' aD v cs
 | .undef,_,h| .aE _,_,h=>by simp[aP]at h
 | .bool _,_,h| .int _ _,_,h| .str _,_,h| .dC,_,h| .aN,_,h| .fw,_,h| .gG,_,h| .fS,_,h=>by simpa[aP]using h
 | .ct t,cs,h=>by
  simp only[aP]at h⊢;obtain⟨al,off,ts,a,b,d,j⟩:=h;exact⟨al,off,ts,aP.mono t ts a,hI _ b,d.same (hs _ b),j⟩
 | .bL full o,cs,h=>by
  simp only[aP]at h⊢;obtain⟨al,off,cap,ai,g,a,b,d,j⟩:=h;refine⟨al,off,cap,ai,g,aY.mono _ o g a,fun m=>hI _ (b m),?_,j⟩
  by_cases m:o=[]
  ·subst m;have:=uM a;subst this;intro i hi;simp at hi
  ·exact d.same (hs _ (b m))
 | .seq o,cs,h=>by
  simp only[aP]at h⊢;rcases h with h|⟨al,off,cap,ai,g,a,b,d,j⟩
  ·exact .inl h
  refine .inr ⟨al,off,cap,ai,g,aY.mono _ o g a,fun m=>hI _ (b m),?_,j⟩
  by_cases m:o=[]
  ·subst m;have:=uM a;subst this;intro i hi;simp at hi
  ·exact d.same (hs _ (b m))
 | .eJ o,cs,h=>by
  simp only[aP]at h⊢;obtain⟨r,p,clock,a,b,d,j⟩:=h;exact⟨r,p,clock,hI _ a,(hs _ a).trans b,cz.mono o _ d,j⟩
 | .func f first ic,cs,h=>by
  simp only[aP]at h⊢;obtain⟨z,s,a,b,d⟩:=h;exact⟨z,s,bn.mono first z a,bn.mono ic s b,d⟩
 | .st u fs,cs,h=>by
  simp only[aP]at h⊢;obtain⟨l,g,a,b,d⟩:=h;exact⟨l,g,a,aY.mono l fs g b,d⟩
theorem aY.mono:∀(l:List Nat)(vs:List PV)(g:List (List a5)),aY P w ad l vs g->aY P w' aD l vs g
 |[],[],_,h=>by simpa[aY]using h
 |[],_::_,_,h=>by simp[aY]at h
 |_::_,[],_,h=>by simp[aY]at h
 |n::B,v::vs,g,h=>by
  simp only[aY]at h⊢;obtain⟨c,cs,a,b,d,j⟩:=h;exact⟨c,cs,a,aP.mono v c b,d,aY.mono B vs cs j⟩
theorem aA.mono:∀(v:PV)(x:a5),aA P w ad v x->aA P w' aD v x
 | .undef,_,h=>by simp[aA]
 | .aE vs,x,h=>by
  simp only[aA]at h⊢;obtain⟨q,a,b⟩:=h;exact⟨q,bn.mono vs q a,b⟩
 | .bool _,_,h| .int _ _,_,h| .str _,_,h| .dC,_,h| .aN,_,h| .fw,_,h| .gG,_,h| .fS,_,h=>by simpa[aA]using h
 | .ct t,cs,h=>by
  simp only[aA]at h⊢;obtain⟨al,off,ts,a,b,d,j⟩:=h;exact⟨al,off,ts,aP.mono t ts a,hI _ b,d.same (hs _ b),j⟩
 | .bL full o,cs,h=>by
  simp only[aA]at h⊢;obtain⟨al,off,cap,ai,g,a,b,d,j⟩:=h;refine⟨al,off,cap,ai,g,aY.mono _ o g a,fun m=>hI _ (b m),?_,j⟩
  by_cases m:o=[]
  ·subst m;have:=uM a;subst this;intro i hi;simp at hi
  ·exact d.same (hs _ (b m))
 | .seq o,cs,h=>by
  simp only[aA]at h⊢;rcases h with h|⟨al,off,cap,ai,g,a,b,d,j⟩
  ·exact .inl h
  refine .inr ⟨al,off,cap,ai,g,aY.mono _ o g a,fun m=>hI _ (b m),?_,j⟩
  by_cases m:o=[]
  ·subst m;have:=uM a;subst this;intro i hi;simp at hi
  ·exact d.same (hs _ (b m))
 | .eJ o,cs,h=>by
  simp only[aA]at h⊢;obtain⟨r,p,clock,a,b,d,j⟩:=h;exact⟨r,p,clock,hI _ a,(hs _ a).trans b,cz.mono o _ d,j⟩
 | .func f first ic,cs,h=>by
  simp only[aA]at h⊢;obtain⟨z,s,a,b,d⟩:=h;exact⟨z,s,bn.mono first z a,bn.mono ic s b,d⟩
 | .st u fs,cs,h=>by
  simp only[aA]at h⊢;obtain⟨l,g,a,b,d⟩:=h;exact⟨l,g,a,aY.mono l fs g b,d⟩
theorem bn.mono:∀(vs:List PV)(q:List a5),bn P w ad vs q->bn P w' aD vs q
 |[],_,h=>by simpa[bn]using h
 |v::vs,q,h=>by
  simp only[bn]at h⊢;obtain⟨y,A,a,b,d⟩:=h;exact⟨y,A,a,aA.mono v y b,bn.mono vs A d⟩
theorem cz.mono:∀(o:List (PV×PV))(p:List bl),cz P w ad o p->cz P w' aD o p
 |[],_,h=>by simpa[cz]using h
 |(k,v)::r,p,h=>by
  simp only[cz]at h⊢;obtain⟨e,rest,a,b,d,j⟩:=h;exact⟨e,rest,a,aA.mono k _ b,aA.mono v _ d,cz.mono r rest j⟩
end
theorem mI.mono(h:mI P w ad):mI P w' aD:=⟨fun g=>aA.mono hI hs _ _ (h.val g),fun g cs c=>by
 obtain⟨a,T,b⟩:=h.raw g cs c;exact⟨hI _ a,T,(hs _ a).trans b⟩⟩
variable{β aH:Bd}{H H':Heap}(aB:b9 β H aH H')
include aB
omit hI hs in
theorem bO.mono:∀(v:AV)(x:a5),aC (aG H) v->bO P β H v x->bO P aH H' v x
 | .ptr b path,x,d,h=>by
  simp only[bO,aC]at*;obtain⟨al,off,o,c,f,g⟩:=h;refine⟨al,off,o,c,f,fun a=>?_⟩;rcases a with a|a
  ·obtain⟨k1,k2⟩:=aB.box b d a;rw[k2];exact g (.inl k1)
  ·obtain⟨k1,k2⟩:=aB.it b d a;rw[k2];exact g (.inr k1)
 | .bV b ar ai i path,x,d,h=>by
  simp only[bO,aC]at*;obtain⟨al,off,o,g1,g2,g3⟩:=h;refine⟨al,off,o,g1,g2,fun k l a e=>?_⟩;obtain⟨k0,gE,c,f,g,j⟩:=aB.arr b ar ai k l d a;rw[(j e).1];exact g3 k0 gE c (fun hh=>e (g.2 hh))
 | .sl b ar ai off len,x,d,h=>by
  simp only[bO,aC]at*;intro k l a;obtain⟨k0,gE,c,f,g,j⟩:=aB.arr b ar ai k l d a;obtain⟨q,m,n⟩:=h k0 gE c;refine⟨by omega,fun e=>m (g.1 e),fun e=>?_⟩;rw[(j e).1,(j e).2];exact n (fun hh=>e (g.2 hh))
 | .map b,x,d,h=>by
  simp only[bO,aC]at*;refine⟨fun a=>?_,fun a=>?_⟩
  ·obtain⟨c,f⟩:=aB.map b d a;rw[f];exact h.1 c
  ·obtain⟨c,f⟩:=aB.loop b d a;rw[f];exact h.2 c
 | .p _,_,_,h| .st _ _,_,_,h| .func _ _ _,_,_,h| .aE _,_,_,h=>by simp[bO]at h
omit hI hs in
theorem bK.mono(v:AV)(x:a5)(a:aC (aG H) v)(h:bK P β H v x):bK P aH H' v x:=⟨h.1,bO.mono aB v x a h.2⟩
mutual
theorem bf.mono:∀(v:AV)(cs:List a5),aC (aG H) v->bf P w ad β H v cs->bf P w' aD aH H' v cs
 | .p t,cs,_,h=>by simp only[bf]at h⊢;exact aP.mono hI hs t cs h
 | .st u fs,cs,a,h=>by
  simp only[bf,aC]at*;obtain⟨l,j,d,e,g⟩:=h;exact⟨l,j,d,bJ.mono l fs j a e,g⟩
 | .func f first ic,cs,a,h=>by
  simp only[bf,aC]at*;obtain⟨m,k,d,e,g⟩:=h;exact⟨m,k,br.mono first m a.1 d,br.mono ic k a.2 e,g⟩
 | .aE _,_,_,h=>by simp[bf]at h
 | .ptr b path,cs,a,h=>by
  simp only[bf]at*;obtain⟨v,d,e⟩:=h;exact⟨v,d,bK.mono aB _ _ a e⟩
 | .bV b ar ai i path,cs,a,h=>by
  simp only[bf]at*;obtain⟨v,d,e⟩:=h;exact⟨v,d,bK.mono aB _ _ a e⟩
 | .sl b ar ai off len,cs,a,h=>by
  simp only[bf]at*;obtain⟨v,d,e⟩:=h;exact⟨v,d,bK.mono aB _ _ a e⟩
 | .map b,cs,a,h=>by
  simp only[bf]at*;obtain⟨v,d,e⟩:=h;exact⟨v,d,bK.mono aB _ _ a e⟩
theorem bJ.mono:∀(l:List Nat)(vs:List AV)(j:List (List a5)),aR (aG H) vs->bJ P w ad β H l vs j->bJ P w' aD aH H' l vs j
 |[],[],_,_,h=>by simpa[bJ]using h
 |[],_::_,_,_,h=>by simp[bJ]at h
 |_::_,[],_,_,h=>by simp[bJ]at h
 |n::r,v::vs,j,a,h=>by
  simp only[bJ,aR]at*;obtain⟨c,cs,d,e,g,q⟩:=h;exact⟨c,cs,d,bf.mono v c a.1 e,g,bJ.mono r vs cs a.2 q⟩
theorem au.mono:∀(v:AV)(x:a5),aC (aG H) v->au P w ad β H v x->au P w' aD aH H' v x
 | .p t,cs,_,h=>by simp only[au]at h⊢;exact aA.mono hI hs t cs h
 | .st u fs,cs,a,h=>by
  simp only[au,aC]at*;obtain⟨l,j,d,e,g⟩:=h;exact⟨l,j,d,bJ.mono l fs j a e,g⟩
 | .func f first ic,cs,a,h=>by
  simp only[au,aC]at*;obtain⟨m,k,d,e,g⟩:=h;exact⟨m,k,br.mono first m a.1 d,br.mono ic k a.2 e,g⟩
 | .aE vs,cs,a,h=>by
  simp only[au,aC]at*;obtain⟨xs,d,e⟩:=h;exact⟨xs,br.mono vs xs a d,e⟩
 | .ptr b path,cs,a,h=>by simp only[au]at*;exact bK.mono aB _ _ a h
 | .bV b ar ai i path,cs,a,h=>by simp only[au]at*;exact bK.mono aB _ _ a h
 | .sl b ar ai off len,cs,a,h=>by simp only[au]at*;exact bK.mono aB _ _ a h
 | .map b,cs,a,h=>by simp only[au]at*;exact bK.mono aB _ _ a h
theorem br.mono:∀(vs:List AV)(xs:List a5),aR (aG H) vs->br P w ad β H vs xs->br P w' aD aH H' vs xs
 |[],_,_,h=>by simpa[br]using h
 |v::vs,xs,a,h=>by
  simp only[br,aR]at*;obtain⟨y,o,d,e,g⟩:=h;exact⟨y,o,d,au.mono v y a.1 e,br.mono vs o a.2 g⟩
end
end mono
def ef:List AV->Option (List PV)
 |[]=>some []
 | .p v::r=>match ef r with
  |some l=>some (v::l)
  |none=>none
 |_::_=>none
def gW(u:a1)(fs:List AV):AV:=
 match ef fs with
 |some l=>.p (.st u l)
 |none=>.st u fs
def kT:PV->List (a1×Nat)->Option PV
 |t,[]=>some t
 |t,(u,i)::r=>if aL t=.agg u then(match(cF t)[i]? with
  |some f=>kT f r
  |none=>none)else none
def eM:AV->List (a1×Nat)->Option AV
 |t,[]=>some t
 | .p t,(u,i)::r=>match kT t ((u,i)::r)with
  |some s=>some (.p s)
  |none=>none
 | .st u' fs,(u,i)::r=>if u'=u then(match fs[i]? with
  |some f=>eM f r
  |none=>none)else none
 |_,_=>none
def fO(t:AV)(b:List (a1×Nat))(x:AV):Option AV:=
 match b with
 |[]=>some x
 |(u,i)::r=>
  match t with
  | .p t=>if aL t=.agg u then(match(cF t)[i]? with
   |some f=>(match fO (.p f) r x with
    |some a=>some (gW u (((cF t).map .p).set i a))
    |none=>none)
   |none=>none)else none
  | .st u' fs=>if u'=u then(match fs[i]? with
   |some f=>(match fO f r x with
    |some a=>some (gW u (fs.set i a))
    |none=>none)
   |none=>none)else none
  |_=>none
section
variable{P:a0}{w:a7}{ad:Nat->Prop}{β:Bd}{H:Heap}
theorem uO:∀{l:List Nat}{vs:List PV}{a:List (List a5)},aY P w ad l vs a->a.map (·.length)=l/\vs.length=l.length/\a.length=l.length
 |[],[],_,h=>by simp[aY]at h;subst h;simp
 |[],_::_,_,h=>by simp[aY]at h
 |_::_,[],_,h=>by simp[aY]at h
 |n::f,v::vs,a,h=>by
  simp only[aY]at h;obtain⟨c,cs,rfl,e,b,d⟩:=h;have:=uO d;simp[b,this]
theorem xy:∀{l:List Nat}{vs:List AV}{a:List (List a5)},bJ P w ad β H l vs a->a.map (·.length)=l/\vs.length=l.length/\a.length=l.length
 |[],[],_,h=>by simp[bJ]at h;subst h;simp
 |[],_::_,_,h=>by simp[bJ]at h
 |_::_,[],_,h=>by simp[bJ]at h
 |n::f,v::vs,a,h=>by
  simp only[bJ]at h;obtain⟨c,cs,rfl,e,b,d⟩:=h;have:=xy d;simp[b,this]
theorem LS{u:a1}{l:List Nat}(h:dD P u=some l):l.sum=P.cellsOf u/\∀n∈l,0<n:=by
 unfold dD at h
 split at h
 ·dsimp only at h
  split at h
  ·rename_i hc;simp at hc;obtain⟨⟨b,c⟩,d⟩:=hc;simp at h;subst h;refine⟨c,?_⟩;intro n a;simp at a;obtain⟨f,hf,rfl⟩:=a;obtain⟨i,hi,rfl⟩:=Array.mem_iff_getElem.1 hf;exact b i hi
  ·simp at h
 ·split at h
  ·rename_i hc;simp at hc;simp at h;subst h;refine⟨by simp[List.sum_replicate_nat,hc.2],?_⟩;intro n a;have:=List.eq_of_mem_replicate a;omega
  ·simp at h
 ·simp at h
theorem ny:∀{v:PV}{cs:List a5},aP P w ad v cs->cs.length=bD P (aL v)/\aL v≠.bad:=by
 intro v cs h;cases v<;>simp only[aP]at h
 case st u fs=>
  obtain⟨l,c,a,b,rfl⟩:=h;have:=uO b;simp[aL,bD,this.1,(LS a).1]
 case str=>obtain⟨_,h,_⟩:=h;subst h;simp[aL,bD]
 case seq=>
  rcases h with⟨_,rfl⟩|⟨_,_,_,_,_,_,_,_,_,_,_,rfl⟩<;>simp[aL,bD]
 all_goals first
  |(subst h;simp[aL,bD])
  |(obtain⟨_,_,_,_,_,_,rfl⟩:=h;simp[aL,bD])
  |(obtain⟨_,_,_,_,_,rfl⟩:=h;simp[aL,bD])
  |(obtain⟨_,_,_,_,_,_,_,_,_,_,_,_,rfl⟩:=h;simp[aL,bD])
  |(obtain⟨_,_,_,_,_,_,_,rfl⟩:=h;simp[aL,bD])
  |(obtain⟨_,_,_,_,rfl⟩:=h;simp[aL,bD])
  |(obtain⟨_,h,_⟩:=h;subst h;simp[aL,bD])
  |exact h.elim
theorem nD{v:AV}{cs:List a5}(h:bf P w ad β H v cs):cs.length=bD P (aa v)/\aa v≠.bad:=by
 cases v<;>simp only[bf]at h
 case p t=>exact ny h
 case st u fs=>
  obtain⟨l,c,a,b,rfl⟩:=h;have:=xy b;simp[aa,bD,this.1,(LS a).1]
 all_goals first
  |(obtain⟨_,rfl,_⟩:=h;simp[aa,bD])
  |(obtain⟨_,_,_,_,rfl⟩:=h;simp[aa,bD])
theorem sR{v:PV}(hs:aL v=.leaf)(cs:List a5):aP P w ad v cs↔∃c,cs=[c]/\aA P w ad v c:=by
 cases v<;>simp[aL]at hs<;>simp only[aP,aA]
 case bool|int|dC|aN|fw|gG|fS=>exact⟨fun h=>⟨_,h,rfl⟩,fun⟨c,g,i⟩=>by rw[g,i]⟩
 case str s=>exact⟨fun⟨bs,g,i⟩=>⟨_,g,bs,rfl,i⟩,fun⟨c,g,bs,i,j⟩=>⟨bs,by rw[g,i],j⟩⟩
 case ct t=>exact⟨fun⟨a,b,c,g,i,j,k⟩=>⟨_,k,a,b,c,g,i,j,rfl⟩,fun⟨v,g,a,b,c,i,j,k,l⟩=>⟨a,b,c,i,j,k,by rw[g,l]⟩⟩
 case bL f es=>exact⟨fun⟨a,b,c,d,e,g,i,j,k,l,sp,n,m⟩=>⟨_,m,a,b,c,d,e,g,i,j,k,l,sp,n,rfl⟩,fun⟨v,h,a,b,c,d,e,g,i,j,k,l,sp,n,m⟩=>⟨a,b,c,d,e,g,i,j,k,l,sp,n,by rw[h,m]⟩⟩
 case seq es=>
  constructor
  ·rintro(⟨g,i⟩|⟨a,b,c,d,e,g,i,j,l,sp,n,m⟩)
   ·exact⟨_,i,.inl ⟨g,rfl⟩⟩
   ·exact⟨_,m,.inr ⟨a,b,c,d,e,g,i,j,l,sp,n,rfl⟩⟩
  ·rintro⟨v,h,(⟨g,i⟩|⟨a,b,c,d,e,g,i,j,l,sp,n,m⟩)⟩
   ·exact .inl ⟨g,by rw[h,i]⟩
   ·exact .inr ⟨a,b,c,d,e,g,i,j,l,sp,n,by rw[h,m]⟩
 case eJ es=>exact⟨fun⟨a,b,c,g,i,j,k⟩=>⟨_,k,a,b,c,g,i,j,rfl⟩,fun⟨v,h,a,b,c,g,i,j,k⟩=>⟨a,b,c,g,i,j,by rw[h,k]⟩⟩
 case func f x y=>exact⟨fun⟨a,b,g,i,j⟩=>⟨_,j,a,b,g,i,rfl⟩,fun⟨v,h,a,b,g,i,j⟩=>⟨a,b,g,i,by rw[h,j]⟩⟩
theorem vF{v:PV}{u:a1}(hs:aL v=.agg u)(cs:List a5):aP P w ad v cs↔aA P w ad v (.agg cs.toArray):=by
 cases v<;>simp[aL]at hs;subst hs;simp only[aP,aA];constructor
 ·rintro⟨l,a,b,c,rfl⟩;exact⟨l,a,b,c,rfl⟩
 ·rintro⟨l,a,b,c,d⟩;refine⟨l,a,b,c,?_⟩;injection d with d;simpa using congrArg ay d
theorem Cd{v:AV}(hs:aa v=.leaf)(cs:List a5):bf P w ad β H v cs↔∃c,cs=[c]/\au P w ad β H v c:=by
 cases v<;>simp[aa]at hs<;>simp only[bf,au]
 case p t=>exact sR hs cs
 case func f x y=>exact⟨fun⟨a,b,d,e,g⟩=>⟨_,g,a,b,d,e,rfl⟩,fun⟨v,h,a,b,d,e,g⟩=>⟨a,b,d,e,by rw[h,g]⟩⟩
theorem MR{v:AV}{u:a1}(hs:aa v=.agg u)(cs:List a5):bf P w ad β H v cs↔au P w ad β H v (.agg cs.toArray):=by
 cases v<;>simp[aa]at hs
 case p t=>simp only[bf,au];exact vF hs cs
 case st u' fs=>
  subst hs;simp only[bf,au];constructor
  ·rintro⟨l,a,b,c,rfl⟩;exact⟨l,a,b,c,rfl⟩
  ·rintro⟨l,a,b,c,d⟩;refine⟨l,a,b,c,?_⟩;injection d with d;simpa using congrArg ay d
theorem xS{v:AV}{x:a5}(h:au P w ad β H v x)(hs:aa v≠.bad):bf P w ad β H v x.cells.toList:=by
 cases a:aa v with
 |bad=>exact absurd a hs
 |leaf=>
  rw[Cd a];refine⟨x,?_,h⟩;cases v<;>simp[aa]at a<;>simp only[au]at h
  case p t=>
   cases t<;>simp[aL]at a<;>simp only[aA]at h
   case bool|int|dC|aN|fw|gG|fS=>subst h;rfl
   case str=>obtain⟨_,rfl,_⟩:=h;rfl
   case ct=>obtain⟨_,_,_,_,_,_,rfl⟩:=h;rfl
   case bL=>obtain⟨_,_,_,_,_,_,_,_,_,_,_,_,rfl⟩:=h;rfl
   case seq=>rcases h with⟨_,rfl⟩|⟨_,_,_,_,_,_,_,_,_,_,_,rfl⟩<;>rfl
   case eJ=>obtain⟨_,_,_,_,_,_,rfl⟩:=h;rfl
   case func=>obtain⟨_,_,_,_,rfl⟩:=h;rfl
  case func=>obtain⟨_,_,_,_,rfl⟩:=h;rfl
  all_goals (have b:=h.1;cases x<;>first|rfl|(simp[Value.oneCell']at b))
 |agg u=>
  cases v<;>simp[aa]at a
  case p t=>
   cases t<;>simp[aL]at a;simp only[au,aA]at h;obtain⟨l,c,b,d,rfl⟩:=h;simp only[bf,aP];exact⟨l,c,b,d,by simp[Value.cells]⟩
  case st u' fs=>
   simp only[au]at h;obtain⟨l,c,b,d,rfl⟩:=h;simp only[bf];exact⟨l,c,b,d,by simp[Value.cells]⟩
end
mutual
def Wk:PV->PV->Prop
 | .undef,v=>v=.undef
 | .bool b,v=>v=.bool b
 | .int k n,v=>v=.int k n
 | .str s,v=>v=.str s
 | .dC,v=>v=.dC
 | .fw,v=>v=.fw
 | .gG,v=>v=.gG
 | .fS,v=>v=.fS
 | .aN,v=>v=.aN\/v=.seq []
 | .ct t,v=>match v with
  | .ct h=>Wk t h
  |_=>False
 | .bL f es,v=>match v with
  | .bL g fs=>(g=true->f=true)/\bA es fs
  | .seq fs=>bA es fs
  |_=>False
 | .seq es,v=>match v with
  | .seq fs=>bA es fs
  |_=>False
 | .eJ es,v=>match v with
  | .eJ fs=>kV es fs
  |_=>False
 | .func f a b,v=>match v with
  | .func g c d=>f=g/\bA a c/\bA b d
  |_=>False
 | .st u es,v=>match v with
  | .st u' fs=>u=u'/\bA es fs
  |_=>False
 | .aE es,v=>match v with
  | .aE fs=>bA es fs
  |_=>False
def bA:List PV->List PV->Prop
 |[],fs=>fs=[]
 |v::vs,fs=>match fs with
  |f::fs=>Wk v f/\bA vs fs
  |[]=>False
def kV:List (PV×PV)->List (PV×PV)->Prop
 |[],fs=>fs=[]
 |(k,v)::vs,fs=>match fs with
  |(e,f)::fs=>k=e/\Wk v f/\kV vs fs
  |[]=>False
end
mutual
theorem Wk.refl:∀v,Wk v v
 | .undef| .bool _| .int _ _| .str _| .dC| .fw| .gG| .fS=>by simp[Wk]
 | .aN=>by simp[Wk]
 | .ct t=>by simp only[Wk];exact Wk.refl t
 | .bL f c=>by simp only[Wk];exact⟨id,bA.refl c⟩
 | .seq c=>by simp only[Wk];exact bA.refl c
 | .eJ c=>by simp only[Wk];exact kV.refl c
 | .func f a b=>by simp only[Wk];exact⟨trivial,bA.refl a,bA.refl b⟩
 | .st u c=>by simp only[Wk];exact⟨trivial,bA.refl c⟩
 | .aE c=>by simp only[Wk];exact bA.refl c
theorem bA.refl:∀vs,bA vs vs
 |[]=>by simp[bA]
 |v::vs=>by simp only[bA];exact⟨Wk.refl v,bA.refl vs⟩
theorem kV.refl:∀c,kV c c
 |[]=>by simp[kV]
 |(k,v)::vs=>by simp only[kV];exact⟨trivial,Wk.refl v,kV.refl vs⟩
end
theorem bA.length:∀{es fs:List PV},bA es fs->fs.length=es.length
 |[],fs,h=>by simp only[bA]at h;subst h;rfl
 |v::vs,fs,h=>by
  cases fs with
  |nil=>simp[bA]at h
  |cons f fs=>simp only[bA]at h;simp[bA.length h.2]
theorem bA.ph{a fs:List PV}(h:bA a fs):fs=[]↔a=[]:=by
 have:=h.length;rw[<-da,<-da,this]
theorem Wk.aL:∀{v v':PV},Wk v v'->aj.aL v'=aj.aL v
 | .undef,v',h| .bool _,v',h| .int _ _,v',h| .str _,v',h| .dC,v',h| .fw,v',h| .gG,v',h| .fS,v',h=>by simp only[Wk]at h;subst h;rfl
 | .aN,v',h=>by simp only[Wk]at h;rcases h with rfl|rfl<;>rfl
 | .ct _,v',h| .bL _ _,v',h| .seq _,v',h| .eJ _,v',h| .func _ _ _,v',h| .aE _,v',h=>by cases v'<;>simp only[Wk]at h<;>rfl
 | .st _ _,v',h=>by
  cases v'<;>simp only[Wk]at h;simp[aj.aL,h.1]
section
variable{P:a0}{w:a7}{ad:Nat->Prop}
mutual
theorem aP.cV:∀(v v':PV)(cs:List a5),Wk v v'->aP P w ad v cs->aP P w ad v' cs
 | .undef,v',cs,h,hc| .bool _,v',cs,h,hc| .int _ _,v',cs,h,hc| .str _,v',cs,h,hc| .dC,v',cs,h,hc| .fw,v',cs,h,hc| .gG,v',cs,h,hc| .fS,v',cs,h,hc=>by simp only[Wk]at h;subst h;exact hc
 | .aN,v',cs,h,hc=>by
  simp only[Wk]at h;rcases h with rfl|rfl
  ·exact hc
  ·simp only[aP]at hc⊢;exact .inl ⟨trivial,hc⟩
 | .ct t,v',cs,h,hc=>by
  cases v'<;>simp only[Wk]at h;simp only[aP]at hc⊢;obtain⟨al,off,ts,d,i⟩:=hc;exact⟨al,off,ts,aP.cV _ _ _ h d,i⟩
 | .bL f o,v',cs,h,hc=>by
  cases v' with
  |bL g fs=>
   simp only[Wk]at h;simp only[aP]at hc⊢;obtain⟨al,off,cap,ai,m,d,i,j,p,q,s⟩:=hc;have z:=h.2.length;rw[z];exact⟨al,off,cap,ai,m,aY.cV _ _ _ _ h.2 d,fun A=>i (fun e=>A (h.2.ph.2 e)),j,fun e=>p (h.1 e),q,s⟩
  |seq fs=>
   simp only[Wk]at h;simp only[aP]at hc⊢;obtain⟨al,off,cap,ai,m,d,i,j,p,q,s⟩:=hc;have z:=h.length;rw[z];exact .inr ⟨al,off,cap,ai,m,aY.cV _ _ _ _ h d,fun A=>i (fun e=>A (h.ph.2 e)),j,q,s⟩
  |_=>simp only[Wk]at h
 | .seq o,v',cs,h,hc=>by
  cases v'<;>simp only[Wk]at h;simp only[aP]at hc⊢;rcases hc with⟨d,i⟩|⟨al,off,cap,ai,m,d,i,j,q,s⟩
  ·exact .inl ⟨h.ph.2 d,i⟩
  ·have z:=h.length;rw[z];exact .inr ⟨al,off,cap,ai,m,aY.cV _ _ _ _ h d,fun A=>i (fun e=>A (h.ph.2 e)),j,q,s⟩
 | .eJ o,v',cs,h,hc=>by
  cases v'<;>simp only[Wk]at h;simp only[aP]at hc⊢;obtain⟨r,C,clock,d,i,j,p⟩:=hc;exact⟨r,C,clock,d,i,cz.cV _ _ _ h j,p⟩
 | .func f a b,v',cs,h,hc=>by
  cases v'<;>simp only[Wk]at h;obtain⟨rfl,F,G⟩:=h;simp only[aP]at hc⊢;obtain⟨E,D,d,i,j⟩:=hc;exact⟨E,D,bn.cV _ _ _ F d,bn.cV _ _ _ G i,j⟩
 | .st u o,v',cs,h,hc=>by
  cases v'<;>simp only[Wk]at h;obtain⟨rfl,h⟩:=h;simp only[aP]at hc⊢;obtain⟨l,m,d,i,j⟩:=hc;exact⟨l,m,d,aY.cV _ _ _ _ h i,j⟩
 | .aE o,v',cs,h,hc=>by simp[aP]at hc
theorem aY.cV:∀(l:List Nat)(o fs:List PV)(m:List (List a5)),bA o fs->aY P w ad l o m->aY P w ad l fs m
 |l,[],fs,m,h,hc=>by simp only[bA]at h;subst h;exact hc
 |l,v::vs,fs,m,h,hc=>by
  cases fs with
  |nil=>simp[bA]at h
  |cons f fs=>
   simp only[bA]at h;cases l with
   |nil=>simp[aY]at hc
   |cons n l=>
    simp only[aY]at hc⊢;obtain⟨c,cs,d,i,j,p⟩:=hc;exact⟨c,cs,d,aP.cV _ _ _ h.1 i,j,aY.cV _ _ _ _ h.2 p⟩
theorem aA.cV:∀(v v':PV)(x:a5),Wk v v'->aA P w ad v x->aA P w ad v' x
 | .undef,v',cs,h,hc| .bool _,v',cs,h,hc| .int _ _,v',cs,h,hc| .str _,v',cs,h,hc| .dC,v',cs,h,hc| .fw,v',cs,h,hc| .gG,v',cs,h,hc| .fS,v',cs,h,hc=>by simp only[Wk]at h;subst h;exact hc
 | .aN,v',cs,h,hc=>by
  simp only[Wk]at h;rcases h with rfl|rfl
  ·exact hc
  ·simp only[aA]at hc⊢;exact .inl ⟨trivial,hc⟩
 | .ct t,v',cs,h,hc=>by
  cases v'<;>simp only[Wk]at h;simp only[aA]at hc⊢;obtain⟨al,off,ts,d,i⟩:=hc;exact⟨al,off,ts,aP.cV _ _ _ h d,i⟩
 | .bL f o,v',cs,h,hc=>by
  cases v' with
  |bL g fs=>
   simp only[Wk]at h;simp only[aA]at hc⊢;obtain⟨al,off,cap,ai,m,d,i,j,p,q,s⟩:=hc;have z:=h.2.length;rw[z];exact⟨al,off,cap,ai,m,aY.cV _ _ _ _ h.2 d,fun A=>i (fun e=>A (h.2.ph.2 e)),j,fun e=>p (h.1 e),q,s⟩
  |seq fs=>
   simp only[Wk]at h;simp only[aA]at hc⊢;obtain⟨al,off,cap,ai,m,d,i,j,p,q,s⟩:=hc;have z:=h.length;rw[z];exact .inr ⟨al,off,cap,ai,m,aY.cV _ _ _ _ h d,fun A=>i (fun e=>A (h.ph.2 e)),j,q,s⟩
  |_=>simp only[Wk]at h
 | .seq o,v',cs,h,hc=>by
  cases v'<;>simp only[Wk]at h;simp only[aA]at hc⊢;rcases hc with⟨d,i⟩|⟨al,off,cap,ai,m,d,i,j,q,s⟩
  ·exact .inl ⟨h.ph.2 d,i⟩
  ·have z:=h.length;rw[z];exact .inr ⟨al,off,cap,ai,m,aY.cV _ _ _ _ h d,fun A=>i (fun e=>A (h.ph.2 e)),j,q,s⟩
 | .eJ o,v',cs,h,hc=>by
  cases v'<;>simp only[Wk]at h;simp only[aA]at hc⊢;obtain⟨r,C,clock,d,i,j,p⟩:=hc;exact⟨r,C,clock,d,i,cz.cV _ _ _ h j,p⟩
 | .func f a b,v',cs,h,hc=>by
  cases v'<;>simp only[Wk]at h;obtain⟨rfl,F,G⟩:=h;simp only[aA]at hc⊢;obtain⟨E,D,d,i,j⟩:=hc;exact⟨E,D,bn.cV _ _ _ F d,bn.cV _ _ _ G i,j⟩
 | .st u o,v',cs,h,hc=>by
  cases v'<;>simp only[Wk]at h;obtain⟨rfl,h⟩:=h;simp only[aA]at hc⊢;obtain⟨l,m,d,i,j⟩:=hc;exact⟨l,m,d,aY.cV _ _ _ _ h i,j⟩
 | .aE o,v',cs,h,hc=>by
  cases v'<;>simp only[Wk]at h;simp only[aA]at hc⊢;obtain⟨B,d,i⟩:=hc;exact⟨B,bn.cV _ _ _ h d,i⟩
theorem bn.cV:∀(o fs:List PV)(B:List a5),bA o fs->bn P w ad o B->bn P w ad fs B
 |[],fs,B,h,hc=>by simp only[bA]at h;subst h;exact hc
 |v::vs,fs,B,h,hc=>by
  cases fs with
  |nil=>simp[bA]at h
  |cons f fs=>
   simp only[bA]at h;simp only[bn]at hc⊢;obtain⟨y,H,d,i,j⟩:=hc;exact⟨y,H,d,aA.cV _ _ _ h.1 i,bn.cV _ _ _ h.2 j⟩
theorem cz.cV:∀(o fs:List (PV×PV))(C:List bl),kV o fs->cz P w ad o C->cz P w ad fs C
 |[],fs,B,h,hc=>by simp only[kV]at h;subst h;exact hc
 |(k,v)::vs,fs,B,h,hc=>by
  cases fs with
  |nil=>simp[kV]at h
  |cons f fs=>
   simp only[kV]at h;obtain⟨rfl,d,i⟩:=h;simp only[cz]at hc⊢;obtain⟨e,rest,e1,e2,e3,e4⟩:=hc;exact⟨e,rest,e1,e2,aA.cV _ _ _ d e3,cz.cV _ _ _ i e4⟩
end
end
section
variable{P:a0}{w:a7}{ad:Nat->Prop}{β:Bd}{H:Heap}
theorem lR:∀{fs:List AV}{l:List PV},ef fs=some l->fs=l.map .p
 |[],l,h=>by simp[ef]at h;subst h;rfl
 | .p v::r,l,h=>by
  simp only[ef]at h;cases a:ef r with
  |none=>simp[a]at h
  |some b=>simp[a]at h;subst h;simp[lR a]
 | .ptr ..::_,_,h| .bV ..::_,_,h| .sl ..::_,_,h| .map ..::_,_,h| .func ..::_,_,h| .st ..::_,_,h| .aE ..::_,_,h=>by simp[ef]at h
theorem nC:∀{l:List Nat}{fs:List PV}{a:List (List a5)},bJ P w ad β H l (fs.map .p) a↔aY P w ad l fs a
 |[],[],_=>by simp[bJ,aY]
 |[],_::_,_=>by simp[bJ,aY]
 |_::_,[],_=>by simp[bJ,aY]
 |n::g,v::vs,a=>by
  simp only[cy,bJ,aY,bf];constructor
  ·rintro⟨c,cs,b,d,e,f⟩;exact⟨c,cs,b,d,e,nC.1 f⟩
  ·rintro⟨c,cs,b,d,e,f⟩;exact⟨c,cs,b,d,e,nC.2 f⟩
theorem jq:∀{fs:List PV}{d:List a5},br P w ad β H (fs.map .p) d↔bn P w ad fs d
 |[],_=>by simp[br,bn]
 |v::vs,d=>by
  simp only[cy,br,bn,au];constructor
  ·rintro⟨y,e,a,b,c⟩;exact⟨y,e,a,b,jq.1 c⟩
  ·rintro⟨y,e,a,b,c⟩;exact⟨y,e,a,b,jq.2 c⟩
theorem LI{u:a1}{fs:List AV}{cs:List a5}:bf P w ad β H (gW u fs) cs↔bf P w ad β H (.st u fs) cs:=by
 unfold gW;cases h:ef fs with
 |none=>rfl
 |some l=>have:=lR h;subst this;simp[bf,aP,nC]
theorem XE{u:a1}{fs:List AV}{x:a5}:au P w ad β H (gW u fs) x↔au P w ad β H (.st u fs) x:=by
 unfold gW;cases h:ef fs with
 |none=>rfl
 |some l=>have:=lR h;subst this;simp[au,aA,nC]
theorem iZ(n:Nat×Nat->Prop):∀l:List PV,aR n (l.map .p)
 |[]=>by simp[aR]
 |v::l=>by simp only[cy,aR,aC,true_and];exact iZ n l
theorem Bb{n:Nat×Nat->Prop}{u:a1}{fs:List AV}(h:aR n fs):aC n (gW u fs):=by
 unfold gW;cases ef fs with
 |none=>exact h
 |some l=>simp[aC]
theorem cG{n:Nat×Nat->Prop}:∀{fs:List AV},aR n fs↔∀v∈fs,aC n v
 |[]=>by simp[aR]
 |v::vs=>by simp[aR,cG (fs:=vs)]
theorem s8:∀{l:List Nat}{fs:List AV}{d:List (List a5)}{i:Nat}{f:AV},bJ P w ad β H l fs d->fs[i]?=some f->
 ∃pre c post,d.flatten=pre++c++post/\pre.length=(l.take i).sum/\i<l.length/\l[i]?=some c.length/\bf P w ad β H f c/\
  ∀b c',bf P w ad β H b c'->c'.length=c.length->∃a,a.flatten=pre++c'++post/\bJ P w ad β H l (fs.set i b) a
 |[],[],_,i,f,_,hf=>by simp at hf
 |[],_::_,_,_,_,h,_=>by simp[bJ]at h
 |_::_,[],_,_,_,h,_=>by simp[bJ]at h
 |n::m,v::vs,d,0,f,h,hf=>by
  simp only[bJ]at h;obtain⟨c,cs,rfl,g,e,j⟩:=h;simp at hf;subst hf;refine⟨[],c,cs.flatten,by simp,by simp,by simp,by simp[e],g,?_⟩;intro b c' hc k;exact⟨c'::cs,by simp,by simp only[dl,bJ];exact⟨c',cs,rfl,hc,by omega,j⟩⟩
 |n::m,v::vs,d,i+1,f,h,hf=>by
  simp only[bJ]at h;obtain⟨c,cs,rfl,g,e,j⟩:=h;simp at hf;obtain⟨pre,x,post,k1,k2,k3,k4,k5,k6⟩:=s8 j hf;refine⟨c++pre,x,post,by simp[k1],by simp[k2,e],by simpa using k3,by simpa using k4,k5,?_⟩;intro b c' hc k;obtain⟨a,e1,e2⟩:=k6 b c' hc k;exact⟨c::a,by simp[e1],by simp only[List.set_cons_succ,bJ];exact⟨c,a,rfl,g,e,e2⟩⟩
theorem KB{t:AV}{u:a1}{cs:List a5}(hs:aa t= .agg u)(h:bf P w ad β H t cs):
 ∃l fs a,dD P u=some l/\bJ P w ad β H l fs a/\cs=a.flatten/\(∀c,t=.p c->fs=(cF c).map .p)/\(∀u' g,t=.st u' g->fs=g/\u'=u):=by
 cases t<;>simp[aa]at hs
 case p t=>
  cases t<;>simp[aL]at hs;subst hs;simp only[bf,aP]at h;obtain⟨l,a,d,e,f⟩:=h;exact⟨l,_,a,d,nC.2 e,f,fun c b=>by cases b;rfl,fun _ _ h=>by cases h⟩
 case st u' fs=>
  subst hs;simp only[bf]at h;obtain⟨l,a,d,e,f⟩:=h;exact⟨l,fs,a,d,e,f,(fun c b=>by cases b),(fun j i b=>by cases b;exact⟨rfl,rfl⟩)⟩
theorem yU{t:PV}{a:List (a1×Nat)}:eM (.p t) a=(kT t a).map .p:=by
 cases a with
 |nil=>rfl
 |cons x r=>obtain⟨u,i⟩:=x;simp only[eM];cases kT t ((u,i)::r)<;>rfl
theorem pf:∀{z:List (a1×Nat)}{t s:AV}{cs:List a5}{o:Nat},bf P w ad β H t cs->eM t z=some s->fY P z=some o->
 ∃n q post,cs=n++q++post/\n.length=o/\bf P w ad β H s q/\
  ∀x k a,fO t z x=some a->bf P w ad β H x k->k.length=q.length->bf P w ad β H a (n++k++post)
 |[],t,s,cs,o,h,hs,d=>by
  simp[fY]at d;subst d;simp[eM]at hs;subst hs;refine⟨[],cs,[],by simp,by simp,h,?_⟩;intro x k a hx y _;simp[fO]at hx;subst hx;simpa using y
 |(u,i)::r,t,s,cs,o,h,hs,d=>by
  simp only[fY]at d;cases m:dD P u with
  |none=>simp[m]at d
  |some l=>
   cases v:fY P r with
   |none=>simp[m,v]at d
   |some o'=>
    simp[m,v]at d;obtain⟨J,rfl⟩:=d
    have key:∃fs f,(∃j e,dD P u=some j/\bJ P w ad β H j fs e/\cs=e.flatten)/\fs[i]?=some f/\eM f r=some s/\
     (∀x a,fO t ((u,i)::r) x=some a->∃b,fO f r x=some b/\a=gW u (fs.set i b)):=by
     cases t
     case p t=>
      rw[yU]at hs;simp only[kT]at hs
      by_cases g:aL t=.agg u
      ·simp only[g,if_true]at hs;obtain⟨j,fs,e,k1,k2,k3,k4,_⟩:=KB (t:=.p t) (by simpa[aa]using g) h;have:=k4 t rfl;subst this;cases hf:(cF t)[i]? with
       |none=>simp[hf]at hs
       |some f=>
        simp only[hf]at hs;refine⟨_,.p f,⟨j,e,k1,k2,k3⟩,by simp[hf],by rw[yU];exact hs,?_⟩;intro x a hx;simp only[fO,g,if_true,hf]at hx;cases hq:fO (.p f) r x with
        |none=>simp[hq]at hx
        |some b=>simp[hq]at hx;exact⟨b,rfl,hx.symm⟩
      ·simp[g]at hs
     case st u' fs=>
      simp only[eM]at hs
      by_cases g:u'=u
      ·subst g;simp only[if_true]at hs;obtain⟨j,D,e,k1,k2,k3,_,k4⟩:=KB (t:=.st u' fs) rfl h;have:=(k4 _ _ rfl).1;subst this;cases hf:D[i]? with
       |none=>simp[hf]at hs
       |some f=>
        simp only[hf]at hs;refine⟨_,f,⟨j,e,k1,k2,k3⟩,hf,hs,?_⟩;intro x a hx;simp only[fO,if_true,hf]at hx;cases hq:fO f r x with
        |none=>simp[hq]at hx
        |some b=>simp[hq]at hx;exact⟨b,rfl,hx.symm⟩
      ·simp[g]at hs
     all_goals simp[eM]at hs
    obtain⟨fs,f,⟨j,e,k1,k2,k3⟩,hf,F,aJ⟩:=key;rw[m]at k1;cases k1;obtain⟨n,c,post,e1,e2,e3,e4,e5,C⟩:=s8 k2 hf;obtain⟨I,q,G,g1,g2,g3,g4⟩:=pf e5 F v;refine⟨n++I,q,G++post,by rw[k3,e1,g1];simp,by simp[e2,g2],g3,?_⟩;intro x k a hx y A;obtain⟨b,E,rfl⟩:=aJ x a hx;have aQ:=g4 x k b E y A;obtain⟨B,c1,c2⟩:=C b _ aQ (by rw[g1];simp[A]);rw[LI];simp only[bf];exact⟨l,B,m,c2,by rw[c1];simp⟩
theorem yr{path:List (a1×Nat)}{t s:PV}{cs:List a5}{o:Nat}(h:aP P w ad t cs)(hs:kT t path=some s)(f:fY P path=some o):
 ∃a b post,cs=a++b++post/\a.length=o/\aP P w ad s b:=by
 obtain⟨a,b,post,c,d,e,_⟩:=pf (β:=⟨id,id⟩) (H:=[]) (t:=.p t) (s:=.p s) (by simpa[bf]using h) (by rw[yU,hs];rfl) f;exact⟨a,b,post,c,d,by simpa[bf]using e⟩
theorem u9{n:Nat×Nat->Prop}:∀{a:List (a1×Nat)}{t s:AV},eM t a=some s->aC n t->aC n s
 |[],t,s,hs,h=>by simp[eM]at hs;subst hs;exact h
 |(u,i)::r,.p t,s,hs,h=>by
  rw[yU]at hs;cases hq:kT t ((u,i)::r)with
  |none=>simp[hq]at hs
  |some q=>simp[hq]at hs;subst hs;simp[aC]
 |(u,i)::r,.st u' fs,s,hs,h=>by
  simp only[eM]at hs
  split at hs
  ·split at hs
   ·rename_i f hf;simp only[aC]at h;exact u9 hs (cG.1 h f (dg hf))
   ·simp at hs
  ·simp at hs
 |_::_,.ptr ..,_,hs,_|_::_,.bV ..,_,hs,_|_::_,.sl ..,_,hs,_|_::_,.map ..,_,hs,_|_::_,.func ..,_,hs,_|_::_,.aE ..,_,hs,_=>by simp[eM]at hs
theorem vf{n:Nat×Nat->Prop}:∀{e:List (a1×Nat)}{t b x:AV},fO t e x=some b->aC n t->aC n x->aC n b
 |[],t,b,x,hs,h,hx=>by simp[fO]at hs;subst hs;exact hx
 |(u,i)::r,.p t,b,x,hs,h,hx=>by
  simp only[fO]at hs
  split at hs
  ·split at hs
   ·split at hs
    ·rename_i f hf d c;simp at hs;subst hs;refine Bb (cG.2 ?_);intro v a;rcases c9 a with a|rfl
     ·exact cG.1 (iZ n _) v a
     ·exact vf c (by simp[aC]) hx
    ·simp at hs
   ·simp at hs
  ·simp at hs
 |(u,i)::r,.st u' fs,b,x,hs,h,hx=>by
  simp only[fO]at hs
  split at hs
  ·split at hs
   ·split at hs
    ·rename_i _ f hf _ d c;simp at hs;subst hs;simp only[aC]at h;refine Bb (cG.2 ?_);intro v a;rcases c9 a with a|rfl
     ·exact cG.1 h v a
     ·exact vf c (cG.1 h f (dg hf)) hx
    ·simp at hs
   ·simp at hs
  ·simp at hs
 |_::_,.ptr ..,_,_,hs,_,_|_::_,.bV ..,_,_,hs,_,_|_::_,.sl ..,_,_,hs,_,_|_::_,.map ..,_,_,hs,_,_|_::_,.func ..,_,_,hs,_,_|_::_,.aE ..,_,_,hs,_,_=>by simp[fO]at hs
end
structure aS where
 v:AV
 ak:List (Nat×Obj):=[]
 aJ:List (Nat×Obj):=[]
 aQ:List Obj:=[]
def bm(H:Heap)(l:List (Nat×Obj)):Heap:=
 match l with
 |[]=>H
 |(b,o)::r=>bm (H.set b o) r
def put(dst:Option Tmp)(v:AV)(e:Env):Env:=
 match dst with
 |some d=>(d,v)::e
 |none=>e
def aS.app(e:aS)(dst:Option Tmp)(s:St):St:=⟨put dst e.v s.env,bm s.heap e.aJ++e.aQ⟩
def ev(e:Env):a9->AV
 | .tmp t=>aM e t
 | .const v=>.p (ofConst v)
 | .global g=>.p (Gl.g g)
 | .func f=>.p (.func f [] [])
def gq(s:List Nat):ByteArray:=⟨(s.map UInt8.ofNat).toArray⟩
mutual
def fj:PV->PV->Option Bool
 | .bool a,.bool b=>some (a==b)
 | .int k a,.int c b=>if k=c then some (a==b)else none
 | .str a,.str b=>some (a==b)
 | .st u fs,.st u' gs=>if u=u' then wG fs gs else none
 |_,_=>none
def wG:List PV->List PV->Option Bool
 |[],[]=>some true
 |a::as,b::bs=>match fj a b with
  |some true=>wG as bs
  |some false=>some false
  |none=>none
 |_,_=>none
end
def iV(P:a0)(c:a1->PV->PV->Option Bool):List a1->List PV->List PV->Option Bool
 |[],[],[]=>some true
 |T::d,a::as,b::bs=>
  if kindOf P T=aL a/\kindOf P T=aL b then
   (match c T a b,iV P c d as bs with
   |some r,some s=>some (r&&s)
   |_,_=>none)
  else none
 |_,_,_=>none
def ie(P:a0):Nat->a1->PV->PV->Option Bool
 |0,_,_,_=>none
 |n+1,T,v,v'=>
  match P.underlying T,v,v' with
  |some .bool,.bool a,.bool b=>some (a==b)
  |some (.int _),.int k a,.int d b=>if k=d then some (a==b)else none
  |some .string,.str a,.str b=>some (a==b)
  |some (.struct fs),.st u xs,.st u' c=>
   if kindOf P T= .agg u/\u'=u/\P.stoodInHeld T=false/\fs.toList.all (fun f=>f.name != "_")=true then iV P (ie P n) (fs.toList.map (·.type)) xs c else none
  |some (.array m e),.st u xs,.st u' c=>
   if kindOf P T=.agg u/\u'=u/\(P.info? e).isSome=true then iV P (ie P n) (cc m e) xs c else none
  |_,_,_=>none
def rM(P:a0)(T:a1):Bool:=!P.eqGuardType P.depth T
def qO(P:a0)(T:a1):Bool:=match P.underlying T with|some .bool=>true|_=>false
def aJV(P:a0)(T:a1):Bool:=match P.underlying T with|some (.int _)=>true|_=>false
def im(P:a0)(T:a1):Bool:=match P.underlying T with|some .string=>true|_=>false
inductive uq where|ptr|slice|map|func|iface
 deriving DecidableEq
def me:a9->Bool
 | .const _=>true
 |_=>false
def du(P:a0)(T:a1)(c:Bool):AV->Option uq
 | .p .dC=>match P.underlying T with
  |some (.pointer _)=>some .ptr
  |_=>none
 | .p .aN=>match P.underlying T with
  |some (.slice _)=>some .slice
  |_=>none
 | .p .fw=>match P.underlying T with
  |some (.map _ _)=>some .map
  |_=>none
 | .p .gG=>match P.underlying T with
  |some (.func _ _ _)=>some .func
  |_=>none
 | .p .fS=>match c,P.underlying T with
  |true,some (.interface _)=>some .iface
  |_,_=>none
 |_=>none
def cS(H:Heap)(k:uq)(x:AV):Option Bool:=
 match k,x with
 | .ptr,.p .dC| .slice,.p .aN| .map,.p .fw| .func,.p .gG| .iface,.p .fS=>some true
 | .ptr,.p (.ct _)| .slice,.p (.bL _ _)| .map,.p (.eJ _)| .func,.p (.func _ _ _)| .func,.func _ _ _=>some false
 | .ptr,.ptr b _=>match H[b]? with
  |some (.box _ _)=>some false
  |_=>none
 | .map,.map b=>match H[b]? with
  |some (.map _ _)=>some false
  |_=>none
 | .slice,.p (.seq (_::_))=>some false
 | .slice,.sl b ar ai _ _=>match H[b]? with
  |some (.arr k c a es)=>if ar=c/\ai=a then some (k.gr&&es.isEmpty)else none
  |_=>none
 |_,_=>none
def pI(op:BinOp)(k:bo)(a b:Int)(K:PV->Prop):Prop:=
 match op with
 | .add=>K (.int k (k.wrap (a+b)))
 | .sub=>K (.int k (k.wrap (a-b)))
 | .mul=>K (.int k (k.wrap (a*b)))
 | .quo=>b≠0/\K (.int k (k.wrap (a.tdiv b)))
 | .rem=>b≠0/\K (.int k (a.tmod b))
 | .and=>K (.int k (k.wrap (aT k.bits a&&&aT k.bits b).toNat))
 | .or=>K (.int k (k.wrap (aT k.bits a|||aT k.bits b).toNat))
 | .xor=>K (.int k (k.wrap (aT k.bits a^^^aT k.bits b).toNat))
 | .andNot=>K (.int k (k.wrap (aT k.bits a&&&~~~aT k.bits b).toNat))
 | .eql=>K (.bool (a==b))
 | .neq=>K (.bool (a !=b))
 | .lss=>K (.bool (decide (a<b)))
 | .leq=>K (.bool (decide (a<=b)))
 | .gtr=>K (.bool (decide (a>b)))
 | .geq=>K (.bool (decide (a>=b)))
 | .shl=>0<=b/\K (.int k (k.wrap (a*2^(min b.toNat k.bits))))
 | .shr=>0<=b/\K (.int k (a.fdiv (2^(min b.toNat k.bits))))
def ja:List Nat->List Nat->Bool
 |_,[]=>false
 |[],_::_=>true
 |a::x,b::y=>decide (a<b)||(a==b&&ja x y)
def pH(op:BinOp)(a b:List Nat)(K:PV->Prop):Prop:=
 match op with
 | .add=>a.length+b.length<9223372036854775808/\K (.str (a++b))
 | .eql=>K (.bool (a==b))
 | .neq=>K (.bool (!(a==b)))
 | .lss=>K (.bool (ja a b))
 | .leq=>K (.bool (ja a b||a==b))
 | .gtr=>K (.bool (!(ja a b||a==b)))
 | .geq=>K (.bool (!(ja a b)))
 |_=>False
def kt(P:a0)(op:BinOp)(T:a1)(c:Bool)(H:Heap)(x y:AV)(K:PV->Prop):Prop:=
 match x,y with
 | .p (.int k a),.p (.int d b)=>(k=d\/op=.shl\/op=.shr)/\pI op k a b K
 | .p (.str a),.p (.str b)=>pH op a b K
 | .p (.bool a),.p (.bool b)=>qO P T=true/\match op with
  | .eql=>K (.bool (a==b))
  | .neq=>K (.bool (!(a==b)))
  |_=>False
 | .p (.st u fs),.p (.st u' gs)=>rM P T=true/\(match ie P 9 T (.st u fs) (.st u' gs),op with
  |some r,.eql=>K (.bool r)
  |some r,.neq=>K (.bool !r)
  |_,_=>False)
 |x,y=>
  (match du P T c y with
  |some k=>(match cS H k x,op with
   |some r,.eql=>K (.bool r)
   |some r,.neq=>K (.bool !r)
   |_,_=>False)
  |none=>False)
def cO:Nat:=1073741824
def gL(H:Heap):AV->Option (List AV)
 | .p .aN=>some []
 | .p (.bL _ es)=>some (es.map .p)
 | .p (.seq es)=>some (es.map .p)
 | .p (.str s)=>some (s.map fun c=>.p (.int .u8 (c:Nat)))
 | .sl b ar ai off len=>match H[b]? with
  |some (.arr _ d a es)=>if ar=d/\ai=a/\off+len<=es.length then some ((es.drop off).take len)else none
  |_=>none
 |_=>none
def dv(H:Heap):AV->List (Nat×Obj)
 | .sl b _ _ _ _| .ptr b _| .bV b _ _ _ _| .map b=>match H[b]? with
  |some o=>[(b,o)]
  |none=>[]
 |_=>[]
def fc(P:a0)(ai:Nat):List AV->Prop
 |[]=>True
 |v::vs=>(aa v≠.bad/\bD P (aa v)=ai)/\fc P ai vs
def cL(P:a0)(T:a1):Option Nat:=
 match P.underlying T with
 |some (.slice e)=>match P.info? e with
  |some i=>if i.bytes<32768/\0<i.size/\0<i.bytes then some i.size else none
  |none=>none
 |_=>none
def et(P:a0)(T:a1):a1:=
 match P.underlying T with
 |some (.slice e)=>e
 |_=>0
def iu(P:a0)(X:a1):Bool:=
 match P.underlying X with
 |some (.int _)=>false
 |some _=>true
 |none=>false
def gk(P:a0)(T:a1):AK:=if et P T=Gl.u8 then .bytes else .grow
def nB(P:a0)(T X:a1)(H:Heap)(s x:AV)(K:aS->Prop):Prop:=
 match cL P T,gL H x with
 |some sz,some xs=>iu P X=true/\(cH P (et P T)).isSome=true/\fc P sz xs/\
  (match s with
  | .p .aN=>if xs.isEmpty then K {v:=s,ak:=dv H x}else xs.length<=cO/\K {v:=.sl H.length 0 sz 0 xs.length,ak:=dv H x,aQ:=[.arr (gk P T) 0 sz xs]}
  | .p (.bL full es)=>fc P sz (es.map .p)/\if xs.isEmpty then K {v:=s,ak:=dv H x}else full=true/\es.length+xs.length<=cO/\
   K {v:=.sl H.length 0 sz 0 (es.length+xs.length),ak:=dv H x,aQ:=[.arr (gk P T) 0 sz (es.map .p++xs)]}
  | .sl b ar ai off len=>match H[b]? with
   |some (.arr k c a es)=>ar=c/\ai=a/\ai=sz/\off+len<=es.length/\
    if xs.isEmpty then K {v:=s,ak:=(b,.arr k c a es)::dv H x}
    else es.length+xs.length<=cO/\(match k with
     | .frozen=>False
     | .exact=>if off+len+xs.length<=es.length then
      K {v:=.sl b ar ai off (len+xs.length),ak:=(b,.arr k c a es)::dv H x,aJ:=[(b,.arr .exact ar ai (es.take (off+len)++xs++es.drop (off+len+xs.length)))]}
      else K {v:=.sl H.length 0 sz 0 (len+xs.length),ak:=(b,.arr k c a es)::dv H x,aQ:=[.arr (gk P T) 0 sz ((es.drop off).take len++xs)]}
     |_=>off=0/\(k=.bytes->et P T=Gl.u8)/\K {v:=.sl b (ar+1) ai 0 (len+xs.length),ak:=(b,.arr k c a es)::dv H x,aJ:=[(b,.arr k (ar+1) ai (es.take len++xs))]})
   |_=>False
  |_=>False)
 |_,_=>False
def gC(x:Option AV)(d:Nat)(K:Nat->Prop):Prop:=
 match x with
 |none=>K d
 |some (.p (.int _ i))=>0<=i/\K i.toNat
 |_=>False
def nJ(P:a0)(T:a1)(H:Heap)(x:AV)(lo hi d:Option AV)(K:aS->Prop):Prop:=
 d.isNone/\match x with
 | .p (.str s)=>im P T=true/\gC hi s.length fun h=>gC lo 0 fun l=>h<=s.length/\l<=h/\K {v:=.p (.str ((s.take h).drop l))}
 | .p .aN=>(cL P T).isSome=true/\gC hi 0 fun h=>gC lo 0 fun l=>h<=0/\l<=h/\K {v:=x}
 | .p (.bL full es)=>gC hi es.length fun h=>gC lo 0 fun l=>h<=es.length/\l<=h/\
  (match cL P T with
  |some sz=>fc P sz (es.map .p)/\K {v:=.p (.bL (full&&h==es.length) ((es.take h).drop l))}
  |none=>False)
 | .p (.seq es)=>gC hi es.length fun h=>gC lo 0 fun l=>h<=es.length/\l<=h/\
  (match cL P T with
  |some sz=>fc P sz (es.map .p)/\K {v:=.p (.seq ((es.take h).drop l))}
  |none=>False)
 | .sl b ar ai off len=>match H[b]? with
  |some (.arr k c a es)=>ar=c/\ai=a/\cL P T=some ai/\¬(k.gr=true/\es=[])/\off+len<=es.length/\
   gC hi len fun h=>gC lo 0 fun l=>off+h<=es.length/\l<=h/\
    (if l=0 then K {v:=.sl b ar ai off h,ak:=[(b,.arr k c a es)]}
    else if l=h then K {v:=.p (.bL false []),ak:=[(b,.arr k c a es)]}
    else K {v:=.sl b ar ai (off+l) (h-l),ak:=[(b,.arr k c a es)]})
  |_=>False
 |_=>False
def qy(P:a0)(T:a1)(H:Heap)(x:AV)(lo hi:Option AV)(m:AV)(K:aS->Prop):Prop:=
 match x with
 | .sl b ar ai off len=>match H[b]? with
  |some (.arr k c a es)=>ar=c/\ai=a/\(cL P T).isSome=true/\¬(k.gr=true/\es=[])/\off+len<=es.length/\hi.isSome=true/\
   gC hi len fun h=>gC lo 0 fun l=>gC (some m) 0 fun m=>off+m<=es.length/\h<=m/\l<=h/\K {v:=.p .undef,ak:=[(b,.arr k c a es)]}
  |_=>False
 |_=>False
def fR(P:a0)(T:a1)(x k:PV):Option Bool:=match x with
 | .st u fs=>match ie P 9 T (.st u fs) k,fj (.st u fs) k with
  |some a,some b=>bif a==b then some a else none
  |_,_=>none
 |x=>fj x k
def dH(P:a0)(T:a1):List (PV×PV)->PV->Option (Option PV)
 |[],_=>some none
 |(k,v)::r,x=>match fR P T x k with
  |some true=>some (some v)
  |some false=>dH P T r x
  |none=>none
def lW(P:a0)(T:a1)(a:List (PV×PV))(x:PV):Option (Option PV):=match x with
 | .st u fs=>match dH P T a (.st u fs)with
  |some none=>some none
  |_=>none
 |x=>dH P T a x
def ni:PV->Bool
 | .st _ _=>false
 |_=>true
def kZ(P:a0)(T:a1):List PV->List AV->PV->Option (Option AV)
 |[],[],_=>some none
 |k::ks,v::vs,x=>match fR P T x k with
  |some true=>some (some v)
  |some false=>kZ P T ks vs x
  |none=>none
 |_,_,_=>none
def so:Obj->Option (List PV×List AV)
 | .map false es=>some (es.map (·.1),es.map fun e=>.p e.2)
 | .di ks vs=>some (ks,vs)
 |_=>none
def fX:List (PV×PV)->PV->PV->List (PV×PV)
 |[],k,v=>[(k,v)]
 |(a,v')::r,k,v=>if fj k a=some true then(k,v)::r else(a,v')::fX r k v
def tg(P:a0)(T:a1):Bool:=match P.underlying T with
 |some (.int _)|some .string|some .bool=>true
 |_=>false
def ft(P:a0)(T:a1):PV->Bool
 | .int k _=>match P.underlying T with
  |some (.int a)=>decide (k=a)
  |_=>false
 | .str _=>im P T
 | .st u fs=>match P.underlying T with
  |some (.struct cF)=>cF.toList.all (fun f=>f.name != "_" &&tg P f.type)&&(ie P 9 T (.st u fs) (.st u fs)).isSome
  |_=>false
 |_=>false
def jf(P:a0)(T:a1):Option (a1×a1):=
 match P.underlying T with
 |some (.map k e)=>some (k,e)
 |_=>none
def lenOf(H:Heap):AV->Option (Nat×List (Nat×Obj))
 | .p (.str s)=>some (s.length,[])
 | .p .aN| .p .fw=>some (0,[])
 | .p (.bL _ es)| .p (.seq es)=>some (es.length,[])
 | .p (.eJ es)=>some (es.length,[])
 | .sl b ar ai _off len=>match H[b]? with
  |some (.arr k c a es)=>if ar=c/\ai=a then some (len,[(b,.arr k c a es)])else none
  |_=>none
 | .map b=>match H[b]? with
  |some (.map fz es)=>some (es.length,[(b,.map fz es)])
  |_=>none
 |_=>none
def gS(P:a0)(T:a1):AV->Bool
 | .p (.str _)=>im P T
 | .p .aN| .p (.bL _ _)| .p (.seq _)| .sl ..=>match P.underlying T with
  |some (.slice _)=>true
  |_=>false
 | .p .fw| .p (.eJ _)| .map _=>match P.underlying T with
  |some (.map _ _)=>true
  |_=>false
 |_=>false
def zD(H:Heap):AV->Option (Nat×List (Nat×Obj))
 | .p .aN=>some (0,[])
 | .p (.bL true es)=>some (es.length,[])
 | .sl b ar ai off _len=>match H[b]? with
  |some (.arr .exact c a es)=>if ar=c/\ai=a/\off<=es.length then some (es.length-off,[(b,.arr .exact c a es)])else none
  |_=>none
 |_=>none
def bytesOf:List AV->Option (List Nat)
 |[]=>some []
 | .p (.int .u8 c)::r=>if 0<=c/\c<256 then match bytesOf r with
  |some l=>some (c.toNat::l)
  |none=>none
  else none
 |_=>none
def ptrTo(P:a0)(T:a1):Option a1:=
 match P.underlying T with
 |some (.pointer e)=>some e
 |_=>none
def lQ(k:bo)(c:Bool):List AV->Int->Option Int
 |[],a=>some a
 | .p (.int d b)::r,a=>if k=d then lQ k c r (if c then(if b>a then b else a)else(if b<a then b else a))else none
 |_,_=>none
def il(a:List AV):List (Nat×AV)->List AV
 |[]=>a
 |(i,v)::r=>il (a.set i v) r
def lP(P:a0)(l:List Nat):List (Nat×AV)->Prop
 |[]=>True
 |(i,v)::r=>(∃n,l[i]?=some n/\bD P (aa v)=n/\aa v≠.bad)/\lP P l r
def fF(H:Heap):List AV->Option (List PV×List (Nat×Obj)×List (Nat×Obj))
 |[]=>some ([],[],[])
 | .p v::r=>match fF H r with
  |some (a,ak,aJ)=>some (v::a,ak,aJ)
  |none=>none
 | .ptr b []::r=>match H[b]?,fF H r with
  |some (.box fz (.p t)),some (a,ak,aJ)=>some (.ct t::a,(b,.box fz (.p t))::ak,(b,.box true (.p t))::aJ)
  |_,_=>none
 |_=>none
def nT(P:a0)(T:a1)(H:Heap)(a:AV)(K:aS->Prop):Prop:=
 match a with
 | .ptr b path=>match H[b]? with
  |some (.box fz t)=>match eM t path with
   |some s=>kindOf P T=aa s/\K {v:=s,ak:=[(b,.box fz t)]}
   |none=>False
  |_=>False
 | .bV b ar ai i path=>match H[b]? with
  |some (.arr k d c es)=>ar=d/\ai=c/\∃h:i<es.length,match eM (es[i]'h) path with
   |some s=>kindOf P T=aa s/\K {v:=s,ak:=[(b,.arr k d c es)]}
   |none=>False
  |_=>False
 | .p (.ct t)=>kindOf P T=aL t/\K {v:=.p t}
 |_=>False
def nI(P:a0)(T:a1)(H:Heap)(a x:AV)(K:aS->Prop):Prop:=
 kindOf P T=aa x/\aa x≠.bad/\match a with
 | .ptr b path=>match H[b]? with
  |some (.box false t)=>match eM t path,fO t path x with
   |some s,some d=>aa s=aa x/\K {v:=.p (.aE []),ak:=[(b,.box false t)],aJ:=[(b,.box false d)]}
   |_,_=>False
  |_=>False
 | .bV b ar ai i path=>match H[b]? with
  |some (.arr k e c es)=>ar=e/\ai=c/\k≠.frozen/\∃h:i<es.length,match eM (es[i]'h) path,fO (es[i]'h) path x with
   |some s,some d=>aa s=aa x/\K {v:=.p (.aE []),ak:=[(b,.arr k e c es)],aJ:=[(b,.arr k e c (es.set i d))]}
   |_,_=>False
  |_=>False
 |_=>False
def oG(P:a0)(a:a1)(b:Nat)(key:PV)(x:AV)(o:Obj)(K:aS->Prop):Prop:=match so o with
 |some (ks,vs)=>ni key=true/\kZ P a ks vs key=some none/\K {v:=.p (.aE []),ak:=[(b,o)],aJ:=[(b,.di (ks++[key]) (vs++[x]))]}
 |none=>False
def fQ(P:a0)(T:a1):Option (a1×Nat):=
 match kindOf P T,P.underlying T with
 | .agg u,some (.struct fs)=>some (u,fs.size)
 |_,_=>none
def gh(P:a0)(T:a1):Option (a1×Nat):=
 match kindOf P T,P.underlying T with
 | .agg u,some (.array n _)=>some (u,n)
 |_,_=>none
def nw(P:a0)(T:a1)(a:AV)(f:Nat)(K:aS->Prop):Prop:=
 match fQ P T with
 |some (u,n)=>f<n/\(match a with
  | .ptr b path=>K {v:=.ptr b (path++[(u,f)])}
  | .bV b ar ai i path=>K {v:=.bV b ar ai i (path++[(u,f)])}
  | .p (.ct t)=>aL t=.agg u/\(match(cF t)[f]? with
   |some g=>K {v:=.p (.ct g)}
   |none=>False)
  |_=>False)
 |_=>False
def nv(P:a0)(T:a1)(H:Heap)(x i:AV)(K:aS->Prop):Prop:=
 match i with
 | .p (.int _ i)=>0<=i/\(match x with
  | .p (.bL _ es)=>∃h:i.toNat<es.length,cL P T=some (bD P (aL (es[i.toNat]'h)))/\K {v:=.p (.ct (es[i.toNat]'h))}
  | .p (.seq es)=>∃h:i.toNat<es.length,cL P T=some (bD P (aL (es[i.toNat]'h)))/\K {v:=.p (.ct (es[i.toNat]'h))}
  | .sl b ar ai off len=>cL P T=some ai/\i.toNat<len/\(match H[b]? with
   |some (.arr k c a es)=>ar=c/\ai=a/\¬(k.gr=true/\es=[])/\K {v:=.bV b ar ai (off+i.toNat) [],ak:=[(b,.arr k c a es)]}
   |_=>False)
  | .ptr b path=>(match gh P T with
   |some (u,n)=>i.toNat<n/\K {v:=.ptr b (path++[(u,i.toNat)])}
   |_=>False)
  | .bV b ar ai j path=>(match gh P T with
   |some (u,n)=>i.toNat<n/\K {v:=.bV b ar ai j (path++[(u,i.toNat)])}
   |_=>False)
  | .p (.ct t)=>(match gh P T with
   |some (u,n)=>aL t=.agg u/\i.toNat<n/\(match(cF t)[i.toNat]? with
    |some g=>K {v:=.p (.ct g)}
    |none=>False)
   |_=>False)
  |_=>False)
 |_=>False
def fy(P:a0)(ag:a8->Bool)(o:Oper)(ρ:a9->AV)(H:Heap)(K:aS->Prop):Prop:=
 match o.op with
 | .move x| .assign x=>K {v:=ρ x}
 | .pick c a b=>match ρ c with
  | .p (.bool t)=>K {v:=if t then ρ a else ρ b}
  |_=>False
 | .alloc T=>match cH P T with
  |some z=>kindOf P T=aL z/\aL z≠.bad/\jg T (aL z)=true/\K {v:=.ptr H.length [],aQ:=[.box false (.p z)]}
  |none=>False
 | .box T x=>kindOf P T=aa (ρ x)/\aa (ρ x)≠.bad/\jg T (aa (ρ x))=true/\K {v:=.ptr H.length [],aQ:=[.box false (ρ x)]}
 | .build T parts=>match kindOf P T,cH P T with
  | .agg u,some z=>(match dD P u with
   |some l=>aL z=.agg u/\lP P l (parts.toList.map fun(i,x)=>(i,ρ x))/\K {v:=gW u (il ((cF z).map .p) (parts.toList.map fun(i,x)=>(i,ρ x)))}
   |none=>False)
  |_,_=>False
 | .buildSlice T n parts=>match cL P T,cH P (et P T)with
  |some sz,some z=>bD P (aL z)=sz/\n*sz<=1000000/\lP P (cc n sz) (parts.toList.map fun(i,x)=>(i,ρ x))/\
   K {v:=.sl H.length 0 sz 0 n,aQ:=[.arr .exact 0 sz (il (cc n (.p z)) (parts.toList.map fun(i,x)=>(i,ρ x)))]}
  |_,_=>False
 | .load T a=>nT P T H (ρ a) K
 | .store T a x=>nI P T H (ρ a) (ρ x) K
 | .binOp op T x y _=>kt P op T (me y) H (ρ x) (ρ y) (fun v=>K {v:=.p v,ak:=dv H (ρ x)})
 | .unOp op _ x=>match op,ρ x with
  | .not,.p (.bool b)=>K {v:=.p (.bool (!b))}
  | .neg,.p (.int k n)=>K {v:=.p (.int k (k.wrap (0-n)))}
  | .xor,.p (.int k n)=>K {v:=.p (.int k (k.wrap (aT k.bits (if k.signed then -1 else k.max)^^^aT k.bits n).toNat))}
  |_,_=>False
 | .convert S D x=>match P.underlying S,P.underlying D,ρ x with
  |some _,some (.int k),.p (.int _ n)=>K {v:=.p (.int k (k.wrap n))}
  |some _,some .string,.p (.str s)=>K {v:=.p (.str s)}
  |some (.slice e),some .string,.sl b ar ai off len=>(match H[b]? with
   |some (.arr k q j es)=>ar=q/\ai=j/\ai=1/\P.underlying e=some (.int .u8)/\0<len/\off+len<=es.length/\(match bytesOf ((es.drop off).take len)with
    |some l=>K {v:=.p (.str l),ak:=[(b,.arr k q j es)]}
    |none=>False)
   |_=>False)
  |_,_,_=>False
 | .extract t i=>match ρ t with
  | .p (.aE vs)=>(match vs[i]? with
   |some v=>K {v:=.p v}
   |none=>False)
  | .aE vs=>(match vs[i]? with
   |some v=>K {v}
   |none=>False)
  |_=>False
 | .fieldAddr T a f=>nw P T (ρ a) f K
 | .indexAddr T x i=>nv P T H (ρ x) (ρ i) K
 | .field T x f=>match kindOf P T,P.underlying T,ρ x with
  | .agg u,some (.struct _),.p t=>aL t=.agg u/\(match(cF t)[f]?,(jm P u)[f]? with
   |some g,some F=>kindOf P F=aL g/\K {v:=.p g}
   |_,_=>False)
  |_,_,_=>False
 | .index T x i=>match ρ x,ρ i with
  | .p (.str s),.p (.int _ i)=>im P T=true/\0<=i/\∃h:i.toNat<s.length,K {v:=.p (.int .u8 (s[i.toNat]'h))}
  | .p (.st u es),.p (.int _ i)=>(match gh P T,(jm P u)[i.toNat]?,es[i.toNat]? with
   |some (u',n),some F,some g=>u'=u/\0<=i/\i.toNat<n/\kindOf P F=aL g/\K {v:=.p g}
   |_,_,_=>False)
  |_,_=>False
 | .makeFunc (.func f) fi ca=>if ag f then(match fF H (fi.toList.map ρ),fF H (ca.toList.map ρ)with
   |some (a,[],[]),some (b,ak,aJ)=>K {v:=.p (.func f a b),ak,aJ}
   |_,_=>False)
  else match ef (fi.toList.map ρ),ef (ca.toList.map ρ)with
   |some a,some b=>K {v:=.p (.func f a b)}
   |_,_=>K {v:=.func f (fi.toList.map ρ) (ca.toList.map ρ)}
 | .makeSlice T l c=>match cL P T,cH P (et P T),ρ l,ρ c with
  |some sz,some z,.p (.int .i64 l),.p (.int .i64 c)=>bD P (aL z)=sz/\0<=l/\l=c/\l<=cO/\K {v:=.sl H.length 0 sz 0 l.toNat,aQ:=[.arr .exact 0 sz (cc l.toNat (.p z))]}
  |_,_,_,_=>False
 | .slice T x lo hi A=>match A with
  |none=>nJ P T H (ρ x) (lo.map ρ) (hi.map ρ) none K
  |some m=>qy P T H (ρ x) (lo.map ρ) (hi.map ρ) (ρ m) K
 | .makeMap _ none=>K {v:=.map H.length,aQ:=[.map false []]}
 | .lookup T x i ok=>match jf P T,ρ i with
  |some (w,E),.p key=>(match cH P E with
   |some z=>ft P w key=true/\(match ρ x with
    | .p .fw=>K {v:=.p (if ok then .aE [z,.bool false]else z)}
    | .p (.eJ es)=>(match dH P w es key with
     |some (some v)=>K {v:=.p (if ok then .aE [v,.bool true]else v)}
     |some none=>K {v:=.p (if ok then .aE [z,.bool false]else z)}
     |none=>False)
    | .map b=>(match H[b]? with
     |some (.map fz es)=>(match dH P w es key with
      |some (some v)=>K {v:=.p (if ok then .aE [v,.bool true]else v),ak:=[(b,.map fz es)]}
      |some none=>K {v:=.p (if ok then .aE [z,.bool false]else z),ak:=[(b,.map fz es)]}
      |none=>False)
     |some (.di ks vs)=>ni key=true/\(match kZ P w ks vs key with
      |some (some v)=>K {v:=if ok then .aE [v,.p (.bool true)]else v,ak:=[(b,.di ks vs)]}
      |some none=>K {v:=.p (if ok then .aE [z,.bool false]else z),ak:=[(b,.di ks vs)]}
      |none=>False)
     |_=>False)
    |_=>False)
   |none=>False)
  |_,_=>False
 | .mapUpdate T m k x| .insert T m k x=>match jf P T,ρ m,ρ k,ρ x with
  |some (w,_),.map b,.p key,.p v=>ft P w key=true/\(match H[b]? with
   |some (.map false es)=>(match lW P w es key with
    |some _=>K {v:=.p (.aE []),ak:=[(b,.map false es)],aJ:=[(b,.map false (fX es key v))]}
    |none=>False)
   |some (.di ks vs)=>oG P w b key (.p v) (.di ks vs) K
   |_=>False)
  |some (w,_),.map b,.p key,x=>ft P w key=true/\(match H[b]? with
   |some o=>oG P w b key x o K
   |none=>False)
  |_,_,_,_=>False
 | .range T x=>match ρ x with
  | .p (.str s)=>im P T=true/\K {v:=.ptr H.length [],aQ:=[.dt s 0]}
  |_=>False
 | .next it true=>match ρ it with
  | .ptr b []=>(match H[b]? with
   |some (.dt s pos)=>if pos<s.length then
    K {v:=.p (.aE [.bool true,.int .i64 pos,.int .i32 (Utf8.decode (gq s) pos).1]),ak:=[(b,.dt s pos)],aJ:=[(b,.dt s (pos+(Utf8.decode (gq s) pos).2))]}
    else K {v:=.p (.aE [.bool false]),ak:=[(b,.dt s pos)]}
   |_=>False)
  |_=>False
 | .nilCheck x=>match ρ x with
  | .ptr _ _| .bV _ _ _ _ _| .p (.ct _)=>K {v:=ρ x}
  |_=>False
 | .call c=>match c.callee with
  | .builtin b=>let args:=c.args.toList.map ρ
   let T:=c.argTypes.getD 0 0
   (match b,args with
   | .len,[x]=>(match lenOf H x with
    |some (n,ak)=>gS P T x=true/\0<c.argTypes.size/\K {v:=.p (.int .i64 n),ak}
    |none=>False)
   | .append,[s,x]=>c.argTypes.size=2/\nB P T (c.argTypes.getD 1 0) H s x K
   | .min,.p (.int k a)::r=>(match lQ k false r a with
    |some n=>K {v:=.p (.int k n)}
    |none=>False)
   | .max,.p (.int k a)::r=>(match lQ k true r a with
    |some n=>K {v:=.p (.int k n)}
    |none=>False)
   | .copy,[d,x]=>(match cL P T,d,gL H x with
    |some sz,.sl b ar ai off len,some xs=>ai=sz/\fc P sz xs/\c.argTypes.size=2/\(match H[b]? with
     |some (.arr k q j es)=>ar=q/\ai=j/\k≠.frozen/\off+len<=es.length/\¬(k.gr=true/\es=[])/\
      K {v:=.p (.int .i64 (min xs.length len:Nat)),ak:=(b,.arr k q j es)::dv H x,aJ:=[(b,.arr k q j (es.take off++xs.take (min xs.length len)++es.drop (off+min xs.length len)))]}
     |_=>False)
    |_,_,_=>False)
   | .cap,[x]=>(match zD H x with
    |some (n,ak)=>gS P T x=true/\0<c.argTypes.size/\K {v:=.p (.int .i64 n),ak}
    |none=>False)
   | .clear,[x]=>(match x with
    | .p .aN=>gS P T x=true/\0<c.argTypes.size/\K {v:=.p (.aE [])}
    | .sl b ar ai off len=>(match cL P T,cH P (et P T),H[b]? with
     |some sz,some z,some (.arr k q j es)=>ar=q/\ai=j/\ai=sz/\bD P (aL z)=sz/\k≠.frozen/\off+len<=es.length/\¬(k.gr=true/\es=[])/\0<c.argTypes.size/\0<len/\
      K {v:=.p (.aE []),ak:=[(b,.arr k q j es)],aJ:=[(b,.arr k q j (es.take off++cc len (.p z)++es.drop (off+len)))]}
     |_,_,_=>False)
    |_=>False)
   | .unsafeSliceData,[x]=>(match x with
    | .p .aN=>K {v:=.p .dC}
    | .sl b ar ai off len=>(match H[b]? with
     |some (.arr k q j es)=>ar=q/\ai=j/\((k.gr=true/\es=[]/\K {v:=.p .dC,ak:=[(b,.arr k q j es)]})\/(0<len/\off+len<=es.length/\K {v:=.bV b ar ai off [],ak:=[(b,.arr k q j es)]}))
     |_=>False)
    |_=>False)
   | .unsafeString,[x,.p (.int .i64 n)]=>(match x with
    | .p .dC=>n=0/\c.argTypes.size=2/\K {v:=.p (.str [])}
    | .bV b ar ai i []=>(match H[b]? with
     |some (.arr .bytes q j es)=>ar=q/\ai=j/\ai=1/\i=0/\0<n/\n.toNat<=es.length/\n<=9223372036854775807/\c.argTypes.size=2/\ptrTo P T=some Gl.u8/\P.cellsOf Gl.u8=1/\(match bytesOf (es.take n.toNat)with
      |some l=>K {v:=.p (.str l),ak:=[(b,.arr .bytes q j es)],aJ:=[(b,.dead)]}
      |none=>False)
     |_=>False)
    |_=>False)
   |_,_=>False)
  |_=>False
 |_=>False
def newAt(a:Nat):List Obj->List (Nat×Obj)
 |[]=>[]
 |o::r=>(a,o)::newAt (a+1) r
structure bR(P:a0)(ah ad:Nat->Prop)(w:a7)(β:Bd)(H:Heap)(aD:Nat->Prop)(w':a7)(aH:Bd)(H':Heap):Prop where
 bQ:∀k,ad k->aD k
 fresh:∀k,aD k->ad k\/¬ah k
 ext:Ext ah ad w w'
 step:b9 β H aH H'
 rel:bP P w' aD aH H' ah
 eQ:∀x,aG H x->aG H' x
 loop:∀b,gN H b->gN H' b
def Enters(P:a0)(f:a8):Prop:=∀(args:Array a5)(w:a7),(callFunc f args).run P w=.ok (.enter f args) w
def c7(P:a0)(f:a8)(H:Heap)(args:List AV)(H':Heap)(v:AV):Prop:=
 Enters P f/\∀(w:a7)(ad ah:Nat->Prop)(β:Bd)(a:List a5),bP P w ad β H ah->br P w ad β H args a->aR (aG H) args->
  bv P f a.toArray w fun e w'=>∃b aH aD,e=.returned b/\bR P ah ad w β H aD w' aH H'/\au P w' aD aH H' v b/\aC (aG H') v
def ir(P:a0)(b:Nat)(H:Heap)(args:List AV)(H':Heap)(v:AV):Prop:=
 gN H b/\∀(w:a7)(ad ah:Nat->Prop)(β:Bd)(c:List a5),bP P w ad β H ah->br P w ad β H args c->aR (aG H) args->
  ∃f tmps assign body,(Instr.yield (β.al b) c.toArray).run P w=.ok (.round (β.al b) f tmps assign body) w/\
   ∀(a:bb)(e:List bb),∃d w' aH aD,Steps P (lone (Frame.round (β.al b) f tmps assign body .normal) (a::e) w) (lone (a.finish d) e w')/\
    bR P ah ad w β H aD w' aH H'/\au P w' aD aH H' v d/\aC (aG H') v
def rG(P:a0)(f:a8)(args:List AV)(base:Nat)(e:aS):Prop:=
 Enters P f/\∀(H:Heap)(w:a7)(ad ah:Nat->Prop)(β:Bd)(a:List a5),bP P w ad β H ah->br P w ad β H args a->aR (aG H) args->
  (∀p∈e.ak,H[p.1]?=some p.2)->(∀i,i<e.aQ.length->H[base+i]?=some .hole)->
  bv P f a.toArray w fun x w'=>∃b aH aD,x=.returned b/\bR P ah ad w β H aD w' aH (bm H (e.aJ++newAt base e.aQ))/\
   au P w' aD aH (bm H (e.aJ++newAt base e.aQ)) e.v b/\aC (aG (bm H (e.aJ++newAt base e.aQ))) e.v
def tA(P:a0)(b:Nat)(args:List AV)(a:Nat)(e:aS):Prop:=
 ∀(H:Heap)(w:a7)(ad ah:Nat->Prop)(β:Bd)(d:List a5),bP P w ad β H ah->br P w ad β H args d->aR (aG H) args->
  (∀p∈e.ak,H[p.1]?=some p.2)->(∀i,i<e.aQ.length->H[a+i]?=some .hole)->
  gN H b/\∃f tmps assign body,(Instr.yield (β.al b) d.toArray).run P w=.ok (.round (β.al b) f tmps assign body) w/\
   ∀(c:bb)(h:List bb),∃g w' aH aD,Steps P (lone (Frame.round (β.al b) f tmps assign body .normal) (c::h) w) (lone (c.finish g) h w')/\
    bR P ah ad w β H aD w' aH (bm H (e.aJ++newAt a e.aQ))/\
    au P w' aD aH (bm H (e.aJ++newAt a e.aQ)) e.v g/\aC (aG (bm H (e.aJ++newAt a e.aQ))) e.v
def Dv(P:a0)(f:a8)(args:List AV)(ak:List (Nat×Obj))(v:PV):Prop:=
 ∀(H:Heap)(w:a7)(ad ah:Nat->Prop)(β:Bd)(a:List a5),bP P w ad β H ah->br P w ad β H args a->aR (aG H) args->(∀p∈ak,H[p.1]?=some p.2)->
  ∃b,(callFunc f a.toArray).run P w=.ok (.value b) w/\aA P w ad v b
def pL(H:Heap)(e:aS):Prop:=(∀p∈e.ak,H[p.1]?=some p.2)/\(∀p∈e.aJ,p.1<H.length/\p.2≠.hole)
def rF(P:a0)(f:a8)(args:List PV)(v:PV):Prop:=
 Enters P f/\∀(w:a7)(ad:Nat->Prop)(a:List a5),(∀k,ad k->k<w.heap.size)->mI P w ad->bn P w ad args a->
  bv P f a.toArray w fun e w'=>∃b,∃aD:Nat->Prop,e=.returned b/\(∀k,ad k->aD k)/\(∀k,aD k->ad k\/w.heap.size<=k)/\(∀k,aD k->k<w'.heap.size)/\
   w.heap.size<=w'.heap.size/\(∀k,k<w.heap.size->w'.heap[k]?=w.heap[k]?)/\(w'.os=w.os/\w'.output=w.output)/\aA P w' aD v b
def Ra(P:a0)(f:a8)(args:List PV)(v:PV):Prop:=
 ∀(w:a7)(ad:Nat->Prop)(a:List a5),bn P w ad args a->∃b,(callFunc f a.toArray).run P w=.ok (.value b) w/\aA P w ad v b
def aw(P:a0)(f:a8)(args:List PV)(v:PV):Prop:=rF P f args v\/Ra P f args v
def kK(H:Heap):AV->Option (PV×Heap)
 | .p v=>some (v,H)
 | .sl b ar ai off len=>match H[b]? with
  |some (.arr k d a es)=>
   if ar=d/\ai=a/\off+len<=es.length then
    if k.gr=true/\es=[]then some (.aN,H)else
    match ef es with
    |some c=>some (.bL (k== .exact&&off+len==es.length) ((c.drop off).take len),H.set b (.arr .frozen ar ai es))
    |none=>none
   else none
  |_=>none
 | .ptr b path=>match H[b]? with
  |some (.box _ (.p t))=>match kT t path with
   |some s=>some (.ct s,H.set b (.box true (.p t)))
   |none=>none
  |_=>none
 | .map b=>match H[b]? with
  |some (.map _ es)=>some (.eJ es,H.set b (.map true es))
  |_=>none
 |_=>none
def mZ(H:Heap):List AV->Option (List PV×Heap)
 |[]=>some ([],H)
 |x::r=>match kK H x with
  |some (v,H1)=>match mZ H1 r with
   |some (vs,a)=>some (v::vs,a)
   |none=>none
  |none=>none
def gP(P:a0)(draw:Bool)(f:a8)(args:List AV)(H:Heap)(K:AV->Heap->Prop):Prop:=
 (∃vs v,args=vs.map .p/\aw P f vs v/\K (.p v) H)\/
 (draw=false/\((∃vs H1 v,mZ H args=some (vs,H1)/\aw P f vs v/\K (.p v) H1)\/(∃H' v,c7 P f H args H' v/\K v H')\/
  (∃e,rG P f args H.length e/\pL H e/\K e.v (bm H e.aJ++e.aQ))\/(∃ak v,Dv P f args ak v/\(∀p∈ak,H[p.1]?=some p.2)/\K (.p v) H)))
def jw(P:a0)(ag:a8->Bool)(draw:Bool)(o:Oper)(K:St->Prop)(s:St):Prop:=
 match o.op with
 | .call {callee:=.value f,args,.. }=>(match ev s.env f with
  | .p (.func g fi ca)=>gP P draw g (fi.map .p++args.toList.map (ev s.env)++ca.map .p) s.heap (fun v H'=>K ⟨put o.dst v s.env,H'⟩)
  | .func g fi ca=>gP P draw g (fi++args.toList.map (ev s.env)++ca) s.heap (fun v H'=>K ⟨put o.dst v s.env,H'⟩)
  | .map b=>∃H' v,ir P b s.heap (args.toList.map (ev s.env)) H' v/\K ⟨put o.dst v s.env,H'⟩
  |_=>False)
 |_=>fy P ag o (ev s.env) s.heap fun e=>K (e.app o.dst s)
def guardOf(a:Array Oper)(j:Nat)(e:Env):AV:=
 match(a[j]?).bind (·.dst)with
 |some d=>aM e d
 |none=>.p (.aE [])
def gR(P:a0)(ag:a8->Bool)(draw:Bool)(a:Array Oper):List Oper->(St->Prop)->St->Prop
 |[],K,s=>K s
 |o::r,K,s=>match o.guard with
  |none=>jw P ag draw o (gR P ag draw a r K) s
  |some (j,want)=>match guardOf a j s.env with
   | .p (.bool t)=>if t=want then jw P ag draw o (gR P ag draw a r K) s else gR P ag draw a r K ⟨put o.dst (.p (.aE [])) s.env,s.heap⟩
   | .p (.aE [])=>gR P ag draw a r K ⟨put o.dst (.p (.aE [])) s.env,s.heap⟩
   |_=>False
def l9:Obj->Option Obj
 | .box _ (.p t)=>some (.box true (.p t))
 | .arr k ar ai es=>if k.gr=true/\es=[]then none else match ef es with
  |some _=>some (.arr .frozen ar ai es)
  |none=>none
 | .map _ es=>some (.map true es)
 |_=>none
def mh(H:Heap):AV->Option (PV×List Nat)
 | .p v=>some (v,[])
 | .sl b ar ai off len=>match H[b]? with
  |some (.arr k d a es)=>
   if ar=d/\ai=a/\off+len<=es.length then
    if k.gr=true/\es=[]then none else
    match ef es with
    |some c=>some (.bL (k== .exact&&off+len==es.length) ((c.drop off).take len),[b])
    |none=>none
   else none
  |_=>none
 | .ptr b path=>match H[b]? with
  |some (.box _ (.p t))=>match kT t path with
   |some s=>some (.ct s,[b])
   |none=>none
  |_=>none
 | .map b=>match H[b]? with
  |some (.map _ es)=>some (.eJ es,[b])
  |_=>none
 |_=>none
def nU(H:Heap):List AV->Option (List PV×List Nat)
 |[]=>some ([],[])
 |x::r=>match mh H x,nU H r with
  |some (v,bs),some (vs,cs)=>some (v::vs,bs++cs)
  |_,_=>none
def lj(H:Heap):List Nat->Option (List (Nat×Obj)×List (Nat×Obj))
 |[]=>some ([],[])
 |b::r=>match H[b]?,lj H r with
  |some o,some (ak,aJ)=>(match l9 o with
   |some o'=>some ((b,o)::ak,(b,o')::aJ)
   |none=>none)
  |_,_=>none
def gV(P:a0)(f:a8)(args:List AV)(H:Heap)(K:aS->Prop):Prop:=
 (∃vs v,args=vs.map .p/\aw P f vs v/\K {v:=.p v})\/
 (∃vs bs ak aJ v,nU H args=some (vs,bs)/\lj H bs=some (ak,aJ)/\aw P f vs v/\K {v:=.p v,ak,aJ})\/
 (∃e,rG P f args H.length e/\pL H e/\K e)\/
 (∃ak v,Dv P f args ak v/\(∀p∈ak,H[p.1]?=some p.2)/\K {v:=.p v,ak})
def jh(P:a0)(ag:a8->Bool)(o:Oper)(s:St)(K:aS->Prop):Prop:=
 match o.op with
 | .call {callee:=.value f,args,.. }=>(match ev s.env f with
  | .p (.func g fi ca)=>gV P g (fi.map .p++args.toList.map (ev s.env)++ca.map .p) s.heap K
  | .func g fi ca=>gV P g (fi++args.toList.map (ev s.env)++ca) s.heap K
  | .map b=>∃e,tA P b (args.toList.map (ev s.env)) s.heap.length e/\pL s.heap e/\K e
  |_=>False)
 |_=>fy P ag o (ev s.env) s.heap K
structure Touch where
 i:Nat
 rd:List Nat
 wr:List Nat
def nL(a:Nat):List Obj->List Nat
 |[]=>[]
 |_::r=>a::nL (a+1) r
def hJ(i a:Nat)(e:aS):Touch:=⟨i,e.ak.map (·.1),e.aJ.map (·.1)++nL a e.aQ⟩
def gQ(i b:Nat)(e:aS)(a:List Touch):List Touch:=
 match e.ak,e.aJ,e.aQ with
 |[],[],[]=>a
 |_,_,_=>hJ i b e::a
def reach(a:Array Oper):Nat->Nat->Nat->Bool
 |0,_,_=>false
 |f+1,i,j=>match a[j]? with
  |some o=>o.after.toList.any (fun e=>b1 .any e&&e.on==i)||o.after.toList.any (fun e=>b1 .any e&&decide (i<e.on)&&reach a f i e.on)
  |none=>false
def jd(u t:Touch):Bool:=u.wr.any (fun b=>t.rd.contains b||t.wr.contains b)||u.rd.any (fun b=>t.wr.contains b)
def ke(a:Array Oper):List Touch->Bool
 |[]=>true
 |t::r=>r.all (fun u=>!jd u t||reach a a.size u.i t.i)&&ke a r
def ga(P:a0)(ag:a8->Bool)(a:Array Oper):List Oper->Nat->List Touch->(St->Prop)->St->Prop
 |[],_,acc,K,s=>ke a acc=true/\K s
 |o::r,i,acc,K,s=>match o.guard with
  |none=>jh P ag o s fun e=>ga P ag a r (i+1) (gQ i s.heap.length e acc) K (e.app o.dst s)
  |some (j,want)=>match guardOf a j s.env with
   | .p (.bool t)=>if t=want then jh P ag o s fun e=>ga P ag a r (i+1) (gQ i s.heap.length e acc) K (e.app o.dst s)
    else ga P ag a r (i+1) acc K ⟨put o.dst (.p (.aE [])) s.env,s.heap⟩
   | .p (.aE [])=>ga P ag a r (i+1) acc K ⟨put o.dst (.p (.aE [])) s.env,s.heap⟩
   |_=>False
inductive bp where|normal|exit (id:Nat)|ret
mutual
def fP(T:Heap):PV->AV->Prop
 | .aN,x=>x=.p .aN\/match x with
  | .sl b ar _ off len=>ar=0/\off=0/\len=0/\∃k z,T[b]?=some (.arr k 0 z [])/\k.gr=true
  |_=>False
 | .st u fs,x=>x=.p (.st u fs)\/match x with
  | .st u' gs=>u=u'/\kU T fs gs
  |_=>False
 |v,x=>x=.p v
def kU(T:Heap):List PV->List AV->Prop
 |[],gs=>gs=[]
 |v::vs,gs=>match gs with
  |g::gs=>fP T v g/\kU T vs gs
  |[]=>False
end
mutual
def Gh(T:Heap):AV->AV->Prop
 | .p v,x=>fP T v x
 | .st u fs,x=>match x with
  | .st u' gs=>u=u'/\mi T fs gs
  |_=>False
 |a,x=>x=a
def mi(T:Heap):List AV->List AV->Prop
 |[],gs=>gs=[]
 |v::vs,gs=>match gs with
  |g::gs=>Gh T v g/\mi T vs gs
  |[]=>False
end
structure pF(s t:St):Prop where
 env:∀x,aM t.env x=aM s.env x\/aM t.env x=.p .undef\/Gh t.heap (aM s.env x) (aM t.env x)
 heap:∀(b:Nat)(o:Obj),t.heap[b]?=some o->o=.hole\/s.heap[b]?=some o\/((s.heap[b]?=none\/s.heap[b]?=some .hole)/\∃k z,o=.arr k 0 z []/\k.gr=true)\/(∃v v',s.heap[b]?=some (.box false v)/\o=.box false v'/\Gh t.heap v v')
 gD:∀x,aC (aG t.heap) (aM t.env x)
 hrefs:∀(b:Nat)(o:Obj),t.heap[b]?=some o->o.refs (aG t.heap)
def dE(N:Nat)(s t:St):Prop:=t=s\/(pF s t/\∀b,b<N->t.heap[b]?=s.heap[b]?)
def kq(Q:bp->St->Prop)(j:Option Code)(s:St):Prop:=
 match j with
 |none=>Q .normal s
 |some (.exit id)=>Q (.exit id) s
 |some .ret=>Q .ret s
 |_=>False
def jF(P:a0)(it:AV)(b:Nat)(H:Heap)(K:Heap->Prop):Prop:=
 match it with
 | .p (.func g fi ca)=>∃H' v,c7 P g H (fi.map .p++[.map b]++ca.map .p) H' v/\K H'
 | .func g fi ca=>∃H' v,c7 P g H (fi++[.map b]++ca) H' v/\K H'
 |_=>False
def iQ(b:Nat)(env:Env)(Q:bp->St->Prop)(H:Heap):Prop:=
 match H[b]? with
 |some (.loop L)=>L.st≠.busy/\kq Q L.pending ⟨env,H.set b (.loop {L with st:=.exhausted})⟩
 |_=>False
abbrev Cx:=Nat×Nat
def b7(P:a0)(ag:a8->Bool)(q:Cx):Code->(bp->St->Prop)->St->Prop
 | .skip,Q,s| .label _,Q,s=>Q .normal s
 | .region _ ops draw,Q,s=>if draw then ga P ag ops ops.toList 0 [] (Q .normal) s else gR P ag false ops ops.toList (Q .normal) s
 | .seq a b,Q,s=>b7 P ag q a (fun e s'=>match e with
  | .normal=>b7 P ag q b Q s'
  |e=>Q e s') s
 | .cond c a b,Q,s=>match ev s.env c with
  | .p (.bool t)=>if t then b7 P ag q a Q s else b7 P ag q b Q s
  |_=>False
 | .block id b,Q,s=>b7 P ag q b (fun e s'=>match e with
  | .exit i=>if i=id then Q .normal s' else Q (.exit i) s'
  |e=>Q e s') s
 | .scope b,Q,s=>b7 P ag q b Q s
 | .loop b,Q,s=>∃I:Nat->St->Prop,(∃n t,dE q.2 s t/\I n t)/\∀n t,I n t->b7 P ag q b (fun e s'=>match e with
  | .normal=>∃m g,m<n/\dE q.2 s' g/\I m g
  |e=>Q e s') t
 | .rangeFunc f h a b,Q,s=>q.2<=s.heap.length/\∃d:Env,(∀x,aM d x=aM s.env x)/\jF P (ev s.env f) s.heap.length (s.heap++[.loop ⟨.ready,none,q.1,h.toList,a,b,d⟩]) (iQ s.heap.length s.env Q)
 | .exit id,Q,s=>Q (.exit id) s
 | .ret,Q,s=>Q .ret s
 |_,_,_=>False
def bw(fr:bb)(t:Array a5)(ds:List bk)(todo:List Item):bb:={fr with tmps:=t,defers:=ds,todo,mode:=.run}
section
variable{P:a0}{fr:bb}{t:Array a5}{ds:List bk}{k:List Item}{cs:List bb}{w:a7}
def fA(t:Array a5):a9->a5
 | .tmp x=>t.getD x undef
 | .const v=>v
 | .global g=>.pointer (some ⟨g,0,none⟩)
 | .func f=>.func (.func f) #[] #[]
theorem eval_eq(fr:bb):fr.eval=fA fr.tmps:=by funext x;cases x<;>rfl
theorem aFV:step P (lone (bw fr t ds (.code .skip::k)) cs w)=.next (lone (bw fr t ds k) cs w):=
 a6 (by simp[stepG,b4,bw])
theorem V6{l:Nat}:step P (lone (bw fr t ds (.code (.label l)::k)) cs w)=.next (lone (bw fr t ds k) cs w):=
 a6 (by simp[stepG,b4,bw])
theorem UP{id:Nat}:step P (lone (bw fr t ds (.inBlock id::k)) cs w)=.next (lone (bw fr t ds k) cs w):=
 a6 (by simp[stepG,b4,bw])
theorem UO{b:Code}:step P (lone (bw fr t ds (.inScope b::k)) cs w)=.next (lone (bw fr t ds k) cs w):=
 a6 (by simp[stepG,b4,bw])
theorem C7{a b:Code}:step P (lone (bw fr t ds (.code (.seq a b)::k)) cs w)=.next (lone (bw fr t ds (.code a::.code b::k)) cs w):=
 a6 (by simp[stepG,b4,bw])
theorem aFO{c:a9}{x y:Code}{b:Bool}(h:fA t c= .bool b):
 step P (lone (bw fr t ds (.code (.cond c x y)::k)) cs w)=.next (lone (bw fr t ds (.code (if b then x else y)::k)) cs w):=
 a6 (by simp[stepG,b4,bw,eval_eq,h])
theorem yj{id:Nat}{c:Code}:step P (lone (bw fr t ds (.code (.block id c)::k)) cs w)=.next (lone (bw fr t ds (.code c::.inBlock id::k)) cs w):=
 a6 (by simp[stepG,b4,bw])
theorem B5{c:Code}:step P (lone (bw fr t ds (.code (.scope c)::k)) cs w)=.next (lone (bw fr t ds (.code c::.inScope c::k)) cs w):=
 a6 (by simp[stepG,b4,bw])
theorem aFS{c:Code}:step P (lone (bw fr t ds (.code (.loop c)::k)) cs w)=.next (lone (bw fr t ds (.code c::.inLoop c::k)) cs w):=
 a6 (by simp[stepG,b4,bw])
theorem Vb{c:Code}:step P (lone (bw fr t ds (.inLoop c::k)) cs w)=.next (lone (bw fr t ds (.code c::.inLoop c::k)) cs w):=
 a6 (by simp[stepG,b4,bw])
theorem aFR{id:Nat}{a:List Item}(h:exitTo id k=some a):step P (lone (bw fr t ds (.code (.exit id)::k)) cs w)=.next (lone (bw fr t ds a) cs w):=
 a6 (by simp[stepG,b4,bw,h])
theorem R4{id:Nat}{a:Array Oper}:
 step P (lone (bw fr t ds (.code (.region id a false)::k)) cs w)=.next (lone (bw fr t ds (.inRegion a (List.range a.size)::k)) cs w):=
 a6 (by simp[stepG,b4,bw])
theorem aFP{id:Nat}{a:Array Oper}:
 step P (lone (bw fr t ds (.code (.region id a true)::k)) cs w)=
  .next (lone (bw fr t ds (.inRegion a (Region.schedule (P.follows .mixedOrders) a (w.tape w.drawn (.order fr.fn id)))::k)) cs {w with drawn:=w.drawn+1}):=
 a6 (by simp[stepG,b4,bw,choose,Sem.run,Question.forced,Question.cut])
theorem HN{a:Array Oper}:step P (lone (bw fr t ds (.inRegion a []::k)) cs w)=.next (lone (bw fr t ds k) cs w):=
 a6 (by simp[stepG,b4,bw])
def ng(dst:Option Tmp)(v:a5)(t:Array a5):Array a5:=
 match dst with
 |some d=>t.setIfInBounds d v
 |none=>t
theorem nq{a:Array Oper}{i:Nat}{r:List Nat}{o:Oper}(c:a[i]?=some o)(v:a5):
 (bw fr t ds (.inRegion a (i::r)::k)).finish v=bw fr (ng o.dst v t) ds (.inRegion a r::k):=by
 cases b:o.dst<;>simp[Frame.finish,bw,c,b,ng]
theorem JE{a:Array Oper}{i:Nat}{r:List Nat}{o:Oper}(b:a[i]?=some o)(c:b0 o (yielded a t)=false):
 step P (lone (bw fr t ds (.inRegion a (i::r)::k)) cs w)=.next (lone (bw fr (ng o.dst undef t) ds (.inRegion a r::k)) cs w):=by
 rw[<-nq b];exact a6 (by simp only[bw];simp[stepG,b4,b,c])
theorem Uu{o:Oper}(a:∀c,o.op≠ .defer c)(r:Option Nat)(A:Nat->Call->GStep)(B:GStep):
 (match r,o.op with
  |some l,.defer c=>A l c
  |_,_=>B)=B:=by
 cases r with
 |none=>rfl
 |some l=>cases h:o.op<;>first|rfl|exact absurd h (a _)
theorem aFT{a:Array Oper}{i:Nat}{r:List Nat}{o:Oper}{fr:bb}(e:fr.todo= .inRegion a (i::r)::k)(d:a[i]?=some o)(b:∀c,o.op≠ .defer c):
 cb P true fr cs none w=b5 P true fr cs none (be (fA fr.tmps) o) w:=by
 simp only[cb,Frame.oper?,e,d,eval_eq];exact Uu b _ _ _
theorem BU{f:Bool}{a:Array Oper}{i:Nat}{r:List Nat}{o:Oper}(b:a[i]?=some o)(e:b0 o (yielded a t)=true)(d:∀c,o.op≠ .defer c):
 stepG P f {frame:=bw fr t ds (.inRegion a (i::r)::k),callers:=cs,status:=.running,dying:=none} w=
  b5 P true (bw fr t ds (.inRegion a (i::r)::k)) cs none (be (fA t) o) w:=by
 have h:=aFT (P:=P) (cs:=cs) (w:=w) (fr:=bw fr t ds (.inRegion a (i::r)::k)) rfl b d;simp only[bw]at h⊢;simp[stepG,b4,b,e,h]
theorem sy{a:Array Oper}{i:Nat}{r:List Nat}{o:Oper}{n:Next}{b:a5}{w':a7}(d:a[i]?=some o)(h:b0 o (yielded a t)=true)
 (e:∀c,o.op≠.defer c)(g:(be (fA t) o).run P w=.ok n w')(f:n=.value b\/n=.skip/\b=undef):
 step P (lone (bw fr t ds (.inRegion a (i::r)::k)) cs w)=.next (lone (bw fr (ng o.dst b t) ds (.inRegion a r::k)) cs w'):=by
 rw[<-nq d];refine a6 ?_;rw[BU d h e];rcases f with rfl|⟨rfl,rfl⟩<;>simp[b5,g,bw]
theorem uU{a:Array Oper}{i:Nat}{r:List Nat}{o:Oper}{f:a8}{args:Array a5}{w':a7}(d:a[i]?=some o)(g:b0 o (yielded a t)=true)
 (b:∀c,o.op≠.defer c)(e:(be (fA t) o).run P w=.ok (.enter f args) w'):
 step P (lone (bw fr t ds (.inRegion a (i::r)::k)) cs w)=.next (lone (Frame.enter P f args .normal) (bw fr t ds (.inRegion a (i::r)::k)::cs) w'):=by
 refine a6 ?_;rw[BU d g b];simp[b5,e,bw]
theorem I4{a:Array Oper}{i:Nat}{r:List Nat}{o:Oper}{l:Nat}{f:a8}{tmps:Array a5}{assign body:Code}{w':a7}(d:a[i]?=some o)(g:b0 o (yielded a t)=true)
 (b:∀c,o.op≠.defer c)(e:(be (fA t) o).run P w=.ok (.round l f tmps assign body) w'):
 step P (lone (bw fr t ds (.inRegion a (i::r)::k)) cs w)=.next (lone (Frame.round l f tmps assign body .normal) (bw fr t ds (.inRegion a (i::r)::k)::cs) w'):=by
 refine a6 ?_;rw[BU d g b];simp[b5,e,bw]
end
end Go.aj
namespace Go.aj
variable[Gl]
mutual
theorem aC.mono{S T:Nat×Nat->Prop}(h:∀x,S x->T x):∀v,aC S v->aC T v
 | .p _,_=>by simp[aC]
 | .ptr b _,c| .bV b _ _ _ _,c| .sl b _ _ _ _,c| .map b,c=>by simp only[aC]at*;exact h _ c
 | .func _ a b,c=>by simp only[aC]at*;exact⟨aR.mono h a c.1,aR.mono h b c.2⟩
 | .st _ fs,c=>by simp only[aC]at*;exact aR.mono h fs c
 | .aE vs,c=>by simp only[aC]at*;exact aR.mono h vs c
theorem aR.mono{S T:Nat×Nat->Prop}(h:∀x,S x->T x):∀vs,aR S vs->aR T vs
 |[],_=>by simp[aR]
 |v::vs,c=>by simp only[aR]at*;exact⟨aC.mono h v c.1,aR.mono h vs c.2⟩
end
structure cK(P:a0)(n:Nat)(ah ad:Nat->Prop)(β:Bd)(s:St)(t:Array a5)(w:a7):Prop where
 heap:bP P w ad β s.heap ah
 env:∀x,au P w ad β s.heap (aM s.env x) (t.getD x undef)
 gD:∀x,aC (aG s.heap) (aM s.env x)
 size:t.size=n
structure pE(N:Nat)(β:Bd)(H:Heap)(aH:Bd)(H':Heap):Prop where
 box:∀b,b<N->aG H (b,0)->mG H' b->mG H b/\aH.al b=β.al b
 it:∀b,b<N->aG H (b,0)->mH H' b->mH H b/\aH.al b=β.al b
 map:∀b,b<N->aG H (b,0)->nM H' b->nM H b/\aH.al b=β.al b
 arr:∀b ar ai k es,b<N->aG H (b,ar)->eD H' b ar ai k es->∃k0 gE,eD H b ar ai k0 gE/\gE.length<=es.length/\(cX k es↔cX k0 gE)/\(¬cX k es->aH.al b=β.al b/\aH.cap b=β.cap b)
 loop:∀b,b<N->aG H (b,0)->gN H' b->gN H b/\aH.al b=β.al b
theorem b9.n{N:Nat}{β:Bd}{H:Heap}{aH:Bd}{H':Heap}(h:b9 β H aH H'):pE N β H aH H':=
 ⟨fun b _=>h.box b,fun b _=>h.it b,fun b _=>h.map b,fun b ar ai k es _=>h.arr b ar ai k es,fun b _=>h.loop b⟩
theorem pE.full{β:Bd}{H:Heap}{aH:Bd}{H':Heap}(h:pE H.length β H aH H'):b9 β H aH H':=by
 have lt:∀b v,aG H (b,v)->b<H.length:=fun b v⟨o,c,_⟩=>(ck.1 c).1;exact⟨fun b x=>h.box b (lt _ _ x) x,fun b x=>h.it b (lt _ _ x) x,fun b x=>h.map b (lt _ _ x) x,fun b ar ai k a x=>h.arr b ar ai k a (lt _ _ x) x,fun b x=>h.loop b (lt _ _ x) x⟩
theorem pE.trans{N:Nat}{β l m:Bd}{H H1 j:Heap}(h:pE N β H l H1)(hi:∀x,x.1<N->aG H x->aG H1 x)(i:pE N l H1 m j):pE N β H m j:=by
 refine⟨?_,?_,?_,?_,?_⟩
 ·intro b a c g;obtain⟨d,a2⟩:=i.box b a (hi (b,0) a c) g;obtain⟨e,f⟩:=h.box b a c d;exact⟨e,a2.trans f⟩
 ·intro b a c g;obtain⟨d,a2⟩:=i.it b a (hi (b,0) a c) g;obtain⟨e,f⟩:=h.it b a c d;exact⟨e,a2.trans f⟩
 ·intro b a c g;obtain⟨d,a2⟩:=i.map b a (hi (b,0) a c) g;obtain⟨e,f⟩:=h.map b a c d;exact⟨e,a2.trans f⟩
 ·intro b ar ai k p a c g;obtain⟨k1,q,d,a2,a3,a4⟩:=i.arr b ar ai k p a (hi (b,ar) a c) g;obtain⟨k0,gE,e,f,n,o⟩:=h.arr b ar ai k1 q a c d;refine⟨k0,gE,e,ec f a2,a3.trans n,fun a=>?_⟩;obtain⟨c1,c2⟩:=a4 a;obtain⟨d1,d2⟩:=o (fun x=>a (a3.2 x));exact⟨c1.trans d1,c2.trans d2⟩
 ·intro b a c g;obtain⟨d,a2⟩:=i.loop b a (hi (b,0) a c) g;obtain⟨e,f⟩:=h.loop b a c d;exact⟨e,a2.trans f⟩
structure dJ(N:Nat)(ah ad:Nat->Prop)(w:a7)(β:Bd)(H:Heap)(jT aD:Nat->Prop)(w':a7)(aH:Bd)(H':Heap):Prop where
 dX:∀k,ah k->jT k
 bQ:∀k,ad k->aD k
 fresh:∀k,aD k->ad k\/¬ah k
 ext:Ext ah ad w w'
 step:pE N β H aH H'
 eQ:∀x,x.1<N->aG H x->aG H' x
 loop:∀b,b<N->gN H b->gN H' b
theorem dJ.refl(N:Nat)(ah ad:Nat->Prop)(w:a7)(β:Bd)(H:Heap):dJ N ah ad w β H ah ad w β H:=
 ⟨fun _ h=>h,fun _ h=>h,fun _ h=>.inl h,Ext.refl _ _ _,(b9.refl _ _).n,fun _ _ h=>h,fun _ _ h=>h⟩
theorem Ext.trans{ah ad jT aD:Nat->Prop}{w w1 b:a7}(c:∀k,ah k->jT k)(hi:∀k,ad k->aD k)(h:Ext ah ad w w1)(a:Ext jT aD w1 b):Ext ah ad w b:=
 ⟨ec h.size a.size,fun k hk=>(a.same k (hk.imp (c k) (hi k))).trans (h.same k hk),a.io.1.trans h.io.1,a.io.2.trans h.io.2⟩
theorem dJ.trans{N:Nat}{ah ad g e i f:Nat->Prop}{w w1 j:a7}{β l m:Bd}{H H1 d:Heap}(h:dJ N ah ad w β H g e w1 l H1)(a:dJ N g e w1 l H1 i f j m d):dJ N ah ad w β H i f j m d:=
 ⟨fun k x=>a.dX k (h.dX k x),fun k x=>a.bQ k (h.bQ k x),fun k x=>(a.fresh k x).elim (fun y=>h.fresh k y) (fun y=>.inr fun z=>y (h.dX k z)),h.ext.trans h.dX h.bQ a.ext,
  h.step.trans h.eQ a.step,fun x c hx=>a.eQ x c (h.eQ x c hx),fun b c n=>a.loop b c (h.loop b c n)⟩
theorem bR.fe{P:a0}{N:Nat}{ah ad aD:Nat->Prop}{w w':a7}{β aH:Bd}{H H':Heap}(h:bR P ah ad w β H aD w' aH H'):dJ N ah ad w β H ah aD w' aH H':=
 ⟨fun _ x=>x,h.bQ,h.fresh,h.ext,h.step.n,fun x _=>h.eQ x,fun b _=>h.loop b⟩
section
variable{P:a0}{ah ad aD:Nat->Prop}{w w':a7}{β aH:Bd}{H H':Heap}
theorem eZ.vg(a:w'.heap=w.heap){b:Nat}{o:Obj}(h:eZ P w ad β H ah b o)(g:o.refs (aG H)):eZ P w' ad β H ah b o:=by
 have p:=fun(v:AV) cs m=>bf.mono (P:=P) (w:=w) (w':=w') (ad:=ad) (aD:=ad) (β:=β) (aH:=β) (H:=H) (H':=H) (fun _ x=>x) (fun k _=>by rw[a]) (b9.refl β H) v cs m;have q:=fun l(v:List AV) cs m=>bJ.mono (P:=P) (w:=w) (w':=w') (ad:=ad) (aD:=ad) (β:=β) (aH:=β) (H:=H) (H':=H) (fun _ x=>x) (fun k _=>by rw[a]) (b9.refl β H) l v cs m;have r:=fun(i:List (PV×PV)) f=>cz.mono (P:=P) (w:=w) (w':=w') (ad:=ad) (aD:=ad) (fun _ x=>x) (fun k _=>by rw[a]) i f;cases o with
 |hole=>trivial
 |dead=>trivial
 |box fz t=>
  obtain⟨cs,T,c,d,e⟩:=h;exact⟨cs,T,by rw[a];exact c,p _ _ g d,e⟩
 |arr k ar ai i=>
  rcases h with h|⟨cs,T,n,rest,c,d,e⟩
  ·exact .inl h
  ·exact .inr ⟨cs,T,n,rest,by rw[a];exact c,q _ _ _ g d,e⟩
 |map fz i=>
  obtain⟨f,clock,c,d,e⟩:=h;exact⟨f,clock,by rw[a];exact c,r _ _ d,e⟩
 |di ks vs=>
  obtain⟨f,clock,c,d,e,j⟩:=h;exact⟨f,clock,by rw[a];exact c,bn.mono (fun _ x=>x) (fun _ _=>by rw[a]) _ _ d,br.mono (fun _ x=>x) (fun _ _=>by rw[a]) (b9.refl _ _) _ _ g e,j⟩
 |dt s pos=>
  obtain⟨bs,c,d⟩:=h;exact⟨bs,by rw[a];exact c,d⟩
 |loop L=>
  obtain⟨tmps,defers,fn,c,d,e,j⟩:=h;exact⟨tmps,defers,fn,by rw[a];exact c,d,fun x=>au.mono (fun _ x=>x) (fun _ _=>by rw[a]) (b9.refl _ _) _ _ (g x) (e x),j⟩
theorem bP.vg(a:w'.heap=w.heap)(h:bP P w ad β H ah):bP P w' ad β H ah:=
 ⟨fun b o c=>(h.cB b o c).vg a (h.refs b o c),h.inj,h.refs,fun k hk=>by rw[a];exact h.bQ k hk,fun k hk=>by rw[a];exact h.dX k hk,h.ig.mono (fun _ x=>x) (fun _ _=>by rw[a])⟩
theorem bP.mE(h:bP P w ad β H ah){b:Nat}{o:Obj}(f:H[b]?=some o)(d:o.live):β.al b<w.heap.size:=by
 have c:=h.cB b o f;cases o with
 |hole=>exact d.elim
 |dead=>exact d.elim
 |box fz t=>obtain⟨cs,T,a,_⟩:=c;exact(av.1 a).1
 |arr k ar ai es=>
  rcases c with c|⟨cs,T,g,rest,a,_⟩
  ·exact(d c).elim
  ·exact(av.1 a).1
 |map fz es=>obtain⟨e,clock,a,_⟩:=c;exact(av.1 a).1
 |di ks vs=>obtain⟨e,clock,a,_⟩:=c;exact(av.1 a).1
 |dt s pos=>obtain⟨bs,a,_⟩:=c;exact(av.1 a).1
 |loop L=>obtain⟨_,_,_,a,_⟩:=c;exact(av.1 a).1
theorem bR.set{b:Nat}{o':Obj}(i:bP P w ad β H ah)(r:b<H.length)(n:∀x,x≠b->aH.al x=β.al x/\aH.cap x=β.cap x)
 (g:∀k,ad k->aD k)(Q:∀k,aD k->ad k\/(k=aH.al b/\o'.live))(ag:∀k,aD k->k<w'.heap.size)
 (V:w.heap.size<=w'.heap.size)(J:∀k,(k≠aH.al b\/¬o'.live)->k<w.heap.size->w'.heap[k]?=w.heap[k]?)
 (F:o'.live->w.heap.size<=aH.al b\/(aH.al b=β.al b/\(∃o,H[b]?=some o/\o.live)/\((∀k,k=β.al b->w'.heap[k]?=w.heap[k]?)\/¬ad (β.al b))/\¬ah (β.al b)))
 (aB:b9 β H aH (H.set b o'))(al:eZ P w' aD aH (H.set b o') ah b o')(am:o'.refs (aG (H.set b o')))(aj:∀(o:Obj)(v:Nat),H[b]?=some o->o.has v->o'.has v)(af:∀L,H[b]?=some (.loop L)->∃C,o'=.loop C)(ae:w'.os=w.os/\w'.output=w.output:=by exact⟨rfl,rfl⟩):
 bR P ah ad w β H aD w' aH (H.set b o'):=by
 have A:∀x o,x≠b->H[x]?=some o->o.live->¬ad (β.al x)->o'.live->β.al x≠aH.al b:=by
  intro x o hx d e j u he;rcases F u with a|⟨a,⟨an,c,f⟩,_⟩
  ·have:=i.mE d e;omega
  ·rw[a]at he;exact hx (i.inj x b o an d c e f j he)
 have U:o'.live->¬ah (aH.al b):=by
  intro e G;rcases F e with a|⟨a,_,_,c⟩
  ·have:=i.dX _ G;omega
  ·rw[a]at G;exact c G
 have l:∀k,ah k\/ad k->w'.heap[k]?=w.heap[k]?:=by
  intro k hk;have R:k<w.heap.size:=hk.elim (i.dX k) (i.bQ k)
  by_cases z:k=aH.al b
  ·by_cases e:o'.live
   ·rcases hk with hk|hk
    ·exact(U e (z▸hk)).elim
    ·rcases F e with a|⟨a,_,c,_⟩
     ·omega
     ·rcases c with c|c
      ·exact c k (z.trans a)
      ·exact(c (by rw[<-a,<-z];exact hk)).elim
   ·exact J k (.inr e) R
  ·exact J k (.inl z) R
 have ak:∀x,aG H x->aG (H.set b o') x:=by
  rintro⟨x,v⟩ ⟨o,d,S⟩
  by_cases hx:x=b
  ·subst hx;exact⟨o',by simp[cv r],aj o v d S⟩
  ·exact⟨o,by simp only;rw[ce (ei hx)];exact d,S⟩
 have hrefs:∀v,aC (aG H) v->aC (aG (H.set b o')) v:=aC.mono ak;refine⟨g,fun k hk=>(Q k hk).imp id (fun(h:k=aH.al b/\o'.live)=>h.1▸U h.2),⟨V,l,ae⟩,aB,⟨?_,?_,?_,ag,fun k hk=>ed (i.dX k hk) V,i.ig.mono g (fun k hk=>l k (.inr hk))⟩,ak,?_⟩
 ·intro x o d
  by_cases hx:x=b
  ·subst hx;rw[cv r]at d;cases d;exact al
  ·rw[ce (ei hx)]at d;have m:=i.cB x o d;have B:=i.refs x o d;have O:=(n x hx).1;have E:=(n x hx).2;have hs:o.live->w'.heap[aH.al x]?=w.heap[β.al x]?:=by
    intro e;rw[O]
    by_cases j:ad (β.al x)
    ·exact l _ (.inr j)
    refine J _ ?_ (i.mE d e)
    by_cases u:o'.live
    ·exact .inl (A x o hx d e j u)
    ·exact .inr u
   have held:∀fz,o.live->cw ad β ah fz x->cw aD aH ah fz x:=by
    intro fz e q;unfold cw at q⊢;rw[O];cases fz with
    |true=>simp only[if_true]at q⊢;exact g _ q
    |false=>
     simp only[Bool.false_eq_true,if_false]at q⊢;refine⟨fun h=>?_,q.2⟩;rcases Q _ h with h|⟨h,u⟩
     ·exact q.1 h
     ·exact A x o hx d e q.1 u h
   cases o with
   |hole=>trivial
   |dead=>trivial
   |box fz t=>
    obtain⟨cs,T,a,c,f,p⟩:=m;exact⟨cs,T,(hs trivial).trans a,bf.mono g (fun k hk=>l k (.inr hk)) aB _ _ B c,held _ trivial f,p⟩
   |arr k ar ai es=>
    rcases m with m|⟨cs,T,Y,rest,a,c,f,p,Z,aa,ab,ac⟩
    ·exact .inl m
    ·by_cases e:cX k es
     ·exact .inl e
     ·refine .inr ⟨cs,T,Y,rest,(hs e).trans a,bJ.mono g (fun k hk=>l k (.inr hk)) aB _ _ _ B c,f,?_,?_,?_,held _ e ab,ac⟩
      ·rw[E];exact p
      ·rw[E];exact Z
      ·rw[E];exact aa
   |map fz es=>
    obtain⟨D,clock,a,c,f⟩:=m;exact⟨D,clock,(hs trivial).trans a,cz.mono g (fun k hk=>l k (.inr hk)) _ _ c,held _ trivial f⟩
   |di ks vs=>
    obtain⟨D,clock,a,c,f,p⟩:=m;exact⟨D,clock,(hs trivial).trans a,bn.mono g (fun k hk=>l k (.inr hk)) _ _ c,br.mono g (fun k hk=>l k (.inr hk)) aB _ _ B f,held _ trivial p⟩
   |dt s pos=>
    obtain⟨bs,a,c,f⟩:=m;exact⟨bs,(hs trivial).trans a,c,held _ trivial f⟩
   |loop L=>
    obtain⟨tmps,defers,fn,a,c,f,p⟩:=m;exact⟨tmps,defers,fn,(hs trivial).trans a,c,fun x=>au.mono g (fun k hk=>l k (.inr hk)) aB _ _ (B x) (f x),held _ trivial p⟩
 ·intro x y W X a c K M j he
  by_cases hx:x=b<;>by_cases hy:y=b
  ·rw[hx,hy]
  ·subst hx;rw[cv r]at a;cases a;rw[ce (ei hy)]at c;rw[(n y hy).1]at he;exact(A y X hy c M (fun hi=>j (he▸g _ hi)) K he.symm).elim
  ·subst hy;rw[cv r]at c;cases c;rw[ce (ei hx)]at a;rw[(n x hx).1]at he;rw[(n x hx).1]at j;exact(A x W hx a K (fun hi=>j (g _ hi)) M he).elim
  ·rw[ce (ei hx)]at a;rw[ce (ei hy)]at c;rw[(n x hx).1,(n y hy).1]at he;rw[(n x hx).1]at j;exact i.inj x y W X a c K M (fun hi=>j (g _ hi)) he
 ·intro x o d
  by_cases hx:x=b
  ·subst hx;rw[cv r]at d;cases d;exact am
  ·rw[ce (ei hx)]at d;have:=i.refs x o d;cases o with
   |box fz t=>exact hrefs _ this
   |arr k ar ai es=>exact cG.2 fun v I=>hrefs v (cG.1 this v I)
   |di ks vs=>exact cG.2 fun v I=>hrefs v (cG.1 this v I)
   |loop L=>exact fun x=>hrefs _ (this x)
   |_=>trivial
 ·rintro x ⟨L,N⟩
  by_cases hx:x=b
  ·subst hx;obtain⟨C,rfl⟩:=af L N;exact⟨C,cv r⟩
  ·exact⟨L,by rw[ce (ei hx)];exact N⟩
end
end Go.aj
namespace Go.aj
variable[Gl]
def bg(P:a0)(o:Oper)(ρ:a9->AV)(a:Nat)(e:aS):Prop:=
 ∀(H:Heap)(w:a7)(ad ah:Nat->Prop)(β:Bd)(ρc:a9->a5),
  bP P w ad β H ah->(∀x∈o.op.operands,au P w ad β H (ρ x) (ρc x)/\aC (aG H) (ρ x))->(∀p∈e.ak,H[p.1]?=some p.2)->(∀i,i<e.aQ.length->H[a+i]?=some .hole)->
  ∃n b w' aH aD,(be ρc o).run P w=.ok n w'/\(n=.value b\/n=.skip/\b=undef)/\
   bR P ah ad w β H aD w' aH (bm H (e.aJ++newAt a e.aQ))/\au P w' aD aH (bm H (e.aJ++newAt a e.aQ)) e.v b/\
   aC (aG (bm H (e.aJ++newAt a e.aQ))) e.v
section
variable{P:a0}{ah ad aD:Nat->Prop}{w w':a7}{β aH:Bd}{H H':Heap}
theorem bR.refl(h:bP P w ad β H ah):bR P ah ad w β H ad w β H:=
 ⟨fun _ x=>x,fun _ x=>.inl x,Ext.refl _ _ _,b9.refl _ _,h,fun _ x=>x,fun _ x=>x⟩
theorem bg.same{o:Oper}{ρ:a9->AV}{c:Nat}{v:AV}{ak:List (Nat×Obj)}
 (h:∀(H:Heap)(w:a7)(ad ah:Nat->Prop)(β:Bd)(ρc:a9->a5),bP P w ad β H ah->(∀x∈o.op.operands,au P w ad β H (ρ x) (ρc x)/\aC (aG H) (ρ x))->
  (∀p∈ak,H[p.1]?=some p.2)->∃a,(be ρc o).run P w=.ok (.value a) w/\au P w ad β H v a/\aC (aG H) v):
 bg P o ρ c {v,ak}:=by
 intro H w ad ah β ρc b i g _;obtain⟨a,d,e,f⟩:=h H w ad ah β ρc b i g;exact⟨_,a,w,β,ad,d,.inl rfl,by simpa[newAt,bm]using bR.refl b,by simpa[newAt,bm]using e,by simpa[newAt,bm]using f⟩
theorem bR.trans{j l:Nat->Prop}{w1 n:a7}{o p:Bd}{H1 i:Heap}(h:bR P ah ad w β H j w1 o H1)(c:bR P ah j w1 o H1 l n p i):bR P ah ad w β H l n p i:=by
 refine⟨fun k x=>c.bQ k (h.bQ k x),fun k x=>(c.fresh k x).elim (h.fresh k) .inr,h.ext.trans (fun _ x=>x) h.bQ c.ext,⟨?_,?_,?_,?_,?_⟩,c.rel,fun b a=>c.eQ b (h.eQ _ a),fun b a=>c.loop b (h.loop b a)⟩
 ·intro b a g;obtain⟨d,a2⟩:=c.step.box b (h.eQ _ a) g;obtain⟨e,f⟩:=h.step.box b a d;exact⟨e,a2.trans f⟩
 ·intro b a g;obtain⟨d,a2⟩:=c.step.it b (h.eQ _ a) g;obtain⟨e,f⟩:=h.step.it b a d;exact⟨e,a2.trans f⟩
 ·intro b a g;obtain⟨d,a2⟩:=c.step.map b (h.eQ _ a) g;obtain⟨e,f⟩:=h.step.map b a d;exact⟨e,a2.trans f⟩
 ·intro b ar ai k s a g;obtain⟨k1,t,d,a2,a3,a4⟩:=c.step.arr b ar ai k s (h.eQ _ a) g;obtain⟨k0,gE,e,f,q,r⟩:=h.step.arr b ar ai k1 t a d;refine⟨k0,gE,e,ec f a2,a3.trans q,fun m=>?_⟩;obtain⟨c1,c2⟩:=a4 m;obtain⟨d1,d2⟩:=r (fun x=>m (a3.2 x));exact⟨c1.trans d1,c2.trans d2⟩
 ·intro b a g;obtain⟨d,a2⟩:=c.step.loop b (h.eQ _ a) g;obtain⟨e,f⟩:=h.step.loop b a d;exact⟨e,a2.trans f⟩
theorem A4(H:Heap)(l r:List (Nat×Obj)):bm H (l++r)=bm (bm H l) r:=by
 induction l generalizing H with
 |nil=>rfl
 |cons p l a=>obtain⟨b,o⟩:=p;simp[bm,a]
theorem oH(H:Heap)(l:List (Nat×Obj)):(bm H l).length=H.length:=by
 induction l generalizing H with
 |nil=>rfl
 |cons p l a=>obtain⟨b,o⟩:=p;simp[bm,a]
theorem xA(H T:Heap)(l:List (Nat×Obj))(h:∀p∈l,p.1<H.length):bm (H++T) l=bm H l++T:=by
 induction l generalizing H with
 |nil=>rfl
 |cons p l c=>
  obtain⟨b,o⟩:=p;have a:b<H.length:=h (b,o) (by simp);simp only[bm];rw[List.set_append_left _ _ a,c];intro q hq;rw[List.length_set];exact h q (by simp[hq])
theorem Bj(H:Heap)(l:List Obj):bm (H++cc l.length .hole) (newAt H.length l)=H++l:=by
 induction l generalizing H with
 |nil=>simp[newAt,bm]
 |cons o l a=>
  simp only[newAt,bm,dz,dk];rw[List.set_append_right _ _ (eb _)];simp only[Nat.sub_self,dl];have:=a (H++[o]);simp only[dp,List.length_singleton,dq,List.singleton_append]at this;exact this
theorem jZ(H:Heap)(m b:Nat):(H++cc m Obj.hole)[b]?=if b<H.length then H[b]? else if b<H.length+m then some .hole else none:=by
 by_cases h:b<H.length
 ·simp[h,cx]
 ·rw[c6 (by omega)];simp only[List.getElem?_replicate,h,if_false]
  by_cases a:b<H.length+m
  ·simp[a,show b-H.length<m by omega]
  ·simp[a,show¬(b-H.length<m)by omega]
theorem nm{H:Heap}{m b:Nat}{o:Obj}(h:(H++cc m Obj.hole)[b]?=some o):H[b]?=some o\/o=.hole:=by
 rw[jZ]at h
 split at h
 ·exact .inl h
 ·split at h
  ·exact .inr (by simpa using h.symm)
  ·simp at h
theorem mz(H:Heap)(m:Nat)(b:Nat×Nat)(h:aG H b):aG (H++cc m Obj.hole) b:=by
 obtain⟨o,a,d⟩:=h;have c:b.1<H.length:=(ck.1 a).1;exact⟨o,by rw[jZ,if_pos c];exact a,d⟩
theorem oJ(β:Bd)(H:Heap)(m:Nat):b9 β H β (H++cc m .hole):=by
 refine⟨?_,?_,?_,?_,?_⟩
 ·rintro b _ ⟨fz,t,h⟩;rcases nm h with h|h<;>simp_all [mG]
 ·rintro b _ ⟨fz,t,h⟩;rcases nm h with h|h<;>simp_all [mH]
 ·rintro b _ ⟨o,h,a⟩;rcases nm h with h|rfl
  ·exact⟨⟨o,h,a⟩,rfl⟩
  ·exact a.elim
 ·intro b ar ai k c _ h;rcases nm h with h|h
  ·exact⟨k,c,h,eb _,Iff.rfl,fun _=>⟨rfl,rfl⟩⟩
  ·simp at h
 ·rintro b _ ⟨L,h⟩;rcases nm h with h|h<;>simp_all [gN]
theorem Obj.vi{S T:Nat×Nat->Prop}(h:∀x,S x->T x):∀{o:Obj},o.refs S->o.refs T
 | .box _ t,a=>aC.mono h t a
 | .arr _ _ _ es,a=>aR.mono h es a
 | .di _ vs,a=>aR.mono h vs a
 | .loop _L,a=>fun x=>aC.mono h _ (a x)
 | .hole,_| .dead,_| .map _ _,_| .dt _ _,_=>trivial
theorem bP.mS(m:Nat)(h:bP P w ad β H ah):bP P w ad β (H++cc m .hole) ah:=by
 refine⟨?_,?_,?_,h.bQ,h.dX,h.ig⟩
 ·intro b o d;rcases nm d with d|rfl
  ·have e:=h.cB b o d;have g:=h.refs b o d;have st:=oJ β H m;cases o with
   |hole=>trivial
   |dead=>trivial
   |box fz t=>
    obtain⟨cs,T,a,c,f⟩:=e;exact⟨cs,T,a,bf.mono (fun _ x=>x) (fun _ _=>rfl) st _ _ g c,f⟩
   |arr k ar ai es=>
    rcases e with e|⟨cs,T,n,rest,a,c,f⟩
    ·exact .inl e
    ·exact .inr ⟨cs,T,n,rest,a,bJ.mono (fun _ x=>x) (fun _ _=>rfl) st _ _ _ g c,f⟩
   |map fz es=>exact e
   |di ks vs=>
    obtain⟨p,clock,a,c,f,i⟩:=e;exact⟨p,clock,a,c,br.mono (fun _ x=>x) (fun _ _=>rfl) st _ _ g f,i⟩
   |dt s pos=>exact e
   |loop L=>
    obtain⟨tmps,defers,fn,a,c,f,i⟩:=e;exact⟨tmps,defers,fn,a,c,fun x=>au.mono (fun _ x=>x) (fun _ _=>rfl) st _ _ (g x) (f x),i⟩
  ·trivial
 ·intro x y u v a c j l r q;rcases nm a with a|rfl
  ·rcases nm c with c|rfl
   ·exact h.inj x y u v a c j l r q
   ·exact l.elim
  ·exact j.elim
 ·intro b o d;rcases nm d with d|rfl
  ·exact Obj.vi (mz H m) (h.refs b o d)
  ·trivial
theorem bg.use{o:Oper}{ρ:a9->AV}{e:aS}(h:bg P o ρ H.length e){ρc:a9->a5}(k:bP P w ad β H ah)
 (c:∀x∈o.op.operands,au P w ad β H (ρ x) (ρc x)/\aC (aG H) (ρ x))(ak:∀p∈e.ak,H[p.1]?=some p.2)(aJ:∀p∈e.aJ,p.1<H.length):
 ∃n a w' aH aD,(be ρc o).run P w=.ok n w'/\(n=.value a\/n=.skip/\a=undef)/\
  bR P ah ad w β H aD w' aH (bm H e.aJ++e.aQ)/\au P w' aD aH (bm H e.aJ++e.aQ) e.v a/\aC (aG (bm H e.aJ++e.aQ)) e.v:=by
 have aB:=oJ β H e.aQ.length;obtain⟨n,a,w',aH,aD,m,q,d,f,g⟩:=h (H++cc e.aQ.length .hole) w ad ah β ρc (k.mS _)
  (fun x hx=>⟨au.mono (fun _ x=>x) (fun _ _=>rfl) aB _ _ (c x hx).2 (c x hx).1,aC.mono (mz _ _) _ (c x hx).2⟩)
  (fun p s=>by have:=ak p s;rw[jZ,if_pos (ck.1 this).1];exact this)
  (fun i hi=>by rw[jZ,if_neg (by omega),if_pos (by omega)])
 have r:bm (H++cc e.aQ.length .hole) (e.aJ++newAt H.length e.aQ)=bm H e.aJ++e.aQ:=by
  rw[A4,xA _ _ _ aJ];have:=Bj (bm H e.aJ) e.aQ
  rwa [oH]at this
 rw[r]at d f g;refine⟨n,a,w',aH,aD,m,q,?_,f,g⟩;have l:bR P ah ad w β H ad w β (H++cc e.aQ.length .hole):=⟨fun _ x=>x,fun _ x=>.inl x,Ext.refl _ _ _,aB,k.mS _,mz _ _,fun b⟨L,j⟩=>⟨L,by rw[jZ,if_pos (ck.1 j).1];exact j⟩⟩
 exact l.trans d
theorem rG.use{f:a8}{args:List AV}{e:aS}(h:rG P f args H.length e)(m:pL H e){c:List a5}(n:bP P w ad β H ah)(r:br P w ad β H args c)(o:aR (aG H) args):
 bv P f c.toArray w fun x w'=>∃a aH aD,x=.returned a/\bR P ah ad w β H aD w' aH (bm H e.aJ++e.aQ)/\au P w' aD aH (bm H e.aJ++e.aQ) e.v a/\aC (aG (bm H e.aJ++e.aQ)) e.v:=by
 have aB:=oJ β H e.aQ.length;refine(h.2 (H++cc e.aQ.length .hole) w ad ah β c (n.mS _)
  (br.mono (fun _ x=>x) (fun _ _=>rfl) aB _ _ o r) (aR.mono (mz _ _) _ o)
  (fun p d=>by have:=m.1 p d;rw[jZ,if_pos (ck.1 this).1];exact this)
  (fun i hi=>by rw[jZ,if_neg (by omega),if_pos (by omega)])).mono ?_
 rintro x w' ⟨a,aH,aD,rfl,g,j,k⟩;have s:bm (H++cc e.aQ.length .hole) (e.aJ++newAt H.length e.aQ)=bm H e.aJ++e.aQ:=by
  rw[A4,xA _ _ _ (fun p d=>(m.2 p d).1)];have:=Bj (bm H e.aJ) e.aQ
  rwa [oH]at this
 rw[s]at g j k;have q:bR P ah ad w β H ad w β (H++cc e.aQ.length .hole):=⟨fun _ x=>x,fun _ x=>.inl x,Ext.refl _ _ _,aB,n.mS _,mz _ _,fun b⟨L,l⟩=>⟨L,by rw[jZ,if_pos (ck.1 l).1];exact l⟩⟩
 exact⟨a,aH,aD,rfl,q.trans g,j,k⟩
end
def lJ(P:a0)(ag:a8->Bool):Prop:=
 ∀(o:Oper)(ρ:a9->AV)(H:Heap)(K:aS->Prop),(∀v,ρ (.const v)=.p (ofConst v))->fy P ag o ρ H K->
  ∃e,K e/\bg P o ρ H.length e/\(∀p∈e.ak,H[p.1]?=some p.2)/\(∀p∈e.aJ,p.1<H.length/\p.2≠.hole)
section
variable{P:a0}{ag:a8->Bool}{n:Nat}
theorem Ih{w:a7}{ad:Nat->Prop}(v:a5):aA P w ad (ofConst v) v:=by
 unfold ofConst
 split<;>simp[aA]
theorem nO{ah ad:Nat->Prop}{β:Bd}{s:St}{t:Array a5}{w:a7}(h:cK P n ah ad β s t w)(x:a9):
 au P w ad β s.heap (ev s.env x) (fA t x)/\aC (aG s.heap) (ev s.env x):=by
 cases x with
 |tmp x=>exact⟨h.env x,h.gD x⟩
 |const v=>exact⟨by simp only[ev,fA,au];exact Ih v,by simp[ev,aC]⟩
 |global g=>exact⟨by simp only[ev,fA,au];exact h.heap.ig.val g,by simp[ev,aC]⟩
 |func f=>exact⟨by simp[ev,fA,au,aA,bn],by simp[ev,aC]⟩
def iT(n:Nat)(o:Oper):Bool:=
 match o.dst with
 |some d=>decide (d<n)
 |none=>true
theorem u4(e:Env)(dst:Option Tmp)(v:AV)(x:Nat):aM (put dst v e) x=if dst=some x then v else aM e x:=by
 cases dst with
 |none=>simp[put]
 |some d=>
  simp only[put,aM,Option.some.injEq]
  by_cases h:x=d
  ·simp[h]
  ·simp[h,ei h]
theorem V3{n:Nat}{o:Oper}(a:iT n o=true){t:Array a5}(c:t.size=n)(v:a5)(x:Nat):(ng o.dst v t).getD x undef=if o.dst=some x then v else t.getD x undef:=by
 unfold iT at a;cases b:o.dst with
 |none=>simp[ng]
 |some d=>
  simp only[b,decide_eq_true_eq]at a;simp only[ng,Option.some.injEq]
  by_cases h:d=x
  ·subst h;simp[c,a]
  ·simp only[h,if_false,Array.getD_eq_getD_getElem?,Array.getElem?_setIfInBounds_ne h]
theorem VG{t:Array a5}(dst:Option Tmp)(v:a5):(ng dst v t).size=t.size:=by cases dst<;>simp[ng]
theorem cK.put{ah ad aD:Nat->Prop}{β aH:Bd}{s:St}{H':Heap}{t:Array a5}{w w':a7}{o:Oper}{v:AV}{b:a5}(h:cK P n ah ad β s t w)(c:iT n o=true)
 (a:bR P ah ad w β s.heap aD w' aH H')(e:au P w' aD aH H' v b)(d:aC (aG H') v):
 cK P n ah aD aH ⟨put o.dst v s.env,H'⟩ (ng o.dst b t) w':=by
 refine⟨a.rel,fun x=>?_,fun x=>?_,by rw[VG];exact h.size⟩
 ·rw[u4,V3 c h.size]
  split
  ·exact e
  ·exact au.mono a.bQ (fun k hk=>a.ext.same k (.inr hk)) a.step _ _ (h.gD x) (h.env x)
 ·rw[u4]
  split
  ·exact d
  ·exact aC.mono a.eQ _ (h.gD x)
theorem J1{H T:Heap}{b:Nat×Nat}(h:aG H b):aG (H++T) b:=by
 obtain⟨o,a,c⟩:=h;exact⟨o,by rw[cx (ck.1 a).1];exact a,c⟩
theorem bP.later{ah ad aD:Nat->Prop}{w w':a7}{β:Bd}{H:Heap}(h:bP P w ad β H ah)(e:∀k,ad k->aD k)(hf:∀k,aD k->ad k\/w.heap.size<=k)
 (B:∀k,aD k->k<w'.heap.size)(q:w.heap.size<=w'.heap.size)(hs:∀k,k<w.heap.size->w'.heap[k]?=w.heap[k]?)(A:w'.os=w.os/\w'.output=w.output:=by exact⟨rfl,rfl⟩):bR P ah ad w β H aD w' β H:=by
 have same:∀k,ad k->w'.heap[k]?=w.heap[k]?:=fun k hk=>hs k (h.bQ k hk);refine⟨e,fun k hk=>(hf k hk).imp id (fun c a=>by have:=h.dX k a;omega),⟨q,fun k hk=>hs k (hk.elim (h.dX k) (h.bQ k)),A⟩,b9.refl _ _,?_,fun _ x=>x,fun _ x=>x⟩;refine⟨fun b o m=>?_,fun b b' o o' c a D E C=>h.inj b b' o o' c a D E (fun hi=>C (e _ hi)),h.refs,B,fun k hk=>ed (h.dX k hk) q,h.ig.mono e same⟩;have f:=h.cB b o m;have n:=h.refs b o m;have held:∀fz,o.live->cw ad β ah fz b->cw aD β ah fz b:=by
  intro fz i l;have:=h.mE m i;unfold cw at l⊢;cases fz with
  |true=>exact e _ l
  |false=>exact⟨fun x=>(hf _ x).elim l.1 (by omega),l.2⟩
 have j:o.live->w'.heap[β.al b]?=w.heap[β.al b]?:=fun i=>hs _ (h.mE m i);cases o with
 |hole=>trivial
 |dead=>trivial
 |box fz t=>
  obtain⟨cs,T,c,a,d,g⟩:=f;exact⟨cs,T,(j trivial).trans c,bf.mono e same (b9.refl _ _) _ _ n a,held _ trivial d,g⟩
 |arr k ar ai es=>
  rcases f with f|⟨cs,T,r,rest,c,a,d,g,u,v,y,z⟩
  ·exact .inl f
  ·by_cases i:cX k es
   ·exact .inl i
   ·exact .inr ⟨cs,T,r,rest,(j i).trans c,bJ.mono e same (b9.refl _ _) _ _ _ n a,d,g,u,v,held _ i y,z⟩
 |map fz es=>
  obtain⟨p,clock,c,a,d⟩:=f;exact⟨p,clock,(j trivial).trans c,cz.mono e same _ _ a,held _ trivial d⟩
 |di ks vs=>
  obtain⟨p,clock,c,a,d,g⟩:=f;exact⟨p,clock,(j trivial).trans c,bn.mono e same _ _ a,br.mono e same (b9.refl _ _) _ _ n d,held _ trivial g⟩
 |dt s pos=>
  obtain⟨bs,c,a,d⟩:=f;exact⟨bs,(j trivial).trans c,a,held _ trivial d⟩
 |loop L=>
  obtain⟨tmps,defers,fn,c,a,d,g⟩:=f;exact⟨tmps,defers,fn,(j trivial).trans c,a,fun x=>au.mono e same (b9.refl _ _) _ _ (n x) (d x),held _ trivial g⟩
theorem oL{w:a7}{ad:Nat->Prop}{β:Bd}{H:Heap}:∀{a b:List AV}{x y:List a5},br P w ad β H a x->br P w ad β H b y->br P w ad β H (a++b) (x++y)
 |[],b,x,y,h,c=>by simp only[br]at h;subst h;simpa using c
 |v::a,b,x,y,h,c=>by
  simp only[br]at h;obtain⟨z,f,rfl,d,e⟩:=h;simp only[ea,br];exact⟨z,f++y,rfl,d,oL e c⟩
theorem jB{S:Nat×Nat->Prop}{a b:List AV}(h:aR S a)(d:aR S b):aR S (a++b):=by
 rw[cG]at*;intro v c;rcases List.mem_append.1 c with c|c
 ·exact h v c
 ·exact d v c
theorem u6{ah ad:Nat->Prop}{β:Bd}{s:St}{t:Array a5}{w:a7}(h:cK P n ah ad β s t w):∀l:List a9,
 br P w ad β s.heap (l.map (ev s.env)) (l.map (fA t))/\aR (aG s.heap) (l.map (ev s.env))
 |[]=>by simp[br,aR]
 |x::l=>by
  have a:=nO h x;have b:=u6 h l;simp only[cy,br,aR];exact⟨⟨_,_,rfl,a.1,b.1⟩,a.2,b.2⟩
end
section
variable{P:a0}{w:a7}{ad ah:Nat->Prop}{β:Bd}{H:Heap}
def Bd.at(β:Bd)(b al cap:Nat):Bd:=⟨fun x=>if x=b then al else β.al x,fun x=>if x=b then cap else β.cap x⟩
theorem yc{b:Nat}(f:H[b]?=some .hole)(o':Obj)(al cap:Nat):b9 β H (β.at b al cap) (H.set b o'):=by
 have a:∀{x v},aG H (x,v)->x≠b:=by
  rintro x v ⟨o,d,i⟩ rfl;simp only at d;rw[f]at d;cases d;exact i
 have c:∀{x v},aG H (x,v)->(H.set b o')[x]?=H[x]?:=fun hx=>ce (ei (a hx));refine⟨?_,?_,?_,?_,?_⟩
 ·rintro x hx ⟨fz,t,h⟩;rw[c hx]at h;exact⟨⟨fz,t,h⟩,by simp[Bd.at,a hx]⟩
 ·rintro x hx ⟨fz,t,h⟩;rw[c hx]at h;exact⟨⟨fz,t,h⟩,by simp[Bd.at,a hx]⟩
 ·rintro x hx ⟨o,h,g⟩;rw[c hx]at h;exact⟨⟨o,h,g⟩,by simp[Bd.at,a hx]⟩
 ·intro x ar ai k e hx h;unfold eD at h;rw[c hx]at h;exact⟨k,e,h,eb _,Iff.rfl,fun _=>by simp[Bd.at,a hx]⟩
 ·rintro x hx ⟨L,h⟩;rw[c hx]at h;exact⟨⟨L,h⟩,by simp[Bd.at,a hx]⟩
theorem sO(e:bP P w ad β H ah){a:Nat}(b:H[a]?=some .hole){ob:Go.Obj}{o':Obj}{cap:Nat}
 (g:eZ P {w with heap:=w.heap.push ob} ad (β.at a w.heap.size cap) (H.set a o') ah a o')(h:o'.refs (aG (H.set a o'))):
 bR P ah ad w β H ad {w with heap:=w.heap.push ob} (β.at a w.heap.size cap) (H.set a o'):=by
 refine bR.set e (ck.1 b).1 (fun x hx=>by simp[Bd.at,hx]) (fun _ x=>x) (fun _ x=>.inl x) (fun k hk=>by have:=e.bQ k hk;simp;omega) (by simp)
  (fun k _ hk=>by simp[ax,ee hk]) (fun _=>.inl (by simp[Bd.at])) (yc b _ _ _) g h (fun i v c f=>by rw[b]at c;cases c;exact f.elim) (fun L d=>by rw[b]at d;cases d)
theorem uX(w:a7)(a:Go.Obj){k:Nat}(hk:k<w.heap.size):({w with heap:=w.heap.push a}:a7).heap[k]?=w.heap[k]?:=by
 simp[ax,ee hk]
end
section
variable{P:a0}{w:a7}{ad aD ah:Nat->Prop}{β:Bd}{H:Heap}
def Row(P:a0)(w:a7)(ad:Nat->Prop)(β:Bd)(H:Heap)(ai:Nat)(a:List AV)(b:List (List a5)):Prop:=bJ P w ad β H (cc a.length ai) a b
theorem ib{ai:Nat}{a:List (List a5)}:Row P w ad β H ai [] a↔a=[]:=by simp[Row,bJ]
theorem qu{ai:Nat}{v:AV}{b:List AV}{a:List (List a5)}:Row P w ad β H ai (v::b) a↔∃c cs,a=c::cs/\bf P w ad β H v c/\c.length=ai/\Row P w ad β H ai b cs:=by
 simp[Row,dk,bJ]
theorem ld{ai:Nat}:∀{a b:List AV}{d:List (List a5)},Row P w ad β H ai (a++b) d↔∃c1 c2,d=c1++c2/\Row P w ad β H ai a c1/\Row P w ad β H ai b c2
 |[],b,d=>by
  simp only[List.nil_append];constructor
  ·intro h;exact⟨[],d,rfl,ib.2 rfl,h⟩
  ·rintro⟨c1,c2,rfl,e,f⟩;rw[ib.1 e];simpa using f
 |v::a,b,d=>by
  simp only[ea,qu];constructor
  ·rintro⟨c,cs,rfl,e,f,g⟩;obtain⟨c1,c2,rfl,i,j⟩:=ld.1 g;exact⟨c::c1,c2,rfl,⟨c,c1,rfl,e,f,i⟩,j⟩
  ·rintro⟨c1,c2,rfl,⟨c,cs,rfl,e,f,g⟩,i⟩;exact⟨c,cs++c2,rfl,e,f,ld.2 ⟨cs,c2,rfl,g,i⟩⟩
theorem fK{ai:Nat}:∀{b:List AV}{a:List (List a5)},Row P w ad β H ai b a->a.length=b.length/\a.flatten.length=b.length*ai
 |[],a,h=>by rw[ib]at h;subst h;simp
 |v::b,a,h=>by
  rw[qu]at h;obtain⟨c,cs,rfl,f,d,e⟩:=h;have:=fK e;simp only[dz,List.flatten_cons,dp,this,d,Nat.succ_mul];exact⟨trivial,by omega⟩
theorem lS{ai:Nat}{a:List PV}{b:List (List a5)}:Row P w ad β H ai (a.map .p) b↔aY P w ad (cc a.length ai) a b:=by
 unfold Row;rw[List.length_map];exact nC
theorem jC{ai:Nat}{d:List AV}{e:List (List a5)}(h:Row P w ad β H ai d e)(off len:Nat)(k:off+len<=d.length):
 ∃a b c,e=a++b++c/\Row P w ad β H ai ((d.drop off).take len) b/\a.flatten.length=off*ai/\Row P w ad β H ai (d.take off) a/\Row P w ad β H ai (d.drop (off+len)) c:=by
 have e1:d=d.take off++((d.drop off).take len++d.drop (off+len)):=by
  rw[<-List.drop_drop,db,db]
 rw[e1,ld]at h;obtain⟨a,r,rfl,f,g⟩:=h;rw[ld]at g;obtain⟨b,c,rfl,i,j⟩:=g;refine⟨a,b,c,by simp,i,?_,f,j⟩;have:=(fK f).2;rw[this,List.length_take,Nat.min_eq_left (by omega)]
theorem lM{cs:Array a5}{T:a1}{fz:Nat×Nat}{al:Nat}(a:w.heap[al]?=some (.cells cs T fz)){pre xs post:List a5}(hc:cs.toList=pre++xs++post):
 gM w al pre.length xs:=by
 intro i hi;have:cs[pre.length+i]?=some xs[i]:=by
  rw[<-Array.getElem?_toList,hc,dq,c6 (by omega)];simp only[Nat.add_sub_cancel_left];rw[cx hi,List.getElem?_eq_getElem hi]
 simp[World.cell?,a,this]
theorem A8(a:List PV)(off len:Nat):(((a.map AV.p).drop off).take len)=((a.drop off).take len).map .p:=by
 rw[<-List.map_drop,<-List.map_take]
theorem lT{H:Heap}{b:Nat}{d o:Obj}(c:H[b]?=some d)(e:∀v,d.has v->o.has v):∀x,aG H x->aG (H.set b o) x:=by
 rintro⟨x,v⟩ ⟨f,a,h⟩
 by_cases hx:b=x
 ·subst hx;simp only at a;rw[c]at a;cases a;exact⟨o,by simp only;rw[cv (ck.1 c).1],e v h⟩
 ·exact⟨f,by simp only;rw[ce hx];exact a,h⟩
theorem sr{b:Nat}{o o':Obj}(m:H[b]?=some o)(hk:(∃f g t,o= .box f t/\o'= .box g t)\/(∃k n v z c,o= .arr k v z c/\o'= .arr n v z c/\¬cX k c/\¬cX n c)\/(∃f g c,o= .map f c/\o'= .map g c)):
 b9 β H β (H.set b o'):=by
 have u:b<H.length:=(ck.1 m).1;have i:∀x,x≠b->(H.set b o')[x]?=H[x]?:=fun x hx=>ce (ei hx);have e:(H.set b o')[b]?=some o':=cv u;refine⟨?_,?_,?_,?_,?_⟩
 ·rintro x _ ⟨fz,t,h⟩;refine⟨?_,rfl⟩
  by_cases hx:x=b
  ·subst hx;rw[e]at h;cases h;rcases hk with⟨f,g,l,d,a⟩|⟨_,_,_,_,_,_,a,_⟩|⟨_,_,_,_,a⟩
   ·exact⟨f,l,by rw[m,d]⟩
   ·cases a
   ·cases a
  ·rw[i x hx]at h;exact⟨fz,t,h⟩
 ·rintro x _ ⟨s,p,h⟩;refine⟨?_,rfl⟩
  by_cases hx:x=b
  ·subst hx;rw[e]at h;cases h;rcases hk with⟨f,g,l,d,a⟩|⟨_,_,_,_,_,_,a,_⟩|⟨_,_,_,_,a⟩<;>cases a
  ·rw[i x hx]at h;exact⟨s,p,h⟩
 ·rintro x _ ⟨w,h,j⟩;refine⟨?_,rfl⟩
  by_cases hx:x=b
  ·subst hx;rw[e]at h;cases h;rcases hk with⟨f,g,l,d,a⟩|⟨_,_,_,_,_,_,a,_⟩|⟨f,g,c,d,a⟩
   ·rw[a]at j;exact j.elim
   ·rw[a]at j;exact j.elim
   ·exact⟨o,m,by rw[d];trivial⟩
  ·rw[i x hx]at h;exact⟨w,h,j⟩
 ·intro x ar ai k c _ h
  by_cases hx:x=b
  ·subst hx;unfold eD at h⊢;rw[e]at h;cases h;rcases hk with⟨f,g,l,d,a⟩|⟨k0,n,v,z,y,d,a,q,r⟩|⟨f,g,c,d,a⟩
   ·cases a
   ·cases a;exact⟨k0,c,by rw[m,d],eb _,⟨fun x=>(r x).elim,fun x=>(q x).elim⟩,fun _=>⟨rfl,rfl⟩⟩
   ·cases a
  ·unfold eD at h⊢;rw[i x hx]at h;exact⟨k,c,h,eb _,Iff.rfl,fun _=>⟨rfl,rfl⟩⟩
 ·rintro x _ ⟨L,h⟩;refine⟨?_,rfl⟩
  by_cases hx:x=b
  ·subst hx;rw[e]at h;cases h;rcases hk with⟨f,g,l,d,a⟩|⟨_,_,_,_,_,_,a,_⟩|⟨_,_,_,_,a⟩<;>cases a
  ·rw[i x hx]at h;exact⟨L,h⟩
theorem cw.tF{fz:Bool}{b:Nat}(h:cw ad β ah fz b):ad (β.al b)\/(¬ad (β.al b)/\¬ah (β.al b)):=by
 cases fz with
 |true=>exact .inl h
 |false=>exact .inr h
theorem sB(e:bP P w ad β H ah){b:Nat}{o o':Obj}(f:H[b]?=some o)(r:o.live)(Q:o'.live)(A:∀v,o.has v->o'.has v)(u:∀L,o≠ .loop L)
 (aB:b9 β H β (H.set b o'))(O:ad (β.al b)\/(¬ad (β.al b)/\¬ah (β.al b)))
 (aQ:∀aD:Nat->Prop,(∀k,ad k->aD k)->aD (β.al b)->eZ P w aD β (H.set b o') ah b o')(B:o'.refs (aG (H.set b o'))):
 ∃aD,bR P ah ad w β H aD w β (H.set b o')/\aD (β.al b):=by
 have q:b<H.length:=(ck.1 f).1
 by_cases hi:ad (β.al b)
 ·
  refine⟨ad,?_,hi⟩;have ak:=lT f A;refine⟨fun _ x=>x,fun _ x=>.inl x,Ext.refl _ _ _,aB,⟨?_,?_,?_,e.bQ,e.dX,e.ig⟩,ak,fun x⟨L,j⟩=>⟨L,by
   by_cases hx:b=x
   ·subst hx;rw[f]at j;cases j;exact(u L rfl).elim
   ·rw[ce hx];exact j⟩⟩
  ·intro x l d
   by_cases hx:x=b
   ·subst hx;rw[cv q]at d;cases d;exact aQ ad (fun _ x=>x) hi
   ·rw[ce (ei hx)]at d;have g:=e.cB x l d;have m:=e.refs x l d;cases l with
    |hole=>trivial
    |dead=>trivial
    |box fz t=>
     obtain⟨cs,T,a,c,i⟩:=g;exact⟨cs,T,a,bf.mono (fun _ x=>x) (fun _ _=>rfl) aB _ _ m c,i⟩
    |arr k ar ai es=>
     rcases g with g|⟨cs,T,K,rest,a,c,i⟩
     ·exact .inl g
     ·exact .inr ⟨cs,T,K,rest,a,bJ.mono (fun _ x=>x) (fun _ _=>rfl) aB _ _ _ m c,i⟩
    |map fz es=>exact g
    |di ks vs=>
     obtain⟨M,clock,a,c,i,p⟩:=g;exact⟨M,clock,a,c,br.mono (fun _ x=>x) (fun _ _=>rfl) aB _ _ m i,p⟩
    |dt s pos=>exact g
    |loop L=>
     obtain⟨tmps,defers,fn,a,c,i,p⟩:=g;exact⟨tmps,defers,fn,a,c,fun x=>au.mono (fun _ x=>x) (fun _ _=>rfl) aB _ _ (m x) (i x),p⟩
  ·intro x y E X a c U V R N;have conv:∀(z:Nat)(n:Obj),(H.set b o')[z]?=some n->n.live->∃F:Obj,H[z]?=some F/\F.live:=by
    intro z n C W
    by_cases D:z=b
    ·subst D;exact⟨o,f,r⟩
    ·rw[ce (ei D)]at C;exact⟨n,C,W⟩
   obtain⟨G,I,c1⟩:=conv x E a U;obtain⟨a2,J,c2⟩:=conv y X c V;exact e.inj x y G a2 I J c1 c2 R N
  ·intro x l d
   by_cases hx:x=b
   ·subst hx;rw[cv q]at d;cases d;exact B
   ·rw[ce (ei hx)]at d;exact Obj.vi ak (e.refs x l d)
 ·refine⟨fun k=>ad k\/k=β.al b,?_,.inr rfl⟩;have S:=O.resolve_left hi;exact bR.set e q (fun _ _=>⟨rfl,rfl⟩) (fun _ x=>.inl x) (fun k hk=>hk.imp id (fun h=>⟨h,Q⟩)) (fun k hk=>hk.elim (e.bQ k) (fun h=>h▸e.mE f r)) (eb _)
   (fun _ _ _=>rfl) (fun _=>.inr ⟨rfl,⟨o,f,r⟩,.inl (fun _ _=>rfl),S.2⟩) aB (aQ _ (fun _ x=>.inl x) (.inr rfl)) B (fun E v a c=>by rw[f]at a;cases a;exact A v c) (fun L j=>by rw[f]at j;cases j;exact(u L rfl).elim)
theorem JR{z:AV}{pv:PV}{H1:Heap}{v:a5}(d:kK H z=some (pv,H1))(i:bP P w ad β H ah)(f:au P w ad β H z v)(Z:aC (aG H) z):
 ∃aD,bR P ah ad w β H aD w β H1/\aA P w aD pv v:=by
 cases z with
 |p t=>
  simp[kK]at d;obtain⟨rfl,rfl⟩:=d;exact⟨ad,bR.refl i,by simpa[au]using f⟩
 |sl b ar ai off len=>
  simp only[kK]at d
  split at d
  case h_2=>simp at d
  rename_i k aa W j g
  split at d
  case isFalse=>simp at d
  rename_i O;obtain⟨rfl,rfl,Y⟩:=O;simp only[au]at f;obtain⟨_,f⟩:=f;simp only[bO]at f;obtain⟨v1,v2,v3⟩:=f k j g
  split at d
  ·rename_i u;simp at d;obtain⟨rfl,rfl⟩:=d;exact⟨ad,bR.refl i,by simp[aA,v2 u]⟩
  ·rename_i u
   split at d
   case h_2=>simp at d
   rename_i J R;simp at d;obtain⟨rfl,rfl⟩:=d;have A:=lR R;have E:=i.cB b _ g;rcases E with E|⟨cs,T,F,rest,n,l,r,B,L,M,N,X⟩
   ·exact(u E).elim
   have I:¬cX .frozen j:=fun h=>by cases h.1
   have aB:b9 β H β (H.set b (.arr .frozen ar ai j)):=sr g (.inr (.inl ⟨_,_,_,_,_,rfl,rfl,u,I⟩));obtain⟨aD,q,y⟩:=sB i g u (o':=.arr .frozen ar ai j) I (fun _ h=>h) (fun _ h=>by cases h) aB N.tF
    (fun aD hi x=>.inr ⟨cs,T,F,rest,n,bJ.mono hi (fun _ _=>rfl) aB _ _ _ (i.refs b _ g) l,r,B,L,(fun h=>by cases h),x,fun _ e C=>(by rw[A]at C;simp at C;obtain⟨a,_,rfl⟩:=C;trivial),fun h=>by cases h⟩)
    (by rw[A];exact iZ _ _)
   refine⟨aD,q,?_⟩;rw[v3 u];have S:Row P w aD β H ai j F:=bJ.mono q.bQ (fun _ _=>rfl) (b9.refl _ _) _ _ _ (i.refs b _ g) l;obtain⟨a,m,c,e1,e2,e3,e4,e5⟩:=jC S off len v1;rw[A,A8,lS]at e2;have D:((J.drop off).take len).length=len:=by
    have:j.length=J.length:=by rw[A];simp
    simp;omega
   simp only[aA];refine⟨β.al b,off*ai,β.cap b-off,ai,m,e2,fun _=>y,?_,?_,?_,none,.inl rfl,?_⟩
   ·rw[<-e3];exact lM n (post:=c.flatten++rest) (by rw[r,e1];simp)
   ·intro hf;simp at hf;rw[D,M hf.1];omega
   ·rw[D];omega
   ·rw[D]
 |ptr b path=>
  simp only[kK]at d
  split at d
  case h_2=>simp at d
  rename_i fz t g
  split at d
  case h_2=>simp at d
  rename_i s hs;simp at d;obtain⟨rfl,rfl⟩:=d;simp only[au]at f;obtain⟨_,f⟩:=f;simp only[bO]at f;obtain⟨V,U,o,rfl,Q,f⟩:=f;obtain⟨rfl,rfl⟩:=f (.inl ⟨fz,_,g⟩);obtain⟨cs,T,n,l,r,B⟩:=i.cB b _ g;have aB:b9 β H β (H.set b (.box true (.p t))):=sr g (.inl ⟨_,_,_,rfl,rfl⟩);obtain⟨aD,q,y⟩:=sB i g trivial (o':=.box true (.p t)) trivial (fun _ h=>h) (fun _ h=>by cases h) aB r.tF
   (fun aD hi x=>⟨cs,T,n,bf.mono hi (fun _ _=>rfl) aB _ _ (by simp[aC]) l,x,fun _=>trivial,B.2⟩) (by simp[Obj.refs,aC])
  refine⟨aD,q,?_⟩;have K:aP P w aD t cs.toList:=by simp only[bf]at l;exact aP.mono q.bQ (fun _ _=>rfl) _ _ l
  obtain⟨pre,xs,post,e1,e2,e3⟩:=yr K hs Q;simp only[aA];refine⟨β.al b,U,xs,e3,y,?_,rfl⟩;rw[<-e2];exact lM n e1
 |map b=>
  simp only[kK]at d
  split at d
  case h_2=>simp at d
  rename_i fz j g;simp at d;obtain⟨rfl,rfl⟩:=d;simp only[au]at f;obtain⟨_,f⟩:=f;simp only[bO]at f;have f:=f.1 ⟨_,g,trivial⟩;obtain⟨G,clock,n,l,r⟩:=i.cB b _ g;have aB:b9 β H β (H.set b (.map true j)):=sr g (.inr (.inr ⟨_,_,_,rfl,rfl⟩));obtain⟨aD,q,y⟩:=sB i g trivial (o':=.map true j) trivial (fun _ h=>h) (fun _ h=>by cases h) aB r.tF
   (fun aD hi x=>⟨G,clock,n,cz.mono hi (fun _ _=>rfl) _ _ l,x⟩) trivial
  refine⟨aD,q,?_⟩;simp only[aA];exact⟨β.al b,G,clock,y,n,cz.mono q.bQ (fun _ _=>rfl) _ _ l,f⟩
 |bV=>simp[kK]at d
 |func=>simp[kK]at d
 |st=>simp[kK]at d
 |aE=>simp[kK]at d
end
section
variable{P:a0}{ag:a8->Bool}{n N:Nat}
theorem BE{w:a7}{β:Bd}{ah:Nat->Prop}:∀{e:List AV}{g:List PV}{H H1:Heap}{ad:Nat->Prop}{vs:List a5},mZ H e=some (g,H1)->bP P w ad β H ah->
 br P w ad β H e vs->aR (aG H) e->∃aD,bR P ah ad w β H aD w β H1/\bn P w aD g vs
 |[],g,H,H1,ad,vs,b,h,c,_=>by
  simp[mZ]at b;obtain⟨rfl,rfl⟩:=b;simp only[br]at c;exact⟨ad,bR.refl h,by simpa[bn]using c⟩
 |a::e,g,H,H1,ad,vs,b,h,c,f=>by
  simp only[mZ]at b
  split at b
  case h_2=>simp at b
  rename_i v o j
  split at b
  case h_2=>simp at b
  rename_i r p k;simp at b;obtain⟨rfl,rfl⟩:=b;simp only[br]at c;obtain⟨y,n,rfl,k1,k2⟩:=c;simp only[aR]at f;obtain⟨q,d,l⟩:=JR j h k1 f.1;obtain⟨i,q1,m⟩:=BE k d.rel (br.mono d.bQ (fun _ _=>rfl) d.step _ _ f.2 k2) (aR.mono d.eQ _ f.2);refine⟨i,d.trans q1,?_⟩;simp only[bn];exact⟨y,n,rfl,aA.mono q1.bQ (fun _ _=>rfl) _ _ l,m⟩
def kl(P:a0)(n N:Nat)(fr:bb)(k:List Item)(cs:List bb)(c:Array Oper)(ah ad:Nat->Prop)(w:a7)(β:Bd)(H:Heap)(m:Machine)(r:List Nat)(b:List bk)(K:St->Prop):Prop:=
 ∃s' aD aH a w',K s'/\Steps P m (lone (bw fr a b (.inRegion c r::k)) cs w')/\cK P n ah aD aH s' a w'/\dJ N ah ad w β H ah aD w' aH s'.heap
theorem Td{d:Bool}{o:Oper}{K:St->Prop}{s:St}(h:jw P ag d o K s)(c:Call):o.op≠.defer c:=by
 intro hc;unfold jw at h;rw[hc]at h;simp[fy,hc]at h
variable{fr:bb}{k:List Item}{cs:List bb}{ops:Array Oper}{i:Nat}{r:List Nat}{ds:List bk}
theorem IQ{d:Bool}{o:Oper}{f:a9}{F:Array a9}{Z:Array a1}{g:a8}{fi ca:List AV}{K:St->Prop}{s:St}{ah ad:Nat->Prop}{β:Bd}{t:Array a5}{w:a7}
 (W:o.op=.call {callee:=.value f,args:=F,argTypes:=Z})
 (hf:(ev s.env f=.func g fi ca)\/(∃a b,ev s.env f=.p (.func g a b)/\fi=a.map .p/\ca=b.map .p))
 (h:gP P d g (fi++F.toList.map (ev s.env)++ca) s.heap (fun v H'=>K ⟨put o.dst v s.env,H'⟩))
 (m:cK P n ah ad β s t w)(G:iT n o=true)(C:ops[i]?=some o)(M:b0 o (yielded ops t)=true):
 kl P n N fr k cs ops ah ad w β s.heap (lone (bw fr t ds (.inRegion ops (i::r)::k)) cs w) r ds K:=by
 have E:=nO m f;obtain⟨y,u,al,aj,ai,ap,ao⟩:∃y u:List a5,fA t f=.func (.func g) y.toArray u.toArray/\br P w ad β s.heap fi y/\br P w ad β s.heap ca u/\aR (aG s.heap) fi/\aR (aG s.heap) ca:=by
  rcases hf with hf|⟨a,b,hf,rfl,rfl⟩
  ·rw[hf]at E;simp only[au,aC]at E;obtain⟨⟨y,u,l,j,z⟩,ab,ac⟩:=E;exact⟨y,u,z,l,j,ab,ac⟩
  ·rw[hf]at E;simp only[au,aA]at E;obtain⟨⟨y,u,l,j,z⟩,_⟩:=E;exact⟨y,u,z,jq.2 l,jq.2 j,iZ _ _,iZ _ _⟩
 obtain⟨af,ag⟩:=u6 m F.toList;have D:=oL (oL aj af) ai;have Q:=jB (jB ap ag) ao;have q:(be (fA t) o).run P w=(callFunc g (y++F.toList.map (fA t)++u).toArray).run P w:=by
  simp only[be,W,resolve,al,Deferred.ofValue,Sem.run_bind,Sem.run_pure,Result.andThen_ok,invoke];congr 2;simp
 have L:∀c,o.op≠.defer c:=fun c hc=>by rw[W]at hc;cases hc
 have pure:∀(H1:Heap)(B:Nat->Prop)(vs:List PV)(v:PV),bR P ah ad w β s.heap B w β H1->bn P w B vs (y++F.toList.map (fA t)++u)->aw P g vs v->
  K ⟨put o.dst (.p v) s.env,H1⟩->kl P n N fr k cs ops ah ad w β s.heap (lone (bw fr t ds (.inRegion ops (i::r)::k)) cs w) r ds K:=by
  intro H1 B vs v A Y I U;rcases I with⟨R,I⟩|I
  ·rw[R]at q;obtain⟨e,w',S,⟨O,aD,H,g1,g2,g3,g4,g5,aa,g6⟩,aB,V,J⟩:=I w B _ A.rel.bQ A.rel.ig Y (bw fr t ds (.inRegion ops (i::r)::k)::cs);subst H;have X:=A.trans (A.rel.later g1 g2 g3 g4 g5 aa);refine⟨_,aD,β,_,w',U,?_,m.put G X (by simpa[au]using g6) (by simp[aC]),X.fe⟩;rw[<-nq C];exact(b3 (uU C M L q)).trans (b2 aB (.one (bi J)))
  ·obtain⟨O,l,j⟩:=I w B _ Y;rw[l]at q;exact⟨_,B,β,_,w,U,.one (sy C M L q (.inl rfl)),m.put G A (by simpa[au]using j) (by simp[aC]),A.fe⟩
 rcases h with⟨vs,v,l,j,z⟩|⟨_,⟨vs,H1,v,l,j,z⟩|⟨H',v,⟨R,l⟩,j⟩|⟨e,T,an,j⟩|⟨ak,v,ae,am,j⟩⟩
 ·exact pure s.heap ad vs v (bR.refl m.heap) (by rw[l]at D;exact jq.1 D) j z
 ·obtain⟨B,aq,ar⟩:=BE l m.heap D Q;exact pure H1 B vs v aq ar j z
 ·rw[R]at q;obtain⟨e,w',S,⟨O,aH,aD,H,g1,g2,g3⟩,aB,V,J⟩:=l w ad ah β _ m.heap D Q (bw fr t ds (.inRegion ops (i::r)::k)::cs);subst H;refine⟨_,aD,aH,_,w',j,?_,m.put G g1 g2 g3,g1.fe⟩;rw[<-nq C];exact(b3 (uU C M L q)).trans (b2 aB (.one (bi J)))
 ·rw[T.1]at q;obtain⟨x,w',S,⟨O,aH,aD,H,g1,g2,g3⟩,aB,V,J⟩:=T.use an m.heap D Q (bw fr t ds (.inRegion ops (i::r)::k)::cs);subst H;refine⟨_,aD,aH,_,w',j,?_,m.put G g1 g2 g3,g1.fe⟩;rw[<-nq C];exact(b3 (uU C M L q)).trans (b2 aB (.one (bi J)))
 ·obtain⟨O,l,z⟩:=ae s.heap w ad ah β _ m.heap D Q am;rw[l]at q;have A:=bR.refl m.heap;exact⟨_,ad,β,_,w,j,.one (sy C M L q (.inl rfl)),m.put G A (by simpa[au]using z) (by simp[aC]),A.fe⟩
end
end Go.aj
