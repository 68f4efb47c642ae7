import Derived.Calls
import Derived.Laws.Sem
import Derived.IntWalk
import Derived.Laws.Cells
import Derived.Laws.CopyRow
import Derived.Laws.Entries
/- Parts of a proof. -/
set_option linter.unusedSimpArgs false
set_option linter.unusedVariables false
set_option linter.unusedSectionVars false
open Array renaming getElem?_eq_some_iff->av, getElem?_push->ax, toList->ay
open BitVec renaming ofInt->aT
open Go renaming Program->a0, TypeId->a1, Value->a5, step_lone_go->a6, World->a7, FuncId->a8, Operand->a9, Frame->bb, execOp->be, step_leave_returned->bi, Deferred->bk, MapEntry->bl, IntKind->bo, Calls->bv
open Go.Region renaming wanted->b0, binds->b1
open Go.Steps renaming trans->b2, one->b3
open Go.stepG renaming exec->b4, apply->b5, oper->cb
open List renaming replicate->cc, getElem?_set_ne->ce, getElem?_eq_some_iff->ck, getElem?_set_self->cv, getElem?_append_left->cx, map_cons->cy, getElem?_append_right->c6, mem_or_eq_of_mem_set->c9, length_eq_zero_iff->da, take_append_drop->db, mem_of_getElem?->dg, replicate_succ->dk, set_cons_zero->dl, length_append->dp, append_assoc->dq, length_cons->dz, cons_append->ea
open Nat renaming le_refl->eb, le_trans->ec, lt_of_lt_of_le->ed, ne_of_lt->ee
open Ne renaming symm->ei
namespace Go.al
set_option linter.unusedSectionVars false
inductive PV where
 |undef
 |bool (b:Bool)
 |int (k:bo) (n:Int)
 |str (s:List Nat)
 |dw
 |b6 (t:PV)
 |aR
 |bH (full:Bool) (es:List PV)
 |seq (es:List PV)
 |fh
 |eL (es:List (PV×PV))
 |func (f:a8) (first gM:List PV)
 |gP
 |fG
 |st (u:a1) (fs:List PV)
 |aE (vs:List PV)
 deriving Inhabited
inductive AV where
 |p (v:PV)
 |ptr (b:Nat) (path:List (a1×Nat))
 |bQ (b ar ai i:Nat) (path:List (a1×Nat))
 |sl (b ar ai off len:Nat)
 |map (b:Nat)
 |func (f:a8) (first gM:List AV)
 |st (u:a1) (fs:List AV)
 |aE (vs:List AV)
 deriving Inhabited
inductive AK where|exact|grow|frozen|bytes
 deriving DecidableEq
def AK.gr:AK->Bool
 | .grow| .bytes=>true
 |_=>false
structure ef where
 st:LoopState
 pending:Option Code
 n:Nat
 params:List Tmp
 assign:Code
 body:Code
 env:List (Nat×AV)
inductive Obj where
 |hole
 |dead
 |box (fz:Bool) (t:AV)
 |arr (k:AK) (ar ai:Nat) (es:List AV)
 |map (fz:Bool) (es:List (PV×PV))
 |cZ (ks:List PV) (vs:List AV)
 |dd (s:List Nat) (pos:Nat)
 |loop (L:ef)
 deriving Inhabited
abbrev Heap:=List Obj
abbrev Env:=List (Nat×AV)
structure St where
 env:Env
 heap:Heap
def aK(e:Env)(t:Nat):AV:=
 match e with
 |[]=>.p .undef
 |(k,v)::r=>if t=k then v else aK r t
inductive iN where|bad|leaf|agg (u:a1)
 deriving DecidableEq
def aJ:PV->iN
 | .undef| .aE _=>.bad
 | .st u _=>.agg u
 |_=>.leaf
def ad:AV->iN
 | .p v=>aJ v
 | .aE _=>.bad
 | .st u _=>.agg u
 |_=>.leaf
def cj:PV->List PV
 | .st _ fs=>fs
 |_=>[]
section tables
variable(P:a0)
def dC(u:a1):Option (List Nat):=
 match(P.info? u).map (fun i:TypeInfo=>i.desc)with
 |some (.struct fs)=>
  let l:=fs.toList.map fun f=>P.cellsOf f.type
  if l.all (0<·)&&l.sum==P.cellsOf u&&(fs.toList.zipIdx.all fun(f,i)=>f.offset==(l.take i).sum)then some l else none
 |some (.array n e)=>if 0<P.cellsOf e&&n*P.cellsOf e==P.cellsOf u then some (cc n (P.cellsOf e))else none
 |_=>none
def kindOf(T:a1):iN:=
 match P.underlying T with
 |some (.struct _)|some (.array _ _)=>
  if(dC P (P.underlyingId T)).isSome&&P.cellsOf T==P.cellsOf (P.underlyingId T)then .agg (P.underlyingId T)else .bad
 |some _=>if P.cellsOf T==1 then .leaf else .bad
 |none=>.bad
def bB:iN->Nat
 | .bad=>0
 | .leaf=>1
 | .agg u=>P.cellsOf u
def iS(u:a1):List a1:=
 match(P.info? u).map (fun i:TypeInfo=>i.desc)with
 |some (.struct fs)=>fs.toList.map (·.type)
 |some (.array n e)=>cc n e
 |_=>[]
end tables
def ofConst:a5->PV
 | .bool b=>.bool b
 | .int k n=>.int k n
 | .string s=>.str (s.data.toList.map (·.toNat))
 | .pointer none=>.dw
 | .slice none 0 0=>.aR
 | .map none=>.fh
 | .nilFunc=>.gP
 | .nilIface=>.fG
 |_=>.undef
def n6(P:a0)(a:a1->List a5->Option PV):List a1->List Nat->List a5->Option (List PV)
 |[],[],[]=>some []
 |T::b,s::c,cs=>
  if(cs.take s).length=s then
   match a T (cs.take s),n6 P a b c (cs.drop s)with
   |some v,some vs=>if bB P (aJ v)=s then some (v::vs)else none
   |_,_=>none
  else none
 |_,_,_=>none
def sC(P:a0):Nat->a1->List a5->Option PV
 |0,_,_=>none
 |n+1,T,cs=>
  match kindOf P T with
  | .leaf=>match cs with
   |[c]=>match ofConst c with
    | .undef=>none
    |v=>some v
   |_=>none
  | .agg u=>match dC P u with
   |some l=>
    match n6 P (sC P n) (iS P u) l cs with
    |some fs=>some (.st u fs)
    |none=>none
   |none=>none
  | .bad=>none
def yI:a5->iN->Bool
 | .agg _,.agg _=>true
 | .agg _,_=>false
 |_,.agg _=>false
 |_,_=>true
def cE(P:a0)(T:a1):Option PV:=
 match(P.info? T).bind (·.zero)with
 |some z=>if yI z (kindOf P T)then sC P 40 T z.cells.toList else none
 |none=>none
section relation
variable(P:a0)(w:a7)(aa:Nat->Prop)
def gu(ak off:Nat)(cs:List a5):Prop:=∀i(h:i<cs.length),w.cell? ⟨ak,off+i,none⟩=some cs[i]
mutual
def aU:PV->List a5->Prop
 | .undef,_| .aE _,_=>False
 | .bool b,cs=>cs=[.bool b]
 | .int k n,cs=>cs=[.int k n]
 | .str s,cs=>∃bs:ByteArray,cs=[.string bs]/\s=bs.data.toList.map (·.toNat)
 | .dw,cs=>cs=[.pointer none]
 | .b6 t,cs=>∃ak off ts,aU t ts/\aa ak/\gu w ak off ts/\cs=[.pointer (some ⟨ak,off,none⟩)]
 | .aR,cs=>cs=[.slice none 0 0]
 | .bH full es,cs=>∃ak off cap ai a,aY (cc es.length ai) es a/\(es≠[]->aa ak)/\gu w ak off a.flatten/\
  (full=true->cap=es.length)/\es.length<=cap/\∃sp,(sp=none\/cap=0)/\cs=[.slice (some ⟨ak,off,sp⟩) es.length cap]
 | .seq es,cs=>(es=[]/\cs=[.slice none 0 0])\/∃ak off cap ai a,aY (cc es.length ai) es a/\(es≠[]->aa ak)/\gu w ak off a.flatten/\
  es.length<=cap/\∃sp,(sp=none\/cap=0)/\cs=[.slice (some ⟨ak,off,sp⟩) es.length cap]
 | .fh,cs=>cs=[.map none]
 | .eL es,cs=>∃r h j,aa r/\w.heap[r]?=some (.map h j)/\b9 es h.toList/\cs=[.map (some r)]
 | .func f first gM,cs=>∃i g,bm first i/\bm gM g/\cs=[.func (.func f) i.toArray g.toArray]
 | .gP,cs=>cs=[.nilFunc]
 | .fG,cs=>cs=[.nilIface]
 | .st u fs,cs=>∃l a,dC P u=some l/\aY l fs a/\cs=a.flatten
def aY:List Nat->List PV->List (List a5)->Prop
 |[],[],a=>a=[]
 |n::p,v::vs,a=>∃c cs,a=c::cs/\aU v c/\c.length=n/\aY p vs cs
 |_,_,_=>False
def aA:PV->a5->Prop
 | .undef,_=>True
 | .aE vs,v=>∃d,bm vs d/\v=.tuple d.toArray
 | .st u fs,v=>∃l a,dC P u=some l/\aY l fs a/\v=.agg a.flatten.toArray
 | .bool b,v=>v=.bool b
 | .int k n,v=>v=.int k n
 | .str s,v=>∃bs:ByteArray,v=.string bs/\s=bs.data.toList.map (·.toNat)
 | .dw,v=>v=.pointer none
 | .b6 t,v=>∃ak off ts,aU t ts/\aa ak/\gu w ak off ts/\v=.pointer (some ⟨ak,off,none⟩)
 | .aR,v=>v=.slice none 0 0
 | .bH full es,v=>∃ak off cap ai a,aY (cc es.length ai) es a/\(es≠[]->aa ak)/\gu w ak off a.flatten/\
  (full=true->cap=es.length)/\es.length<=cap/\∃sp,(sp=none\/cap=0)/\v=.slice (some ⟨ak,off,sp⟩) es.length cap
 | .seq es,v=>(es=[]/\v= .slice none 0 0)\/∃ak off cap ai a,aY (cc es.length ai) es a/\(es≠[]->aa ak)/\gu w ak off a.flatten/\
  es.length<=cap/\∃sp,(sp=none\/cap=0)/\v=.slice (some ⟨ak,off,sp⟩) es.length cap
 | .fh,v=>v=.map none
 | .eL es,v=>∃r h j,aa r/\w.heap[r]?=some (.map h j)/\b9 es h.toList/\v=.map (some r)
 | .func f first gM,v=>∃i g,bm first i/\bm gM g/\v=.func (.func f) i.toArray g.toArray
 | .gP,v=>v=.nilFunc
 | .fG,v=>v=.nilIface
def bm:List PV->List a5->Prop
 |[],d=>d=[]
 |v::vs,d=>∃y o,d=y::o/\aA v y/\bm vs o
def b9:List (PV×PV)->List bl->Prop
 |[],es=>es=[]
 |(k,v)::r,es=>∃e m,es=e::m/\aA k e.key/\aA v e.val/\b9 r m
end
end relation
class Gl where
 g:Nat->PV
 u8:a1
 raw:Nat->Option (Array a5)
 bx:a1->Option a1
def iK[Gl](T:a1)(s:iN):Bool:=match s with
 | .agg u=>match Gl.bx u with
  |some a=>Nat.beq T a
  |none=>true
 |_=>true
structure l8[Gl](P:a0)(w:a7)(aa:Nat->Prop):Prop where
 val:∀g,aA P w aa (Gl.g g) (.pointer (some ⟨g,0,none⟩))
 raw:∀g cs,Gl.raw g=some cs->aa g/\∃T,w.heap[g]?=some (.cells cs T (0,0))
end Go.al
namespace Go.al
variable[Gl]
structure Bd where
 ak:Nat->Nat
 cap:Nat->Nat
def fK(P:a0):List (a1×Nat)->Option Nat
 |[]=>some 0
 |(u,i)::r=>
  match dC P u,fK P r with
  |some l,some o=>if i<l.length then some ((l.take i).sum+o)else none
  |_,_=>none
def Obj.tP:Obj->Prop
 | .map _ _| .cZ _ _=>True
 |_=>False
section
variable(P:a0)(w:a7)(aa:Nat->Prop)(β:Bd)(H:Heap)
def l6(b:Nat):Prop:=∃fz t,H[b]?=some (.box fz t)
def et(b ar ai:Nat)(k:AK)(a:List AV):Prop:=H[b]?=some (.arr k ar ai a)
def cO(k:AK)(a:List AV):Prop:=k.gr=true/\a=[]
def mX(b:Nat):Prop:=∃o,H[b]?=some o/\o.tP
def l7(b:Nat):Prop:=(∃s pos,H[b]?=some (.dd s pos))
def gv(b:Nat):Prop:=(∃L,H[b]?=some (.loop L))
def bK:AV->a5->Prop
 | .ptr b path,v=>∃ak off o,v=.pointer (some ⟨ak,off,none⟩)/\fK P path=some o/\(l6 H b\/l7 H b->ak=β.ak b/\off=o)
 | .bQ b ar ai i path,v=>∃ak off o,v=.pointer (some ⟨ak,off,none⟩)/\fK P path=some o/\∀k a,et H b ar ai k a->¬cO k a->ak=β.ak b/\off=i*ai+o
 | .sl b ar ai off len,v=>∀k a,et H b ar ai k a->
  off+len<=a.length/\(cO k a->v=.slice none 0 0)/\(¬cO k a->v=.slice (some ⟨β.ak b,off*ai,none⟩) len (β.cap b-off))
 | .map b,v=>(mX H b->v=.map (some (β.ak b)))/\(gv H b->v=.func (.yield (β.ak b)) #[] #[])
 |_,_=>False
def bG(v:AV)(x:a5):Prop:=x.oneCell'=true/\bK P β H v x
mutual
def bd:AV->List a5->Prop
 | .p t,cs=>aU P w aa t cs
 | .st u fs,cs=>∃l a,dC P u=some l/\bF l fs a/\cs=a.flatten
 | .func f first gM,cs=>∃e d,bp first e/\bp gM d/\cs=[.func (.func f) e.toArray d.toArray]
 | .aE _,_=>False
 | .ptr b path,cs=>∃v,cs=[v]/\bG P β H (.ptr b path) v
 | .bQ b ar ai i path,cs=>∃v,cs=[v]/\bG P β H (.bQ b ar ai i path) v
 | .sl b ar ai off len,cs=>∃v,cs=[v]/\bG P β H (.sl b ar ai off len) v
 | .map b,cs=>∃v,cs=[v]/\bG P β H (.map b) v
def bF:List Nat->List AV->List (List a5)->Prop
 |[],[],a=>a=[]
 |n::h,v::vs,a=>∃c cs,a=c::cs/\bd v c/\c.length=n/\bF h vs cs
 |_,_,_=>False
def au:AV->a5->Prop
 | .p t,v=>aA P w aa t v
 | .st u fs,v=>∃l a,dC P u=some l/\bF l fs a/\v=.agg a.flatten.toArray
 | .func f first gM,v=>∃e d,bp first e/\bp gM d/\v=.func (.func f) e.toArray d.toArray
 | .aE vs,v=>∃xs,bp vs xs/\v=.tuple xs.toArray
 | .ptr b path,v=>bG P β H (.ptr b path) v
 | .bQ b ar ai i path,v=>bG P β H (.bQ b ar ai i path) v
 | .sl b ar ai off len,v=>bG P β H (.sl b ar ai off len) v
 | .map b,v=>bG P β H (.map b) v
def bp:List AV->List a5->Prop
 |[],xs=>xs=[]
 |v::vs,xs=>∃y g,xs=y::g/\au v y/\bp vs g
end
mutual
def aB(n:Nat×Nat->Prop):AV->Prop
 | .p _=>True
 | .ptr b _| .map b=>n (b,0)
 | .bQ b ar _ _ _| .sl b ar _ _ _=>n (b,ar)
 | .func _ first gM=>aQ n first/\aQ n gM
 | .st _ fs=>aQ n fs
 | .aE vs=>aQ n vs
def aQ(n:Nat×Nat->Prop):List AV->Prop
 |[]=>True
 |v::vs=>aB n v/\aQ n vs
end
def Obj.has:Obj->Nat->Prop
 | .hole,_=>False
 | .arr _ ar _ _,v=>v<=ar
 |_,_=>True
def aF(H:Heap)(x:Nat×Nat):Prop:=∃o,H[x.1]?=some o/\o.has x.2
def AV.qP:AV->Prop
 | .p _=>True
 |_=>False
def Obj.refs(n:Nat×Nat->Prop):Obj->Prop
 | .box _ t=>aB n t
 | .arr _ _ _ es=>aQ n es
 | .cZ _ vs=>aQ n vs
 | .loop L=>∀x,aB n (aK L.env x)
 |_=>True
def Obj.live:Obj->Prop
 | .hole| .dead=>False
 | .arr k _ _ es=>¬cO k es
 |_=>True
variable(ah:Nat->Prop)
def b8(fz:Bool)(b:Nat):Prop:=if fz then aa (β.ak b)else¬aa (β.ak b)/\¬ah (β.ak b)
def eP(b:Nat):Obj->Prop
 | .hole| .dead=>True
 | .box fz t=>∃cs T,w.heap[β.ak b]?=some (.cells cs T (0,0))/\bd P w aa β H t cs.toList/\b8 aa β ah fz b/\(fz=true->t.qP)/\iK T (ad t)=true
 | .arr k _ver ai es=>cO k es\/
  ∃cs T d f,w.heap[β.ak b]?=some (.cells cs T (0,0))/\bF P w aa β H (cc es.length ai) es d/\cs.toList=d.flatten++f/\
   cs.size=β.cap b*ai/\es.length<=β.cap b/\(k=.exact->β.cap b=es.length)/\b8 aa β ah (k== .frozen) b/\(k=.frozen->∀e∈es,e.qP)/\(k=.bytes->T=Gl.u8)
 | .map fz es=>∃a c,w.heap[β.ak b]?=some (.map a c)/\b9 P w aa es a.toList/\b8 aa β ah fz b
 | .cZ ks vs=>∃a c,w.heap[β.ak b]?=some (.map a c)/\bm P w aa ks (a.toList.map (·.key))/\bp P w aa β H vs (a.toList.map (·.val))/\b8 aa β ah false b
 | .dd s pos=>∃bs:ByteArray,w.heap[β.ak b]?=some (.stringIter bs pos)/\s=bs.data.toList.map (·.toNat)/\b8 aa β ah false b
 | .loop L=>∃tmps defers fn,w.heap[β.ak b]?=some (.loop {state:=L.st,pending:=L.pending,fn,tmps,params:=L.params.toArray,assign:=L.assign,body:=L.body,defers})/\tmps.size=L.n/\
  (∀x,au P w aa β H (aK L.env x) (tmps.getD x undef))/\b8 aa β ah false b
structure bL:Prop where
 cg:∀b o,H[b]?=some o->eP P w aa β H ah b o
 inj:∀b b' o o',H[b]?=some o->H[b']?=some o'->o.live->o'.live->¬aa (β.ak b)->β.ak b=β.ak b'->b=b'
 refs:∀(b:Nat)(o:Obj),H[b]?=some o->o.refs (aF H)
 bM:∀k,aa k->k<w.heap.size
 dQ:∀k,ah k->k<w.heap.size
 gO:l8 P w aa
end
structure Ext(ah aa:Nat->Prop)(w w':a7):Prop where
 size:w.heap.size<=w'.heap.size
 same:∀k,ah k\/aa k->w'.heap[k]?=w.heap[k]?
 io:w'.os=w.os/\w'.output=w.output
structure bW(β:Bd)(H:Heap)(aG:Bd)(H':Heap):Prop where
 box:∀b,aF H (b,0)->l6 H' b->l6 H b/\aG.ak b=β.ak b
 it:∀b,aF H (b,0)->l7 H' b->l7 H b/\aG.ak b=β.ak b
 map:∀b,aF H (b,0)->mX H' b->mX H b/\aG.ak b=β.ak b
 arr:∀b ar ai k es,aF H (b,ar)->et H' b ar ai k es->∃k0 gd,et H b ar ai k0 gd/\gd.length<=es.length/\(cO k es↔cO k0 gd)/\(¬cO k es->aG.ak b=β.ak b/\aG.cap b=β.cap b)
 loop:∀b,aF H (b,0)->gv H' b->gv H b/\aG.ak b=β.ak b
theorem bW.refl(β:Bd)(H:Heap):bW β H β H:=
 ⟨fun _ _ h=>⟨h,rfl⟩,fun _ _ h=>⟨h,rfl⟩,fun _ _ h=>⟨h,rfl⟩,fun _ _ _ k a _ h=>⟨k,a,h,eb _,Iff.rfl,fun _=>⟨rfl,rfl⟩⟩,fun _ _ h=>⟨h,rfl⟩⟩
theorem Ext.refl(ah aa:Nat->Prop)(w:a7):Ext ah aa w w:=⟨eb _,fun _ _=>rfl,rfl,rfl⟩
section mono
variable{P:a0}{w w':a7}{aa aD:Nat->Prop}
theorem UM{ak off:Nat}(h:w'.heap[ak]?=w.heap[ak]?):w'.cell? ⟨ak,off,none⟩=w.cell? ⟨ak,off,none⟩:=by
 simp[World.cell?,h]
theorem gu.same{ak off:Nat}{cs:List a5}(h:w'.heap[ak]?=w.heap[ak]?)(hc:gu w ak off cs):gu w' ak off cs:=
 fun i hi=>(UM h).trans (hc i hi)
theorem tV{n:List Nat}{a:List (List a5)}(h:aY P w aa n [] a):a=[]:=by
 cases n<;>simp[aY]at h;exact h
variable(hI:∀k,aa k->aD k)(hs:∀k,aa k->w'.heap[k]?=w.heap[k]?)
include hI hs
mutual
theorem aU.mono:∀(v:PV)(cs:List a5),aU P w aa v cs->aU P w' aD v cs
 | .undef,_,h| .aE _,_,h=>by simp[aU]at h
 | .bool _,_,h| .int _ _,_,h| .str _,_,h| .dw,_,h| .aR,_,h| .fh,_,h| .gP,_,h| .fG,_,h=>by simpa[aU]using h
 | .b6 t,cs,h=>by
  simp only[aU]at h⊢;obtain⟨ak,off,ts,a,b,d,j⟩:=h;exact⟨ak,off,ts,aU.mono t ts a,hI _ b,d.same (hs _ b),j⟩
 | .bH full o,cs,h=>by
  simp only[aU]at h⊢;obtain⟨ak,off,cap,ai,g,a,b,d,j⟩:=h;refine⟨ak,off,cap,ai,g,aY.mono _ o g a,fun m=>hI _ (b m),?_,j⟩
  by_cases m:o=[]
  ·subst m;have:=tV a;subst this;intro i hi;simp at hi
  ·exact d.same (hs _ (b m))
 | .seq o,cs,h=>by
  simp only[aU]at h⊢;rcases h with h|⟨ak,off,cap,ai,g,a,b,d,j⟩
  ·exact .inl h
  refine .inr ⟨ak,off,cap,ai,g,aY.mono _ o g a,fun m=>hI _ (b m),?_,j⟩
  by_cases m:o=[]
  ·subst m;have:=tV a;subst this;intro i hi;simp at hi
  ·exact d.same (hs _ (b m))
 | .eL o,cs,h=>by
  simp only[aU]at h⊢;obtain⟨r,p,clock,a,b,d,j⟩:=h;exact⟨r,p,clock,hI _ a,(hs _ a).trans b,b9.mono o _ d,j⟩
 | .func f first gM,cs,h=>by
  simp only[aU]at h⊢;obtain⟨z,s,a,b,d⟩:=h;exact⟨z,s,bm.mono first z a,bm.mono gM s b,d⟩
 | .st u fs,cs,h=>by
  simp only[aU]at h⊢;obtain⟨l,g,a,b,d⟩:=h;exact⟨l,g,a,aY.mono l fs g b,d⟩
theorem aY.mono:∀(l:List Nat)(vs:List PV)(g:List (List a5)),aY P w aa l vs g->aY P w' aD l vs g
 |[],[],_,h=>by simpa[aY]using h
 |[],_::_,_,h=>by simp[aY]at h
 |_::_,[],_,h=>by simp[aY]at h
 |n::B,v::vs,g,h=>by
  simp only[aY]at h⊢;obtain⟨c,cs,a,b,d,j⟩:=h;exact⟨c,cs,a,aU.mono v c b,d,aY.mono B vs cs j⟩
theorem aA.mono:∀(v:PV)(x:a5),aA P w aa v x->aA P w' aD v x
 | .undef,_,h=>by simp[aA]
 | .aE vs,x,h=>by
  simp only[aA]at h⊢;obtain⟨q,a,b⟩:=h;exact⟨q,bm.mono vs q a,b⟩
 | .bool _,_,h| .int _ _,_,h| .str _,_,h| .dw,_,h| .aR,_,h| .fh,_,h| .gP,_,h| .fG,_,h=>by simpa[aA]using h
 | .b6 t,cs,h=>by
  simp only[aA]at h⊢;obtain⟨ak,off,ts,a,b,d,j⟩:=h;exact⟨ak,off,ts,aU.mono t ts a,hI _ b,d.same (hs _ b),j⟩
 | .bH full o,cs,h=>by
  simp only[aA]at h⊢;obtain⟨ak,off,cap,ai,g,a,b,d,j⟩:=h;refine⟨ak,off,cap,ai,g,aY.mono _ o g a,fun m=>hI _ (b m),?_,j⟩
  by_cases m:o=[]
  ·subst m;have:=tV a;subst this;intro i hi;simp at hi
  ·exact d.same (hs _ (b m))
 | .seq o,cs,h=>by
  simp only[aA]at h⊢;rcases h with h|⟨ak,off,cap,ai,g,a,b,d,j⟩
  ·exact .inl h
  refine .inr ⟨ak,off,cap,ai,g,aY.mono _ o g a,fun m=>hI _ (b m),?_,j⟩
  by_cases m:o=[]
  ·subst m;have:=tV a;subst this;intro i hi;simp at hi
  ·exact d.same (hs _ (b m))
 | .eL o,cs,h=>by
  simp only[aA]at h⊢;obtain⟨r,p,clock,a,b,d,j⟩:=h;exact⟨r,p,clock,hI _ a,(hs _ a).trans b,b9.mono o _ d,j⟩
 | .func f first gM,cs,h=>by
  simp only[aA]at h⊢;obtain⟨z,s,a,b,d⟩:=h;exact⟨z,s,bm.mono first z a,bm.mono gM s b,d⟩
 | .st u fs,cs,h=>by
  simp only[aA]at h⊢;obtain⟨l,g,a,b,d⟩:=h;exact⟨l,g,a,aY.mono l fs g b,d⟩
theorem bm.mono:∀(vs:List PV)(q:List a5),bm P w aa vs q->bm P w' aD vs q
 |[],_,h=>by simpa[bm]using h
 |v::vs,q,h=>by
  simp only[bm]at h⊢;obtain⟨y,A,a,b,d⟩:=h;exact⟨y,A,a,aA.mono v y b,bm.mono vs A d⟩
theorem b9.mono:∀(o:List (PV×PV))(p:List bl),b9 P w aa o p->b9 P w' aD o p
 |[],_,h=>by simpa[b9]using h
 |(k,v)::r,p,h=>by
  simp only[b9]at h⊢;obtain⟨e,rest,a,b,d,j⟩:=h;exact⟨e,rest,a,aA.mono k _ b,aA.mono v _ d,b9.mono r rest j⟩
end
theorem l8.mono(h:l8 P w aa):l8 P w' aD:=⟨fun g=>aA.mono hI hs _ _ (h.val g),fun g cs c=>by
 obtain⟨a,T,b⟩:=h.raw g cs c;exact⟨hI _ a,T,(hs _ a).trans b⟩⟩
variable{β aG:Bd}{H H':Heap}(aH:bW β H aG H')
include aH
omit hI hs in
theorem bK.mono:∀(v:AV)(x:a5),aB (aF H) v->bK P β H v x->bK P aG H' v x
 | .ptr b path,x,d,h=>by
  simp only[bK,aB]at*;obtain⟨ak,off,o,c,f,g⟩:=h;refine⟨ak,off,o,c,f,fun a=>?_⟩;rcases a with a|a
  ·obtain⟨k1,k2⟩:=aH.box b d a;rw[k2];exact g (.inl k1)
  ·obtain⟨k1,k2⟩:=aH.it b d a;rw[k2];exact g (.inr k1)
 | .bQ b ar ai i path,x,d,h=>by
  simp only[bK,aB]at*;obtain⟨ak,off,o,g1,g2,g3⟩:=h;refine⟨ak,off,o,g1,g2,fun k l a e=>?_⟩;obtain⟨k0,gd,c,f,g,j⟩:=aH.arr b ar ai k l d a;rw[(j e).1];exact g3 k0 gd c (fun m=>e (g.2 m))
 | .sl b ar ai off len,x,d,h=>by
  simp only[bK,aB]at*;intro k l a;obtain⟨k0,gd,c,f,g,j⟩:=aH.arr b ar ai k l d a;obtain⟨r,n,q⟩:=h k0 gd c;refine⟨by omega,fun e=>n (g.1 e),fun e=>?_⟩;rw[(j e).1,(j e).2];exact q (fun m=>e (g.2 m))
 | .map b,x,d,h=>by
  simp only[bK,aB]at*;refine⟨fun a=>?_,fun a=>?_⟩
  ·obtain⟨c,f⟩:=aH.map b d a;rw[f];exact h.1 c
  ·obtain⟨c,f⟩:=aH.loop b d a;rw[f];exact h.2 c
 | .p _,_,_,h| .st _ _,_,_,h| .func _ _ _,_,_,h| .aE _,_,_,h=>by simp[bK]at h
omit hI hs in
theorem bG.mono(v:AV)(x:a5)(a:aB (aF H) v)(h:bG P β H v x):bG P aG H' v x:=⟨h.1,bK.mono aH v x a h.2⟩
mutual
theorem bd.mono:∀(v:AV)(cs:List a5),aB (aF H) v->bd P w aa β H v cs->bd P w' aD aG H' v cs
 | .p t,cs,_,h=>by simp only[bd]at h⊢;exact aU.mono hI hs t cs h
 | .st u fs,cs,a,h=>by
  simp only[bd,aB]at*;obtain⟨l,j,d,e,g⟩:=h;exact⟨l,j,d,bF.mono l fs j a e,g⟩
 | .func f first gM,cs,a,h=>by
  simp only[bd,aB]at*;obtain⟨m,k,d,e,g⟩:=h;exact⟨m,k,bp.mono first m a.1 d,bp.mono gM k a.2 e,g⟩
 | .aE _,_,_,h=>by simp[bd]at h
 | .ptr b path,cs,a,h=>by
  simp only[bd]at*;obtain⟨v,d,e⟩:=h;exact⟨v,d,bG.mono aH _ _ a e⟩
 | .bQ b ar ai i path,cs,a,h=>by
  simp only[bd]at*;obtain⟨v,d,e⟩:=h;exact⟨v,d,bG.mono aH _ _ a e⟩
 | .sl b ar ai off len,cs,a,h=>by
  simp only[bd]at*;obtain⟨v,d,e⟩:=h;exact⟨v,d,bG.mono aH _ _ a e⟩
 | .map b,cs,a,h=>by
  simp only[bd]at*;obtain⟨v,d,e⟩:=h;exact⟨v,d,bG.mono aH _ _ a e⟩
theorem bF.mono:∀(l:List Nat)(vs:List AV)(j:List (List a5)),aQ (aF H) vs->bF P w aa β H l vs j->bF P w' aD aG H' l vs j
 |[],[],_,_,h=>by simpa[bF]using h
 |[],_::_,_,_,h=>by simp[bF]at h
 |_::_,[],_,_,h=>by simp[bF]at h
 |n::r,v::vs,j,a,h=>by
  simp only[bF,aQ]at*;obtain⟨c,cs,d,e,g,q⟩:=h;exact⟨c,cs,d,bd.mono v c a.1 e,g,bF.mono r vs cs a.2 q⟩
theorem au.mono:∀(v:AV)(x:a5),aB (aF H) v->au P w aa β H v x->au P w' aD aG H' v x
 | .p t,cs,_,h=>by simp only[au]at h⊢;exact aA.mono hI hs t cs h
 | .st u fs,cs,a,h=>by
  simp only[au,aB]at*;obtain⟨l,j,d,e,g⟩:=h;exact⟨l,j,d,bF.mono l fs j a e,g⟩
 | .func f first gM,cs,a,h=>by
  simp only[au,aB]at*;obtain⟨m,k,d,e,g⟩:=h;exact⟨m,k,bp.mono first m a.1 d,bp.mono gM k a.2 e,g⟩
 | .aE vs,cs,a,h=>by
  simp only[au,aB]at*;obtain⟨xs,d,e⟩:=h;exact⟨xs,bp.mono vs xs a d,e⟩
 | .ptr b path,cs,a,h=>by simp only[au]at*;exact bG.mono aH _ _ a h
 | .bQ b ar ai i path,cs,a,h=>by simp only[au]at*;exact bG.mono aH _ _ a h
 | .sl b ar ai off len,cs,a,h=>by simp only[au]at*;exact bG.mono aH _ _ a h
 | .map b,cs,a,h=>by simp only[au]at*;exact bG.mono aH _ _ a h
theorem bp.mono:∀(vs:List AV)(xs:List a5),aQ (aF H) vs->bp P w aa β H vs xs->bp P w' aD aG H' vs xs
 |[],_,_,h=>by simpa[bp]using h
 |v::vs,xs,a,h=>by
  simp only[bp,aQ]at*;obtain⟨y,o,d,e,g⟩:=h;exact⟨y,o,d,au.mono v y a.1 e,bp.mono vs o a.2 g⟩
end
end mono
def eB:List AV->Option (List PV)
 |[]=>some []
 | .p v::r=>match eB r with
  |some l=>some (v::l)
  |none=>none
 |_::_=>none
def gG(u:a1)(fs:List AV):AV:=
 match eB fs with
 |some l=>.p (.st u l)
 |none=>.st u fs
def jZ:PV->List (a1×Nat)->Option PV
 |t,[]=>some t
 |t,(u,i)::r=>if aJ t=.agg u then(match(cj t)[i]? with
  |some f=>jZ f r
  |none=>none)else none
def eE:AV->List (a1×Nat)->Option AV
 |t,[]=>some t
 | .p t,(u,i)::r=>match jZ t ((u,i)::r)with
  |some s=>some (.p s)
  |none=>none
 | .st u' fs,(u,i)::r=>if u'=u then(match fs[i]? with
  |some f=>eE f r
  |none=>none)else none
 |_,_=>none
def fC(t:AV)(b:List (a1×Nat))(x:AV):Option AV:=
 match b with
 |[]=>some x
 |(u,i)::r=>
  match t with
  | .p t=>if aJ t=.agg u then(match(cj t)[i]? with
   |some f=>(match fC (.p f) r x with
    |some a=>some (gG u (((cj t).map .p).set i a))
    |none=>none)
   |none=>none)else none
  | .st u' fs=>if u'=u then(match fs[i]? with
   |some f=>(match fC f r x with
    |some a=>some (gG u (fs.set i a))
    |none=>none)
   |none=>none)else none
  |_=>none
section
variable{P:a0}{w:a7}{aa:Nat->Prop}{β:Bd}{H:Heap}
theorem tX:∀{l:List Nat}{vs:List PV}{a:List (List a5)},aY P w aa l vs a->a.map (·.length)=l/\vs.length=l.length/\a.length=l.length
 |[],[],_,h=>by simp[aY]at h;subst h;simp
 |[],_::_,_,h=>by simp[aY]at h
 |_::_,[],_,h=>by simp[aY]at h
 |n::f,v::vs,a,h=>by
  simp only[aY]at h;obtain⟨c,cs,rfl,e,b,d⟩:=h;have:=tX d;simp[b,this]
theorem wJ:∀{l:List Nat}{vs:List AV}{a:List (List a5)},bF P w aa β H l vs a->a.map (·.length)=l/\vs.length=l.length/\a.length=l.length
 |[],[],_,h=>by simp[bF]at h;subst h;simp
 |[],_::_,_,h=>by simp[bF]at h
 |_::_,[],_,h=>by simp[bF]at h
 |n::f,v::vs,a,h=>by
  simp only[bF]at h;obtain⟨c,cs,rfl,e,b,d⟩:=h;have:=wJ d;simp[b,this]
theorem Kg{u:a1}{l:List Nat}(h:dC P u=some l):l.sum=P.cellsOf u/\∀n∈l,0<n:=by
 unfold dC at h
 split at h
 ·dsimp only at h
  split at h
  ·rename_i hc;simp at hc;obtain⟨⟨b,c⟩,d⟩:=hc;simp at h;subst h;refine⟨c,?_⟩;intro n a;simp at a;obtain⟨f,hf,rfl⟩:=a;obtain⟨i,hi,rfl⟩:=Array.mem_iff_getElem.1 hf;exact b i hi
  ·simp at h
 ·split at h
  ·rename_i hc;simp at hc;simp at h;subst h;refine⟨by simp[List.sum_replicate_nat,hc.2],?_⟩;intro n a;have:=List.eq_of_mem_replicate a;omega
  ·simp at h
 ·simp at h
theorem mL:∀{v:PV}{cs:List a5},aU P w aa v cs->cs.length=bB P (aJ v)/\aJ v≠.bad:=by
 intro v cs h;cases v<;>simp only[aU]at h
 case st u fs=>
  obtain⟨l,c,a,b,rfl⟩:=h;have:=tX b;simp[aJ,bB,this.1,(Kg a).1]
 case str=>obtain⟨_,h,_⟩:=h;subst h;simp[aJ,bB]
 case seq=>
  rcases h with⟨_,rfl⟩|⟨_,_,_,_,_,_,_,_,_,_,_,rfl⟩<;>simp[aJ,bB]
 all_goals first
  |(subst h;simp[aJ,bB])
  |(obtain⟨_,_,_,_,_,_,rfl⟩:=h;simp[aJ,bB])
  |(obtain⟨_,_,_,_,_,rfl⟩:=h;simp[aJ,bB])
  |(obtain⟨_,_,_,_,_,_,_,_,_,_,_,_,rfl⟩:=h;simp[aJ,bB])
  |(obtain⟨_,_,_,_,_,_,_,rfl⟩:=h;simp[aJ,bB])
  |(obtain⟨_,_,_,_,rfl⟩:=h;simp[aJ,bB])
  |(obtain⟨_,h,_⟩:=h;subst h;simp[aJ,bB])
  |exact h.elim
theorem mP{v:AV}{cs:List a5}(h:bd P w aa β H v cs):cs.length=bB P (ad v)/\ad v≠.bad:=by
 cases v<;>simp only[bd]at h
 case p t=>exact mL h
 case st u fs=>
  obtain⟨l,c,a,b,rfl⟩:=h;have:=wJ b;simp[ad,bB,this.1,(Kg a).1]
 all_goals first
  |(obtain⟨_,rfl,_⟩:=h;simp[ad,bB])
  |(obtain⟨_,_,_,_,rfl⟩:=h;simp[ad,bB])
theorem rU{v:PV}(hs:aJ v=.leaf)(cs:List a5):aU P w aa v cs↔∃c,cs=[c]/\aA P w aa v c:=by
 cases v<;>simp[aJ]at hs<;>simp only[aU,aA]
 case bool|int|dw|aR|fh|gP|fG=>exact⟨fun h=>⟨_,h,rfl⟩,fun⟨c,g,i⟩=>by rw[g,i]⟩
 case str s=>exact⟨fun⟨bs,g,i⟩=>⟨_,g,bs,rfl,i⟩,fun⟨c,g,bs,i,j⟩=>⟨bs,by rw[g,i],j⟩⟩
 case b6 t=>exact⟨fun⟨a,b,c,g,i,j,k⟩=>⟨_,k,a,b,c,g,i,j,rfl⟩,fun⟨v,g,a,b,c,i,j,k,l⟩=>⟨a,b,c,i,j,k,by rw[g,l]⟩⟩
 case bH f es=>exact⟨fun⟨a,b,c,d,e,g,i,j,k,l,sp,n,m⟩=>⟨_,m,a,b,c,d,e,g,i,j,k,l,sp,n,rfl⟩,fun⟨v,h,a,b,c,d,e,g,i,j,k,l,sp,n,m⟩=>⟨a,b,c,d,e,g,i,j,k,l,sp,n,by rw[h,m]⟩⟩
 case seq es=>
  constructor
  ·rintro(⟨g,i⟩|⟨a,b,c,d,e,g,i,j,l,sp,n,m⟩)
   ·exact⟨_,i,.inl ⟨g,rfl⟩⟩
   ·exact⟨_,m,.inr ⟨a,b,c,d,e,g,i,j,l,sp,n,rfl⟩⟩
  ·rintro⟨v,h,(⟨g,i⟩|⟨a,b,c,d,e,g,i,j,l,sp,n,m⟩)⟩
   ·exact .inl ⟨g,by rw[h,i]⟩
   ·exact .inr ⟨a,b,c,d,e,g,i,j,l,sp,n,by rw[h,m]⟩
 case eL es=>exact⟨fun⟨a,b,c,g,i,j,k⟩=>⟨_,k,a,b,c,g,i,j,rfl⟩,fun⟨v,h,a,b,c,g,i,j,k⟩=>⟨a,b,c,g,i,j,by rw[h,k]⟩⟩
 case func f x y=>exact⟨fun⟨a,b,g,i,j⟩=>⟨_,j,a,b,g,i,rfl⟩,fun⟨v,h,a,b,g,i,j⟩=>⟨a,b,g,i,by rw[h,j]⟩⟩
theorem uR{v:PV}{u:a1}(hs:aJ v=.agg u)(cs:List a5):aU P w aa v cs↔aA P w aa v (.agg cs.toArray):=by
 cases v<;>simp[aJ]at hs;subst hs;simp only[aU,aA];constructor
 ·rintro⟨l,a,b,c,rfl⟩;exact⟨l,a,b,c,rfl⟩
 ·rintro⟨l,a,b,c,d⟩;refine⟨l,a,b,c,?_⟩;injection d with d;simpa using congrArg ay d
theorem Bj{v:AV}(hs:ad v=.leaf)(cs:List a5):bd P w aa β H v cs↔∃c,cs=[c]/\au P w aa β H v c:=by
 cases v<;>simp[ad]at hs<;>simp only[bd,au]
 case p t=>exact rU hs cs
 case func f x y=>exact⟨fun⟨a,b,d,e,g⟩=>⟨_,g,a,b,d,e,rfl⟩,fun⟨v,h,a,b,d,e,g⟩=>⟨a,b,d,e,by rw[h,g]⟩⟩
theorem Le{v:AV}{u:a1}(hs:ad v=.agg u)(cs:List a5):bd P w aa β H v cs↔au P w aa β H v (.agg cs.toArray):=by
 cases v<;>simp[ad]at hs
 case p t=>simp only[bd,au];exact uR hs cs
 case st u' fs=>
  subst hs;simp only[bd,au];constructor
  ·rintro⟨l,a,b,c,rfl⟩;exact⟨l,a,b,c,rfl⟩
  ·rintro⟨l,a,b,c,d⟩;refine⟨l,a,b,c,?_⟩;injection d with d;simpa using congrArg ay d
theorem xc{v:AV}{x:a5}(h:au P w aa β H v x)(hs:ad v≠.bad):bd P w aa β H v x.cells.toList:=by
 cases a:ad v with
 |bad=>exact absurd a hs
 |leaf=>
  rw[Bj a];refine⟨x,?_,h⟩;cases v<;>simp[ad]at a<;>simp only[au]at h
  case p t=>
   cases t<;>simp[aJ]at a<;>simp only[aA]at h
   case bool|int|dw|aR|fh|gP|fG=>subst h;rfl
   case str=>obtain⟨_,rfl,_⟩:=h;rfl
   case b6=>obtain⟨_,_,_,_,_,_,rfl⟩:=h;rfl
   case bH=>obtain⟨_,_,_,_,_,_,_,_,_,_,_,_,rfl⟩:=h;rfl
   case seq=>rcases h with⟨_,rfl⟩|⟨_,_,_,_,_,_,_,_,_,_,_,rfl⟩<;>rfl
   case eL=>obtain⟨_,_,_,_,_,_,rfl⟩:=h;rfl
   case func=>obtain⟨_,_,_,_,rfl⟩:=h;rfl
  case func=>obtain⟨_,_,_,_,rfl⟩:=h;rfl
  all_goals (have b:=h.1;cases x<;>first|rfl|(simp[Value.oneCell']at b))
 |agg u=>
  cases v<;>simp[ad]at a
  case p t=>
   cases t<;>simp[aJ]at a;simp only[au,aA]at h;obtain⟨l,c,b,d,rfl⟩:=h;simp only[bd,aU];exact⟨l,c,b,d,by simp[Value.cells]⟩
  case st u' fs=>
   simp only[au]at h;obtain⟨l,c,b,d,rfl⟩:=h;simp only[bd];exact⟨l,c,b,d,by simp[Value.cells]⟩
end
mutual
def Wk:PV->PV->Prop
 | .undef,v=>v=.undef
 | .bool b,v=>v=.bool b
 | .int k n,v=>v=.int k n
 | .str s,v=>v=.str s
 | .dw,v=>v=.dw
 | .fh,v=>v=.fh
 | .gP,v=>v=.gP
 | .fG,v=>v=.fG
 | .aR,v=>v=.aR\/v=.seq []
 | .b6 t,v=>match v with
  | .b6 h=>Wk t h
  |_=>False
 | .bH f es,v=>match v with
  | .bH g fs=>(g=true->f=true)/\bw es fs
  | .seq fs=>bw es fs
  |_=>False
 | .seq es,v=>match v with
  | .seq fs=>bw es fs
  |_=>False
 | .eL es,v=>match v with
  | .eL fs=>ka es fs
  |_=>False
 | .func f a b,v=>match v with
  | .func g c d=>f=g/\bw a c/\bw b d
  |_=>False
 | .st u es,v=>match v with
  | .st u' fs=>u=u'/\bw es fs
  |_=>False
 | .aE es,v=>match v with
  | .aE fs=>bw es fs
  |_=>False
def bw:List PV->List PV->Prop
 |[],fs=>fs=[]
 |v::vs,fs=>match fs with
  |f::fs=>Wk v f/\bw vs fs
  |[]=>False
def ka:List (PV×PV)->List (PV×PV)->Prop
 |[],fs=>fs=[]
 |(k,v)::vs,fs=>match fs with
  |(e,f)::fs=>k=e/\Wk v f/\ka vs fs
  |[]=>False
end
mutual
theorem Wk.refl:∀v,Wk v v
 | .undef| .bool _| .int _ _| .str _| .dw| .fh| .gP| .fG=>by simp[Wk]
 | .aR=>by simp[Wk]
 | .b6 t=>by simp only[Wk];exact Wk.refl t
 | .bH f c=>by simp only[Wk];exact⟨id,bw.refl c⟩
 | .seq c=>by simp only[Wk];exact bw.refl c
 | .eL c=>by simp only[Wk];exact ka.refl c
 | .func f a b=>by simp only[Wk];exact⟨trivial,bw.refl a,bw.refl b⟩
 | .st u c=>by simp only[Wk];exact⟨trivial,bw.refl c⟩
 | .aE c=>by simp only[Wk];exact bw.refl c
theorem bw.refl:∀vs,bw vs vs
 |[]=>by simp[bw]
 |v::vs=>by simp only[bw];exact⟨Wk.refl v,bw.refl vs⟩
theorem ka.refl:∀c,ka c c
 |[]=>by simp[ka]
 |(k,v)::vs=>by simp only[ka];exact⟨trivial,Wk.refl v,ka.refl vs⟩
end
theorem bw.length:∀{es fs:List PV},bw es fs->fs.length=es.length
 |[],fs,h=>by simp only[bw]at h;subst h;rfl
 |v::vs,fs,h=>by
  cases fs with
  |nil=>simp[bw]at h
  |cons f fs=>simp only[bw]at h;simp[bw.length h.2]
theorem bw.oc{a fs:List PV}(h:bw a fs):fs=[]↔a=[]:=by
 have:=h.length;rw[<-da,<-da,this]
theorem Wk.aJ:∀{v v':PV},Wk v v'->al.aJ v'=al.aJ v
 | .undef,v',h| .bool _,v',h| .int _ _,v',h| .str _,v',h| .dw,v',h| .fh,v',h| .gP,v',h| .fG,v',h=>by simp only[Wk]at h;subst h;rfl
 | .aR,v',h=>by simp only[Wk]at h;rcases h with rfl|rfl<;>rfl
 | .b6 _,v',h| .bH _ _,v',h| .seq _,v',h| .eL _,v',h| .func _ _ _,v',h| .aE _,v',h=>by cases v'<;>simp only[Wk]at h<;>rfl
 | .st _ _,v',h=>by
  cases v'<;>simp only[Wk]at h;simp[al.aJ,h.1]
section
variable{P:a0}{w:a7}{aa:Nat->Prop}
mutual
theorem aU.cL:∀(v v':PV)(cs:List a5),Wk v v'->aU P w aa v cs->aU P w aa v' cs
 | .undef,v',cs,h,hc| .bool _,v',cs,h,hc| .int _ _,v',cs,h,hc| .str _,v',cs,h,hc| .dw,v',cs,h,hc| .fh,v',cs,h,hc| .gP,v',cs,h,hc| .fG,v',cs,h,hc=>by simp only[Wk]at h;subst h;exact hc
 | .aR,v',cs,h,hc=>by
  simp only[Wk]at h;rcases h with rfl|rfl
  ·exact hc
  ·simp only[aU]at hc⊢;exact .inl ⟨trivial,hc⟩
 | .b6 t,v',cs,h,hc=>by
  cases v'<;>simp only[Wk]at h;simp only[aU]at hc⊢;obtain⟨ak,off,ts,d,i⟩:=hc;exact⟨ak,off,ts,aU.cL _ _ _ h d,i⟩
 | .bH f o,v',cs,h,hc=>by
  cases v' with
  |bH g fs=>
   simp only[Wk]at h;simp only[aU]at hc⊢;obtain⟨ak,off,cap,ai,m,d,i,j,p,q,s⟩:=hc;have z:=h.2.length;rw[z];exact⟨ak,off,cap,ai,m,aY.cL _ _ _ _ h.2 d,fun A=>i (fun e=>A (h.2.oc.2 e)),j,fun e=>p (h.1 e),q,s⟩
  |seq fs=>
   simp only[Wk]at h;simp only[aU]at hc⊢;obtain⟨ak,off,cap,ai,m,d,i,j,p,q,s⟩:=hc;have z:=h.length;rw[z];exact .inr ⟨ak,off,cap,ai,m,aY.cL _ _ _ _ h d,fun A=>i (fun e=>A (h.oc.2 e)),j,q,s⟩
  |_=>simp only[Wk]at h
 | .seq o,v',cs,h,hc=>by
  cases v'<;>simp only[Wk]at h;simp only[aU]at hc⊢;rcases hc with⟨d,i⟩|⟨ak,off,cap,ai,m,d,i,j,q,s⟩
  ·exact .inl ⟨h.oc.2 d,i⟩
  ·have z:=h.length;rw[z];exact .inr ⟨ak,off,cap,ai,m,aY.cL _ _ _ _ h d,fun A=>i (fun e=>A (h.oc.2 e)),j,q,s⟩
 | .eL o,v',cs,h,hc=>by
  cases v'<;>simp only[Wk]at h;simp only[aU]at hc⊢;obtain⟨r,C,clock,d,i,j,p⟩:=hc;exact⟨r,C,clock,d,i,b9.cL _ _ _ h j,p⟩
 | .func f a b,v',cs,h,hc=>by
  cases v'<;>simp only[Wk]at h;obtain⟨rfl,F,G⟩:=h;simp only[aU]at hc⊢;obtain⟨E,D,d,i,j⟩:=hc;exact⟨E,D,bm.cL _ _ _ F d,bm.cL _ _ _ G i,j⟩
 | .st u o,v',cs,h,hc=>by
  cases v'<;>simp only[Wk]at h;obtain⟨rfl,h⟩:=h;simp only[aU]at hc⊢;obtain⟨l,m,d,i,j⟩:=hc;exact⟨l,m,d,aY.cL _ _ _ _ h i,j⟩
 | .aE o,v',cs,h,hc=>by simp[aU]at hc
theorem aY.cL:∀(l:List Nat)(o fs:List PV)(m:List (List a5)),bw o fs->aY P w aa l o m->aY P w aa l fs m
 |l,[],fs,m,h,hc=>by simp only[bw]at h;subst h;exact hc
 |l,v::vs,fs,m,h,hc=>by
  cases fs with
  |nil=>simp[bw]at h
  |cons f fs=>
   simp only[bw]at h;cases l with
   |nil=>simp[aY]at hc
   |cons n l=>
    simp only[aY]at hc⊢;obtain⟨c,cs,d,i,j,p⟩:=hc;exact⟨c,cs,d,aU.cL _ _ _ h.1 i,j,aY.cL _ _ _ _ h.2 p⟩
theorem aA.cL:∀(v v':PV)(x:a5),Wk v v'->aA P w aa v x->aA P w aa v' x
 | .undef,v',cs,h,hc| .bool _,v',cs,h,hc| .int _ _,v',cs,h,hc| .str _,v',cs,h,hc| .dw,v',cs,h,hc| .fh,v',cs,h,hc| .gP,v',cs,h,hc| .fG,v',cs,h,hc=>by simp only[Wk]at h;subst h;exact hc
 | .aR,v',cs,h,hc=>by
  simp only[Wk]at h;rcases h with rfl|rfl
  ·exact hc
  ·simp only[aA]at hc⊢;exact .inl ⟨trivial,hc⟩
 | .b6 t,v',cs,h,hc=>by
  cases v'<;>simp only[Wk]at h;simp only[aA]at hc⊢;obtain⟨ak,off,ts,d,i⟩:=hc;exact⟨ak,off,ts,aU.cL _ _ _ h d,i⟩
 | .bH f o,v',cs,h,hc=>by
  cases v' with
  |bH g fs=>
   simp only[Wk]at h;simp only[aA]at hc⊢;obtain⟨ak,off,cap,ai,m,d,i,j,p,q,s⟩:=hc;have z:=h.2.length;rw[z];exact⟨ak,off,cap,ai,m,aY.cL _ _ _ _ h.2 d,fun A=>i (fun e=>A (h.2.oc.2 e)),j,fun e=>p (h.1 e),q,s⟩
  |seq fs=>
   simp only[Wk]at h;simp only[aA]at hc⊢;obtain⟨ak,off,cap,ai,m,d,i,j,p,q,s⟩:=hc;have z:=h.length;rw[z];exact .inr ⟨ak,off,cap,ai,m,aY.cL _ _ _ _ h d,fun A=>i (fun e=>A (h.oc.2 e)),j,q,s⟩
  |_=>simp only[Wk]at h
 | .seq o,v',cs,h,hc=>by
  cases v'<;>simp only[Wk]at h;simp only[aA]at hc⊢;rcases hc with⟨d,i⟩|⟨ak,off,cap,ai,m,d,i,j,q,s⟩
  ·exact .inl ⟨h.oc.2 d,i⟩
  ·have z:=h.length;rw[z];exact .inr ⟨ak,off,cap,ai,m,aY.cL _ _ _ _ h d,fun A=>i (fun e=>A (h.oc.2 e)),j,q,s⟩
 | .eL o,v',cs,h,hc=>by
  cases v'<;>simp only[Wk]at h;simp only[aA]at hc⊢;obtain⟨r,C,clock,d,i,j,p⟩:=hc;exact⟨r,C,clock,d,i,b9.cL _ _ _ h j,p⟩
 | .func f a b,v',cs,h,hc=>by
  cases v'<;>simp only[Wk]at h;obtain⟨rfl,F,G⟩:=h;simp only[aA]at hc⊢;obtain⟨E,D,d,i,j⟩:=hc;exact⟨E,D,bm.cL _ _ _ F d,bm.cL _ _ _ G i,j⟩
 | .st u o,v',cs,h,hc=>by
  cases v'<;>simp only[Wk]at h;obtain⟨rfl,h⟩:=h;simp only[aA]at hc⊢;obtain⟨l,m,d,i,j⟩:=hc;exact⟨l,m,d,aY.cL _ _ _ _ h i,j⟩
 | .aE o,v',cs,h,hc=>by
  cases v'<;>simp only[Wk]at h;simp only[aA]at hc⊢;obtain⟨B,d,i⟩:=hc;exact⟨B,bm.cL _ _ _ h d,i⟩
theorem bm.cL:∀(o fs:List PV)(B:List a5),bw o fs->bm P w aa o B->bm P w aa fs B
 |[],fs,B,h,hc=>by simp only[bw]at h;subst h;exact hc
 |v::vs,fs,B,h,hc=>by
  cases fs with
  |nil=>simp[bw]at h
  |cons f fs=>
   simp only[bw]at h;simp only[bm]at hc⊢;obtain⟨y,H,d,i,j⟩:=hc;exact⟨y,H,d,aA.cL _ _ _ h.1 i,bm.cL _ _ _ h.2 j⟩
theorem b9.cL:∀(o fs:List (PV×PV))(C:List bl),ka o fs->b9 P w aa o C->b9 P w aa fs C
 |[],fs,B,h,hc=>by simp only[ka]at h;subst h;exact hc
 |(k,v)::vs,fs,B,h,hc=>by
  cases fs with
  |nil=>simp[ka]at h
  |cons f fs=>
   simp only[ka]at h;obtain⟨rfl,d,i⟩:=h;simp only[b9]at hc⊢;obtain⟨e,rest,e1,e2,e3,e4⟩:=hc;exact⟨e,rest,e1,e2,aA.cL _ _ _ d e3,b9.cL _ _ _ i e4⟩
end
end
section
variable{P:a0}{w:a7}{aa:Nat->Prop}{β:Bd}{H:Heap}
theorem kV:∀{fs:List AV}{l:List PV},eB fs=some l->fs=l.map .p
 |[],l,h=>by simp[eB]at h;subst h;rfl
 | .p v::r,l,h=>by
  simp only[eB]at h;cases a:eB r with
  |none=>simp[a]at h
  |some b=>simp[a]at h;subst h;simp[kV a]
 | .ptr ..::_,_,h| .bQ ..::_,_,h| .sl ..::_,_,h| .map ..::_,_,h| .func ..::_,_,h| .st ..::_,_,h| .aE ..::_,_,h=>by simp[eB]at h
theorem mO:∀{l:List Nat}{fs:List PV}{a:List (List a5)},bF P w aa β H l (fs.map .p) a↔aY P w aa l fs a
 |[],[],_=>by simp[bF,aY]
 |[],_::_,_=>by simp[bF,aY]
 |_::_,[],_=>by simp[bF,aY]
 |n::g,v::vs,a=>by
  simp only[cy,bF,aY,bd];constructor
  ·rintro⟨c,cs,b,d,e,f⟩;exact⟨c,cs,b,d,e,mO.1 f⟩
  ·rintro⟨c,cs,b,d,e,f⟩;exact⟨c,cs,b,d,e,mO.2 f⟩
theorem iW:∀{fs:List PV}{d:List a5},bp P w aa β H (fs.map .p) d↔bm P w aa fs d
 |[],_=>by simp[bp,bm]
 |v::vs,d=>by
  simp only[cy,bp,bm,au];constructor
  ·rintro⟨y,e,a,b,c⟩;exact⟨y,e,a,b,iW.1 c⟩
  ·rintro⟨y,e,a,b,c⟩;exact⟨y,e,a,b,iW.2 c⟩
theorem J7{u:a1}{fs:List AV}{cs:List a5}:bd P w aa β H (gG u fs) cs↔bd P w aa β H (.st u fs) cs:=by
 unfold gG;cases h:eB fs with
 |none=>rfl
 |some l=>have:=kV h;subst this;simp[bd,aU,mO]
theorem VT{u:a1}{fs:List AV}{x:a5}:au P w aa β H (gG u fs) x↔au P w aa β H (.st u fs) x:=by
 unfold gG;cases h:eB fs with
 |none=>rfl
 |some l=>have:=kV h;subst this;simp[au,aA,mO]
theorem iD(n:Nat×Nat->Prop):∀l:List PV,aQ n (l.map .p)
 |[]=>by simp[aQ]
 |v::l=>by simp only[cy,aQ,aB,true_and];exact iD n l
theorem Aa{n:Nat×Nat->Prop}{u:a1}{fs:List AV}(h:aQ n fs):aB n (gG u fs):=by
 unfold gG;cases eB fs with
 |none=>exact h
 |some l=>simp[aB]
theorem cq{n:Nat×Nat->Prop}:∀{fs:List AV},aQ n fs↔∀v∈fs,aB n v
 |[]=>by simp[aQ]
 |v::vs=>by simp[aQ,cq (fs:=vs)]
theorem se:∀{l:List Nat}{fs:List AV}{d:List (List a5)}{i:Nat}{f:AV},bF P w aa β H l fs d->fs[i]?=some f->
 ∃pre c post,d.flatten=pre++c++post/\pre.length=(l.take i).sum/\i<l.length/\l[i]?=some c.length/\bd P w aa β H f c/\
  ∀b c',bd P w aa β H b c'->c'.length=c.length->∃a,a.flatten=pre++c'++post/\bF P w aa β H l (fs.set i b) a
 |[],[],_,i,f,_,hf=>by simp at hf
 |[],_::_,_,_,_,h,_=>by simp[bF]at h
 |_::_,[],_,_,_,h,_=>by simp[bF]at h
 |n::m,v::vs,d,0,f,h,hf=>by
  simp only[bF]at h;obtain⟨c,cs,rfl,g,e,j⟩:=h;simp at hf;subst hf;refine⟨[],c,cs.flatten,by simp,by simp,by simp,by simp[e],g,?_⟩;intro b c' hc k;exact⟨c'::cs,by simp,by simp only[dl,bF];exact⟨c',cs,rfl,hc,by omega,j⟩⟩
 |n::m,v::vs,d,i+1,f,h,hf=>by
  simp only[bF]at h;obtain⟨c,cs,rfl,g,e,j⟩:=h;simp at hf;obtain⟨pre,x,post,k1,k2,k3,k4,k5,k6⟩:=se j hf;refine⟨c++pre,x,post,by simp[k1],by simp[k2,e],by simpa using k3,by simpa using k4,k5,?_⟩;intro b c' hc k;obtain⟨a,e1,e2⟩:=k6 b c' hc k;exact⟨c::a,by simp[e1],by simp only[List.set_cons_succ,bF];exact⟨c,a,rfl,g,e,e2⟩⟩
theorem I6{t:AV}{u:a1}{cs:List a5}(hs:ad t= .agg u)(h:bd P w aa β H t cs):
 ∃l fs a,dC P u=some l/\bF P w aa β H l fs a/\cs=a.flatten/\(∀c,t=.p c->fs=(cj c).map .p)/\(∀u' g,t=.st u' g->fs=g/\u'=u):=by
 cases t<;>simp[ad]at hs
 case p t=>
  cases t<;>simp[aJ]at hs;subst hs;simp only[bd,aU]at h;obtain⟨l,a,d,e,f⟩:=h;exact⟨l,_,a,d,mO.2 e,f,fun c b=>by cases b;rfl,fun _ _ h=>by cases h⟩
 case st u' fs=>
  subst hs;simp only[bd]at h;obtain⟨l,a,d,e,f⟩:=h;exact⟨l,fs,a,d,e,f,(fun c b=>by cases b),(fun j i b=>by cases b;exact⟨rfl,rfl⟩)⟩
theorem yh{t:PV}{a:List (a1×Nat)}:eE (.p t) a=(jZ t a).map .p:=by
 cases a with
 |nil=>rfl
 |cons x r=>obtain⟨u,i⟩:=x;simp only[eE];cases jZ t ((u,i)::r)<;>rfl
theorem n9:∀{z:List (a1×Nat)}{t s:AV}{cs:List a5}{o:Nat},bd P w aa β H t cs->eE t z=some s->fK P z=some o->
 ∃n q post,cs=n++q++post/\n.length=o/\bd P w aa β H s q/\
  ∀x k a,fC t z x=some a->bd P w aa β H x k->k.length=q.length->bd P w aa β H a (n++k++post)
 |[],t,s,cs,o,h,hs,d=>by
  simp[fK]at d;subst d;simp[eE]at hs;subst hs;refine⟨[],cs,[],by simp,by simp,h,?_⟩;intro x k a hx y _;simp[fC]at hx;subst hx;simpa using y
 |(u,i)::r,t,s,cs,o,h,hs,d=>by
  simp only[fK]at d;cases m:dC P u with
  |none=>simp[m]at d
  |some l=>
   cases v:fK P r with
   |none=>simp[m,v]at d
   |some o'=>
    simp[m,v]at d;obtain⟨J,rfl⟩:=d
    have key:∃fs f,(∃j e,dC P u=some j/\bF P w aa β H j fs e/\cs=e.flatten)/\fs[i]?=some f/\eE f r=some s/\
     (∀x a,fC t ((u,i)::r) x=some a->∃b,fC f r x=some b/\a=gG u (fs.set i b)):=by
     cases t
     case p t=>
      rw[yh]at hs;simp only[jZ]at hs
      by_cases g:aJ t=.agg u
      ·simp only[g,if_true]at hs;obtain⟨j,fs,e,k1,k2,k3,k4,_⟩:=I6 (t:=.p t) (by simpa[ad]using g) h;have:=k4 t rfl;subst this;cases hf:(cj t)[i]? with
       |none=>simp[hf]at hs
       |some f=>
        simp only[hf]at hs;refine⟨_,.p f,⟨j,e,k1,k2,k3⟩,by simp[hf],by rw[yh];exact hs,?_⟩;intro x a hx;simp only[fC,g,if_true,hf]at hx;cases hq:fC (.p f) r x with
        |none=>simp[hq]at hx
        |some b=>simp[hq]at hx;exact⟨b,rfl,hx.symm⟩
      ·simp[g]at hs
     case st u' fs=>
      simp only[eE]at hs
      by_cases g:u'=u
      ·subst g;simp only[if_true]at hs;obtain⟨j,D,e,k1,k2,k3,_,k4⟩:=I6 (t:=.st u' fs) rfl h;have:=(k4 _ _ rfl).1;subst this;cases hf:D[i]? with
       |none=>simp[hf]at hs
       |some f=>
        simp only[hf]at hs;refine⟨_,f,⟨j,e,k1,k2,k3⟩,hf,hs,?_⟩;intro x a hx;simp only[fC,if_true,hf]at hx;cases hq:fC f r x with
        |none=>simp[hq]at hx
        |some b=>simp[hq]at hx;exact⟨b,rfl,hx.symm⟩
      ·simp[g]at hs
     all_goals simp[eE]at hs
    obtain⟨fs,f,⟨j,e,k1,k2,k3⟩,hf,F,aI⟩:=key;rw[m]at k1;cases k1;obtain⟨n,c,post,e1,e2,e3,e4,e5,C⟩:=se k2 hf;obtain⟨I,q,G,g1,g2,g3,g4⟩:=n9 e5 F v;refine⟨n++I,q,G++post,by rw[k3,e1,g1];simp,by simp[e2,g2],g3,?_⟩;intro x k a hx y A;obtain⟨b,E,rfl⟩:=aI x a hx;have aP:=g4 x k b E y A;obtain⟨B,c1,c2⟩:=C b _ aP (by rw[g1];simp[A]);rw[J7];simp only[bd];exact⟨l,B,m,c2,by rw[c1];simp⟩
theorem xF{path:List (a1×Nat)}{t s:PV}{cs:List a5}{o:Nat}(h:aU P w aa t cs)(hs:jZ t path=some s)(f:fK P path=some o):
 ∃a b post,cs=a++b++post/\a.length=o/\aU P w aa s b:=by
 obtain⟨a,b,post,c,d,e,_⟩:=n9 (β:=⟨id,id⟩) (H:=[]) (t:=.p t) (s:=.p s) (by simpa[bd]using h) (by rw[yh,hs];rfl) f;exact⟨a,b,post,c,d,by simpa[bd]using e⟩
theorem uu{n:Nat×Nat->Prop}:∀{a:List (a1×Nat)}{t s:AV},eE t a=some s->aB n t->aB n s
 |[],t,s,hs,h=>by simp[eE]at hs;subst hs;exact h
 |(u,i)::r,.p t,s,hs,h=>by
  rw[yh]at hs;cases hq:jZ t ((u,i)::r)with
  |none=>simp[hq]at hs
  |some q=>simp[hq]at hs;subst hs;simp[aB]
 |(u,i)::r,.st u' fs,s,hs,h=>by
  simp only[eE]at hs
  split at hs
  ·split at hs
   ·rename_i f hf;simp only[aB]at h;exact uu hs (cq.1 h f (dg hf))
   ·simp at hs
  ·simp at hs
 |_::_,.ptr ..,_,hs,_|_::_,.bQ ..,_,hs,_|_::_,.sl ..,_,hs,_|_::_,.map ..,_,hs,_|_::_,.func ..,_,hs,_|_::_,.aE ..,_,hs,_=>by simp[eE]at hs
theorem uv{n:Nat×Nat->Prop}:∀{e:List (a1×Nat)}{t b x:AV},fC t e x=some b->aB n t->aB n x->aB n b
 |[],t,b,x,hs,h,hx=>by simp[fC]at hs;subst hs;exact hx
 |(u,i)::r,.p t,b,x,hs,h,hx=>by
  simp only[fC]at hs
  split at hs
  ·split at hs
   ·split at hs
    ·rename_i f hf d c;simp at hs;subst hs;refine Aa (cq.2 ?_);intro v a;rcases c9 a with a|rfl
     ·exact cq.1 (iD n _) v a
     ·exact uv c (by simp[aB]) hx
    ·simp at hs
   ·simp at hs
  ·simp at hs
 |(u,i)::r,.st u' fs,b,x,hs,h,hx=>by
  simp only[fC]at hs
  split at hs
  ·split at hs
   ·split at hs
    ·rename_i _ f hf _ d c;simp at hs;subst hs;simp only[aB]at h;refine Aa (cq.2 ?_);intro v a;rcases c9 a with a|rfl
     ·exact cq.1 h v a
     ·exact uv c (cq.1 h f (dg hf)) hx
    ·simp at hs
   ·simp at hs
  ·simp at hs
 |_::_,.ptr ..,_,_,hs,_,_|_::_,.bQ ..,_,_,hs,_,_|_::_,.sl ..,_,_,hs,_,_|_::_,.map ..,_,_,hs,_,_|_::_,.func ..,_,_,hs,_,_|_::_,.aE ..,_,_,hs,_,_=>by simp[fC]at hs
end
structure aS where
 v:AV
 aj:List (Nat×Obj):=[]
 aI:List (Nat×Obj):=[]
 aP:List Obj:=[]
def br(H:Heap)(l:List (Nat×Obj)):Heap:=
 match l with
 |[]=>H
 |(b,o)::r=>br (H.set b o) r
def put(dst:Option Tmp)(v:AV)(e:Env):Env:=
 match dst with
 |some d=>(d,v)::e
 |none=>e
def aS.app(e:aS)(dst:Option Tmp)(s:St):St:=⟨put dst e.v s.env,br s.heap e.aI++e.aP⟩
def ev(e:Env):a9->AV
 | .tmp t=>aK e t
 | .const v=>.p (ofConst v)
 | .global g=>.p (Gl.g g)
 | .func f=>.p (.func f [] [])
def fR(s:List Nat):ByteArray:=⟨(s.map UInt8.ofNat).toArray⟩
mutual
def jQ:PV->PV->Option Bool
 | .bool a,.bool b=>some (a==b)
 | .int k a,.int c b=>if k=c then some (a==b)else none
 | .str a,.str b=>some (a==b)
 | .st u fs,.st u' gs=>if u=u' then vG fs gs else none
 |_,_=>none
def vG:List PV->List PV->Option Bool
 |[],[]=>some true
 |a::as,b::bs=>match jQ a b with
  |some true=>vG as bs
  |some false=>some false
  |none=>none
 |_,_=>none
end
def iM(P:a0)(c:a1->PV->PV->Option Bool):List a1->List PV->List PV->Option Bool
 |[],[],[]=>some true
 |T::d,a::as,b::bs=>
  if kindOf P T=aJ a/\kindOf P T=aJ b then
   (match c T a b,iM P c d as bs with
   |some r,some s=>some (r&&s)
   |_,_=>none)
  else none
 |_,_,_=>none
def ie(P:a0):Nat->a1->PV->PV->Option Bool
 |0,_,_,_=>none
 |n+1,T,v,v'=>
  match P.underlying T,v,v' with
  |some .bool,.bool a,.bool b=>some (a==b)
  |some (.int _),.int k a,.int d b=>if k=d then some (a==b)else none
  |some .string,.str a,.str b=>some (a==b)
  |some (.struct fs),.st u xs,.st u' c=>
   if kindOf P T= .agg u/\u'=u/\P.stoodInHeld T=false/\fs.toList.all (fun f=>f.name != "_")=true then iM P (ie P n) (fs.toList.map (·.type)) xs c else none
  |some (.array m e),.st u xs,.st u' c=>
   if kindOf P T=.agg u/\u'=u/\(P.info? e).isSome=true then iM P (ie P n) (cc m e) xs c else none
  |_,_,_=>none
def sZ(P:a0)(T:a1):Bool:=!P.eqGuardType P.depth T
def pR(P:a0)(T:a1):Bool:=match P.underlying T with|some .bool=>true|_=>false
def aGb(P:a0)(T:a1):Bool:=match P.underlying T with|some (.int _)=>true|_=>false
def gT(P:a0)(T:a1):Bool:=match P.underlying T with|some .string=>true|_=>false
inductive tA where|ptr|slice|map|func|iface
 deriving DecidableEq
def lG:a9->Bool
 | .const _=>true
 |_=>false
def df(P:a0)(T:a1)(c:Bool):AV->Option tA
 | .p .dw=>match P.underlying T with
  |some (.pointer _)=>some .ptr
  |_=>none
 | .p .aR=>match P.underlying T with
  |some (.slice _)=>some .slice
  |_=>none
 | .p .fh=>match P.underlying T with
  |some (.map _ _)=>some .map
  |_=>none
 | .p .gP=>match P.underlying T with
  |some (.func _ _ _)=>some .func
  |_=>none
 | .p .fG=>match c,P.underlying T with
  |true,some (.interface _)=>some .iface
  |_,_=>none
 |_=>none
def cG(H:Heap)(k:tA)(x:AV):Option Bool:=
 match k,x with
 | .ptr,.p .dw| .slice,.p .aR| .map,.p .fh| .func,.p .gP| .iface,.p .fG=>some true
 | .ptr,.p (.b6 _)| .slice,.p (.bH _ _)| .map,.p (.eL _)| .func,.p (.func _ _ _)| .func,.func _ _ _=>some false
 | .ptr,.ptr b _=>match H[b]? with
  |some (.box _ _)=>some false
  |_=>none
 | .map,.map b=>match H[b]? with
  |some (.map _ _)=>some false
  |_=>none
 | .slice,.p (.seq (_::_))=>some false
 | .slice,.sl b ar ai _ _=>match H[b]? with
  |some (.arr k c a es)=>if ar=c/\ai=a then some (k.gr&&es.isEmpty)else none
  |_=>none
 |_,_=>none
def oI(op:BinOp)(k:bo)(a b:Int)(K:PV->Prop):Prop:=
 match op with
 | .add=>K (.int k (k.wrap (a+b)))
 | .sub=>K (.int k (k.wrap (a-b)))
 | .mul=>K (.int k (k.wrap (a*b)))
 | .quo=>b≠0/\K (.int k (k.wrap (a.tdiv b)))
 | .rem=>b≠0/\K (.int k (a.tmod b))
 | .and=>K (.int k (k.wrap (aT k.bits a&&&aT k.bits b).toNat))
 | .or=>K (.int k (k.wrap (aT k.bits a|||aT k.bits b).toNat))
 | .xor=>K (.int k (k.wrap (aT k.bits a^^^aT k.bits b).toNat))
 | .andNot=>K (.int k (k.wrap (aT k.bits a&&&~~~aT k.bits b).toNat))
 | .eql=>K (.bool (a==b))
 | .neq=>K (.bool (a !=b))
 | .lss=>K (.bool (decide (a<b)))
 | .leq=>K (.bool (decide (a<=b)))
 | .gtr=>K (.bool (decide (a>b)))
 | .geq=>K (.bool (decide (a>=b)))
 | .shl=>0<=b/\K (.int k (k.wrap (a*2^(min b.toNat k.bits))))
 | .shr=>0<=b/\K (.int k (a.fdiv (2^(min b.toNat k.bits))))
def iE:List Nat->List Nat->Bool
 |_,[]=>false
 |[],_::_=>true
 |a::x,b::y=>decide (a<b)||(a==b&&iE x y)
def oH(op:BinOp)(a b:List Nat)(K:PV->Prop):Prop:=
 match op with
 | .add=>a.length+b.length<9223372036854775808/\K (.str (a++b))
 | .eql=>K (.bool (a==b))
 | .neq=>K (.bool (!(a==b)))
 | .lss=>K (.bool (iE a b))
 | .leq=>K (.bool (iE a b||a==b))
 | .gtr=>K (.bool (!(iE a b||a==b)))
 | .geq=>K (.bool (!(iE a b)))
 |_=>False
def jK(P:a0)(op:BinOp)(T:a1)(c:Bool)(H:Heap)(x y:AV)(K:PV->Prop):Prop:=
 match x,y with
 | .p (.int k a),.p (.int d b)=>(k=d\/op=.shl\/op=.shr)/\oI op k a b K
 | .p (.str a),.p (.str b)=>oH op a b K
 | .p (.bool a),.p (.bool b)=>pR P T=true/\match op with
  | .eql=>K (.bool (a==b))
  | .neq=>K (.bool (!(a==b)))
  |_=>False
 | .p (.st u fs),.p (.st u' gs)=>sZ P T=true/\(match ie P 9 T (.st u fs) (.st u' gs),op with
  |some r,.eql=>K (.bool r)
  |some r,.neq=>K (.bool !r)
  |_,_=>False)
 |x,y=>
  (match df P T c y with
  |some k=>(match cG H k x,op with
   |some r,.eql=>K (.bool r)
   |some r,.neq=>K (.bool !r)
   |_,_=>False)
  |none=>False)
def cU:Nat:=1073741824
def gq(H:Heap):AV->Option (List AV)
 | .p .aR=>some []
 | .p (.bH _ es)=>some (es.map .p)
 | .p (.seq es)=>some (es.map .p)
 | .p (.str s)=>some (s.map fun c=>.p (.int .u8 (c:Nat)))
 | .sl b ar ai off len=>match H[b]? with
  |some (.arr _ d a es)=>if ar=d/\ai=a/\off+len<=es.length then some ((es.drop off).take len)else none
  |_=>none
 |_=>none
def dh(H:Heap):AV->List (Nat×Obj)
 | .sl b _ _ _ _| .ptr b _| .bQ b _ _ _ _| .map b=>match H[b]? with
  |some o=>[(b,o)]
  |none=>[]
 |_=>[]
def eS(P:a0)(ai:Nat):List AV->Prop
 |[]=>True
 |v::vs=>(ad v≠.bad/\bB P (ad v)=ai)/\eS P ai vs
def cz(P:a0)(T:a1):Option Nat:=
 match P.underlying T with
 |some (.slice e)=>match P.info? e with
  |some i=>if i.bytes<32768/\0<i.size/\0<i.bytes then some i.size else none
  |none=>none
 |_=>none
def ez(P:a0)(T:a1):a1:=
 match P.underlying T with
 |some (.slice e)=>e
 |_=>0
def iy(P:a0)(X:a1):Bool:=
 match P.underlying X with
 |some (.int _)=>false
 |some _=>true
 |none=>false
def gk(P:a0)(T:a1):AK:=if ez P T=Gl.u8 then .bytes else .grow
def mN(P:a0)(T X:a1)(H:Heap)(s x:AV)(K:aS->Prop):Prop:=
 match cz P T,gq H x with
 |some sz,some xs=>iy P X=true/\(cE P (ez P T)).isSome=true/\eS P sz xs/\
  (match s with
  | .p .aR=>if xs.isEmpty then K {v:=s,aj:=dh H x}else xs.length<=cU/\K {v:=.sl H.length 0 sz 0 xs.length,aj:=dh H x,aP:=[.arr (gk P T) 0 sz xs]}
  | .p (.bH full es)=>eS P sz (es.map .p)/\if xs.isEmpty then K {v:=s,aj:=dh H x}else full=true/\es.length+xs.length<=cU/\
   K {v:=.sl H.length 0 sz 0 (es.length+xs.length),aj:=dh H x,aP:=[.arr (gk P T) 0 sz (es.map .p++xs)]}
  | .sl b ar ai off len=>match H[b]? with
   |some (.arr k c a es)=>ar=c/\ai=a/\ai=sz/\off+len<=es.length/\
    if xs.isEmpty then K {v:=s,aj:=(b,.arr k c a es)::dh H x}
    else es.length+xs.length<=cU/\(match k with
     | .frozen=>False
     | .exact=>if off+len+xs.length<=es.length then
      K {v:=.sl b ar ai off (len+xs.length),aj:=(b,.arr k c a es)::dh H x,aI:=[(b,.arr .exact ar ai (es.take (off+len)++xs++es.drop (off+len+xs.length)))]}
      else K {v:=.sl H.length 0 sz 0 (len+xs.length),aj:=(b,.arr k c a es)::dh H x,aP:=[.arr (gk P T) 0 sz ((es.drop off).take len++xs)]}
     |_=>off=0/\(k=.bytes->ez P T=Gl.u8)/\K {v:=.sl b (ar+1) ai 0 (len+xs.length),aj:=(b,.arr k c a es)::dh H x,aI:=[(b,.arr k (ar+1) ai (es.take len++xs))]})
   |_=>False
  |_=>False)
 |_,_=>False
def fW(x:Option AV)(d:Nat)(K:Nat->Prop):Prop:=
 match x with
 |none=>K d
 |some (.p (.int _ i))=>0<=i/\K i.toNat
 |_=>False
def mU(P:a0)(T:a1)(H:Heap)(x:AV)(lo hi d:Option AV)(K:aS->Prop):Prop:=
 d.isNone/\match x with
 | .p (.str s)=>gT P T=true/\fW hi s.length fun h=>fW lo 0 fun l=>h<=s.length/\l<=h/\K {v:=.p (.str ((s.take h).drop l))}
 | .p .aR=>(cz P T).isSome=true/\fW hi 0 fun h=>fW lo 0 fun l=>h<=0/\l<=h/\K {v:=x}
 | .p (.bH full es)=>fW hi es.length fun h=>fW lo 0 fun l=>h<=es.length/\l<=h/\
  (match cz P T with
  |some sz=>eS P sz (es.map .p)/\K {v:=.p (.bH (full&&h==es.length) ((es.take h).drop l))}
  |none=>False)
 | .p (.seq es)=>fW hi es.length fun h=>fW lo 0 fun l=>h<=es.length/\l<=h/\
  (match cz P T with
  |some sz=>eS P sz (es.map .p)/\K {v:=.p (.seq ((es.take h).drop l))}
  |none=>False)
 | .sl b ar ai off len=>match H[b]? with
  |some (.arr k c a es)=>ar=c/\ai=a/\cz P T=some ai/\¬(k.gr=true/\es=[])/\off+len<=es.length/\
   fW hi len fun h=>fW lo 0 fun l=>off+h<=es.length/\l<=h/\
    (if l=0 then K {v:=.sl b ar ai off h,aj:=[(b,.arr k c a es)]}
    else if l=h then K {v:=.p (.bH false []),aj:=[(b,.arr k c a es)]}
    else K {v:=.sl b ar ai (off+l) (h-l),aj:=[(b,.arr k c a es)]})
  |_=>False
 |_=>False
def pC(P:a0)(T:a1)(H:Heap)(x:AV)(lo hi:Option AV)(m:AV)(K:aS->Prop):Prop:=
 match x with
 | .sl b ar ai off len=>match H[b]? with
  |some (.arr k c a es)=>ar=c/\ai=a/\(cz P T).isSome=true/\¬(k.gr=true/\es=[])/\off+len<=es.length/\hi.isSome=true/\
   fW hi len fun h=>fW lo 0 fun l=>fW (some m) 0 fun m=>off+m<=es.length/\h<=m/\l<=h/\K {v:=.p .undef,aj:=[(b,.arr k c a es)]}
  |_=>False
 |_=>False
def oR(P:a0)(T:a1)(x k:PV):Option Bool:=match x with
 | .st u fs=>match ie P 9 T (.st u fs) k,jQ (.st u fs) k with
  |some a,some b=>bif a==b then some a else none
  |_,_=>none
 |x=>jQ x k
def fF(P:a0)(T:a1):List (PV×PV)->PV->Option (Option PV)
 |[],_=>some none
 |(k,v)::r,x=>match oR P T x k with
  |some true=>some (some v)
  |some false=>fF P T r x
  |none=>none
def lg(P:a0)(T:a1)(a:List (PV×PV))(x:PV):Option (Option PV):=match x with
 | .st u fs=>match fF P T a (.st u fs)with
  |some none=>some none
  |_=>none
 |x=>fF P T a x
def mB:PV->Bool
 | .st _ _=>false
 |_=>true
def kg(P:a0)(T:a1):List PV->List AV->PV->Option (Option AV)
 |[],[],_=>some none
 |k::ks,v::vs,x=>match oR P T x k with
  |some true=>some (some v)
  |some false=>kg P T ks vs x
  |none=>none
 |_,_,_=>none
def ru:Obj->Option (List PV×List AV)
 | .map false es=>some (es.map (·.1),es.map fun e=>.p e.2)
 | .cZ ks vs=>some (ks,vs)
 |_=>none
def fV:List (PV×PV)->PV->PV->List (PV×PV)
 |[],k,v=>[(k,v)]
 |(a,v')::r,k,v=>if jQ k a=some true then(k,v)::r else(a,v')::fV r k v
def so(P:a0)(T:a1):Bool:=match P.underlying T with
 |some (.int _)|some .string|some .bool=>true
 |_=>false
def fe(P:a0)(T:a1):PV->Bool
 | .int k _=>match P.underlying T with
  |some (.int a)=>decide (k=a)
  |_=>false
 | .str _=>gT P T
 | .st u fs=>match P.underlying T with
  |some (.struct cj)=>cj.toList.all (fun f=>f.name != "_" &&so P f.type)&&(ie P 9 T (.st u fs) (.st u fs)).isSome
  |_=>false
 |_=>false
def iI(P:a0)(T:a1):Option (a1×a1):=
 match P.underlying T with
 |some (.map k e)=>some (k,e)
 |_=>none
def lenOf(H:Heap):AV->Option (Nat×List (Nat×Obj))
 | .p (.str s)=>some (s.length,[])
 | .p .aR| .p .fh=>some (0,[])
 | .p (.bH _ es)| .p (.seq es)=>some (es.length,[])
 | .p (.eL es)=>some (es.length,[])
 | .sl b ar ai _off len=>match H[b]? with
  |some (.arr k c a es)=>if ar=c/\ai=a then some (len,[(b,.arr k c a es)])else none
  |_=>none
 | .map b=>match H[b]? with
  |some (.map fz es)=>some (es.length,[(b,.map fz es)])
  |_=>none
 |_=>none
def gC(P:a0)(T:a1):AV->Bool
 | .p (.str _)=>gT P T
 | .p .aR| .p (.bH _ _)| .p (.seq _)| .sl ..=>match P.underlying T with
  |some (.slice _)=>true
  |_=>false
 | .p .fh| .p (.eL _)| .map _=>match P.underlying T with
  |some (.map _ _)=>true
  |_=>false
 |_=>false
def yP(H:Heap):AV->Option (Nat×List (Nat×Obj))
 | .p .aR=>some (0,[])
 | .p (.bH true es)=>some (es.length,[])
 | .sl b ar ai off _len=>match H[b]? with
  |some (.arr .exact c a es)=>if ar=c/\ai=a/\off<=es.length then some (es.length-off,[(b,.arr .exact c a es)])else none
  |_=>none
 |_=>none
def bytesOf:List AV->Option (List Nat)
 |[]=>some []
 | .p (.int .u8 c)::r=>if 0<=c/\c<256 then match bytesOf r with
  |some l=>some (c.toNat::l)
  |none=>none
  else none
 |_=>none
def ptrTo(P:a0)(T:a1):Option a1:=
 match P.underlying T with
 |some (.pointer e)=>some e
 |_=>none
def kU(k:bo)(c:Bool):List AV->Int->Option Int
 |[],a=>some a
 | .p (.int d b)::r,a=>if k=d then kU k c r (if c then(if b>a then b else a)else(if b<a then b else a))else none
 |_,_=>none
def gS(a:List AV):List (Nat×AV)->List AV
 |[]=>a
 |(i,v)::r=>gS (a.set i v) r
def kT(P:a0)(l:List Nat):List (Nat×AV)->Prop
 |[]=>True
 |(i,v)::r=>(∃n,l[i]?=some n/\bB P (ad v)=n/\ad v≠.bad)/\kT P l r
def ft(H:Heap):List AV->Option (List PV×List (Nat×Obj)×List (Nat×Obj))
 |[]=>some ([],[],[])
 | .p v::r=>match ft H r with
  |some (a,aj,aI)=>some (v::a,aj,aI)
  |none=>none
 | .ptr b []::r=>match H[b]?,ft H r with
  |some (.box fz (.p t)),some (a,aj,aI)=>some (.b6 t::a,(b,.box fz (.p t))::aj,(b,.box true (.p t))::aI)
  |_,_=>none
 |_=>none
def nj(P:a0)(T:a1)(H:Heap)(a:AV)(K:aS->Prop):Prop:=
 match a with
 | .ptr b path=>match H[b]? with
  |some (.box fz t)=>match eE t path with
   |some s=>kindOf P T=ad s/\K {v:=s,aj:=[(b,.box fz t)]}
   |none=>False
  |_=>False
 | .bQ b ar ai i path=>match H[b]? with
  |some (.arr k d c es)=>ar=d/\ai=c/\∃h:i<es.length,match eE (es[i]'h) path with
   |some s=>kindOf P T=ad s/\K {v:=s,aj:=[(b,.arr k d c es)]}
   |none=>False
  |_=>False
 | .p (.b6 t)=>kindOf P T=aJ t/\K {v:=.p t}
 |_=>False
def mT(P:a0)(T:a1)(H:Heap)(a x:AV)(K:aS->Prop):Prop:=
 kindOf P T=ad x/\ad x≠.bad/\match a with
 | .ptr b path=>match H[b]? with
  |some (.box false t)=>match eE t path,fC t path x with
   |some s,some d=>ad s=ad x/\K {v:=.p (.aE []),aj:=[(b,.box false t)],aI:=[(b,.box false d)]}
   |_,_=>False
  |_=>False
 | .bQ b ar ai i path=>match H[b]? with
  |some (.arr k e c es)=>ar=e/\ai=c/\k≠.frozen/\∃h:i<es.length,match eE (es[i]'h) path,fC (es[i]'h) path x with
   |some s,some d=>ad s=ad x/\K {v:=.p (.aE []),aj:=[(b,.arr k e c es)],aI:=[(b,.arr k e c (es.set i d))]}
   |_,_=>False
  |_=>False
 |_=>False
def nJ(P:a0)(a:a1)(b:Nat)(key:PV)(x:AV)(o:Obj)(K:aS->Prop):Prop:=match ru o with
 |some (ks,vs)=>mB key=true/\kg P a ks vs key=some none/\K {v:=.p (.aE []),aj:=[(b,o)],aI:=[(b,.cZ (ks++[key]) (vs++[x]))]}
 |none=>False
def fM(P:a0)(T:a1):Option (a1×Nat):=
 match kindOf P T,P.underlying T with
 | .agg u,some (.struct fs)=>some (u,fs.size)
 |_,_=>none
def fY(P:a0)(T:a1):Option (a1×Nat):=
 match kindOf P T,P.underlying T with
 | .agg u,some (.array n _)=>some (u,n)
 |_,_=>none
def mK(P:a0)(T:a1)(a:AV)(f:Nat)(K:aS->Prop):Prop:=
 match fM P T with
 |some (u,n)=>f<n/\(match a with
  | .ptr b path=>K {v:=.ptr b (path++[(u,f)])}
  | .bQ b ar ai i path=>K {v:=.bQ b ar ai i (path++[(u,f)])}
  | .p (.b6 t)=>aJ t=.agg u/\(match(cj t)[f]? with
   |some g=>K {v:=.p (.b6 g)}
   |none=>False)
  |_=>False)
 |_=>False
def mJ(P:a0)(T:a1)(H:Heap)(x i:AV)(K:aS->Prop):Prop:=
 match i with
 | .p (.int _ i)=>0<=i/\(match x with
  | .p (.bH _ es)=>∃h:i.toNat<es.length,cz P T=some (bB P (aJ (es[i.toNat]'h)))/\K {v:=.p (.b6 (es[i.toNat]'h))}
  | .p (.seq es)=>∃h:i.toNat<es.length,cz P T=some (bB P (aJ (es[i.toNat]'h)))/\K {v:=.p (.b6 (es[i.toNat]'h))}
  | .sl b ar ai off len=>cz P T=some ai/\i.toNat<len/\(match H[b]? with
   |some (.arr k c a es)=>ar=c/\ai=a/\¬(k.gr=true/\es=[])/\K {v:=.bQ b ar ai (off+i.toNat) [],aj:=[(b,.arr k c a es)]}
   |_=>False)
  | .ptr b path=>(match fY P T with
   |some (u,n)=>i.toNat<n/\K {v:=.ptr b (path++[(u,i.toNat)])}
   |_=>False)
  | .bQ b ar ai j path=>(match fY P T with
   |some (u,n)=>i.toNat<n/\K {v:=.bQ b ar ai j (path++[(u,i.toNat)])}
   |_=>False)
  | .p (.b6 t)=>(match fY P T with
   |some (u,n)=>aJ t=.agg u/\i.toNat<n/\(match(cj t)[i.toNat]? with
    |some g=>K {v:=.p (.b6 g)}
    |none=>False)
   |_=>False)
  |_=>False)
 |_=>False
def fk(P:a0)(ag:a8->Bool)(o:Oper)(ρ:a9->AV)(H:Heap)(K:aS->Prop):Prop:=
 match o.op with
 | .move x| .assign x=>K {v:=ρ x}
 | .pick c a b=>match ρ c with
  | .p (.bool t)=>K {v:=if t then ρ a else ρ b}
  |_=>False
 | .alloc T=>match cE P T with
  |some z=>kindOf P T=aJ z/\aJ z≠.bad/\iK T (aJ z)=true/\K {v:=.ptr H.length [],aP:=[.box false (.p z)]}
  |none=>False
 | .box T x=>kindOf P T=ad (ρ x)/\ad (ρ x)≠.bad/\iK T (ad (ρ x))=true/\K {v:=.ptr H.length [],aP:=[.box false (ρ x)]}
 | .build T parts=>match kindOf P T,cE P T with
  | .agg u,some z=>(match dC P u with
   |some l=>aJ z=.agg u/\kT P l (parts.toList.map fun(i,x)=>(i,ρ x))/\K {v:=gG u (gS ((cj z).map .p) (parts.toList.map fun(i,x)=>(i,ρ x)))}
   |none=>False)
  |_,_=>False
 | .buildSlice T n parts=>match cz P T,cE P (ez P T)with
  |some sz,some z=>bB P (aJ z)=sz/\n*sz<=1000000/\kT P (cc n sz) (parts.toList.map fun(i,x)=>(i,ρ x))/\
   K {v:=.sl H.length 0 sz 0 n,aP:=[.arr .exact 0 sz (gS (cc n (.p z)) (parts.toList.map fun(i,x)=>(i,ρ x)))]}
  |_,_=>False
 | .load T a=>nj P T H (ρ a) K
 | .store T a x=>mT P T H (ρ a) (ρ x) K
 | .binOp op T x y _=>jK P op T (lG y) H (ρ x) (ρ y) (fun v=>K {v:=.p v,aj:=dh H (ρ x)})
 | .unOp op _ x=>match op,ρ x with
  | .not,.p (.bool b)=>K {v:=.p (.bool (!b))}
  | .neg,.p (.int k n)=>K {v:=.p (.int k (k.wrap (0-n)))}
  | .xor,.p (.int k n)=>K {v:=.p (.int k (k.wrap (aT k.bits (if k.signed then -1 else k.max)^^^aT k.bits n).toNat))}
  |_,_=>False
 | .convert S D x=>match P.underlying S,P.underlying D,ρ x with
  |some _,some (.int k),.p (.int _ n)=>K {v:=.p (.int k (k.wrap n))}
  |some _,some .string,.p (.str s)=>K {v:=.p (.str s)}
  |some (.slice e),some .string,.sl b ar ai off len=>(match H[b]? with
   |some (.arr k q j es)=>ar=q/\ai=j/\ai=1/\P.underlying e=some (.int .u8)/\0<len/\off+len<=es.length/\(match bytesOf ((es.drop off).take len)with
    |some l=>K {v:=.p (.str l),aj:=[(b,.arr k q j es)]}
    |none=>False)
   |_=>False)
  |_,_,_=>False
 | .extract t i=>match ρ t with
  | .p (.aE vs)=>(match vs[i]? with
   |some v=>K {v:=.p v}
   |none=>False)
  | .aE vs=>(match vs[i]? with
   |some v=>K {v}
   |none=>False)
  |_=>False
 | .fieldAddr T a f=>mK P T (ρ a) f K
 | .indexAddr T x i=>mJ P T H (ρ x) (ρ i) K
 | .field T x f=>match kindOf P T,P.underlying T,ρ x with
  | .agg u,some (.struct _),.p t=>aJ t=.agg u/\(match(cj t)[f]?,(iS P u)[f]? with
   |some g,some F=>kindOf P F=aJ g/\K {v:=.p g}
   |_,_=>False)
  |_,_,_=>False
 | .index T x i=>match ρ x,ρ i with
  | .p (.str s),.p (.int _ i)=>gT P T=true/\0<=i/\∃h:i.toNat<s.length,K {v:=.p (.int .u8 (s[i.toNat]'h))}
  | .p (.st u es),.p (.int _ i)=>(match fY P T,(iS P u)[i.toNat]?,es[i.toNat]? with
   |some (u',n),some F,some g=>u'=u/\0<=i/\i.toNat<n/\kindOf P F=aJ g/\K {v:=.p g}
   |_,_,_=>False)
  |_,_=>False
 | .makeFunc (.func f) fi ca=>if ag f then(match ft H (fi.toList.map ρ),ft H (ca.toList.map ρ)with
   |some (a,[],[]),some (b,aj,aI)=>K {v:=.p (.func f a b),aj,aI}
   |_,_=>False)
  else match eB (fi.toList.map ρ),eB (ca.toList.map ρ)with
   |some a,some b=>K {v:=.p (.func f a b)}
   |_,_=>K {v:=.func f (fi.toList.map ρ) (ca.toList.map ρ)}
 | .makeSlice T l c=>match cz P T,cE P (ez P T),ρ l,ρ c with
  |some sz,some z,.p (.int .i64 l),.p (.int .i64 c)=>bB P (aJ z)=sz/\0<=l/\l=c/\l<=cU/\K {v:=.sl H.length 0 sz 0 l.toNat,aP:=[.arr .exact 0 sz (cc l.toNat (.p z))]}
  |_,_,_,_=>False
 | .slice T x lo hi A=>match A with
  |none=>mU P T H (ρ x) (lo.map ρ) (hi.map ρ) none K
  |some m=>pC P T H (ρ x) (lo.map ρ) (hi.map ρ) (ρ m) K
 | .makeMap _ none=>K {v:=.map H.length,aP:=[.map false []]}
 | .lookup T x i ok=>match iI P T,ρ i with
  |some (w,E),.p key=>(match cE P E with
   |some z=>fe P w key=true/\(match ρ x with
    | .p .fh=>K {v:=.p (if ok then .aE [z,.bool false]else z)}
    | .p (.eL es)=>(match fF P w es key with
     |some (some v)=>K {v:=.p (if ok then .aE [v,.bool true]else v)}
     |some none=>K {v:=.p (if ok then .aE [z,.bool false]else z)}
     |none=>False)
    | .map b=>(match H[b]? with
     |some (.map fz es)=>(match fF P w es key with
      |some (some v)=>K {v:=.p (if ok then .aE [v,.bool true]else v),aj:=[(b,.map fz es)]}
      |some none=>K {v:=.p (if ok then .aE [z,.bool false]else z),aj:=[(b,.map fz es)]}
      |none=>False)
     |some (.cZ ks vs)=>mB key=true/\(match kg P w ks vs key with
      |some (some v)=>K {v:=if ok then .aE [v,.p (.bool true)]else v,aj:=[(b,.cZ ks vs)]}
      |some none=>K {v:=.p (if ok then .aE [z,.bool false]else z),aj:=[(b,.cZ ks vs)]}
      |none=>False)
     |_=>False)
    |_=>False)
   |none=>False)
  |_,_=>False
 | .mapUpdate T m k x| .insert T m k x=>match iI P T,ρ m,ρ k,ρ x with
  |some (w,_),.map b,.p key,.p v=>fe P w key=true/\(match H[b]? with
   |some (.map false es)=>(match lg P w es key with
    |some _=>K {v:=.p (.aE []),aj:=[(b,.map false es)],aI:=[(b,.map false (fV es key v))]}
    |none=>False)
   |some (.cZ ks vs)=>nJ P w b key (.p v) (.cZ ks vs) K
   |_=>False)
  |some (w,_),.map b,.p key,x=>fe P w key=true/\(match H[b]? with
   |some o=>nJ P w b key x o K
   |none=>False)
  |_,_,_,_=>False
 | .range T x=>match ρ x with
  | .p (.str s)=>gT P T=true/\K {v:=.ptr H.length [],aP:=[.dd s 0]}
  |_=>False
 | .next it true=>match ρ it with
  | .ptr b []=>(match H[b]? with
   |some (.dd s pos)=>if pos<s.length then
    K {v:=.p (.aE [.bool true,.int .i64 pos,.int .i32 (Utf8.decode (fR s) pos).1]),aj:=[(b,.dd s pos)],aI:=[(b,.dd s (pos+(Utf8.decode (fR s) pos).2))]}
    else K {v:=.p (.aE [.bool false]),aj:=[(b,.dd s pos)]}
   |_=>False)
  |_=>False
 | .nilCheck x=>match ρ x with
  | .ptr _ _| .bQ _ _ _ _ _| .p (.b6 _)=>K {v:=ρ x}
  |_=>False
 | .call c=>match c.callee with
  | .builtin b=>let args:=c.args.toList.map ρ
   let T:=c.argTypes.getD 0 0
   (match b,args with
   | .len,[x]=>(match lenOf H x with
    |some (n,aj)=>gC P T x=true/\0<c.argTypes.size/\K {v:=.p (.int .i64 n),aj}
    |none=>False)
   | .append,[s,x]=>c.argTypes.size=2/\mN P T (c.argTypes.getD 1 0) H s x K
   | .min,.p (.int k a)::r=>(match kU k false r a with
    |some n=>K {v:=.p (.int k n)}
    |none=>False)
   | .max,.p (.int k a)::r=>(match kU k true r a with
    |some n=>K {v:=.p (.int k n)}
    |none=>False)
   | .copy,[d,x]=>(match cz P T,d,gq H x with
    |some sz,.sl b ar ai off len,some xs=>ai=sz/\eS P sz xs/\c.argTypes.size=2/\(match H[b]? with
     |some (.arr k q j es)=>ar=q/\ai=j/\k≠.frozen/\off+len<=es.length/\¬(k.gr=true/\es=[])/\
      K {v:=.p (.int .i64 (min xs.length len:Nat)),aj:=(b,.arr k q j es)::dh H x,aI:=[(b,.arr k q j (es.take off++xs.take (min xs.length len)++es.drop (off+min xs.length len)))]}
     |_=>False)
    |_,_,_=>False)
   | .cap,[x]=>(match yP H x with
    |some (n,aj)=>gC P T x=true/\0<c.argTypes.size/\K {v:=.p (.int .i64 n),aj}
    |none=>False)
   | .clear,[x]=>(match x with
    | .p .aR=>gC P T x=true/\0<c.argTypes.size/\K {v:=.p (.aE [])}
    | .sl b ar ai off len=>(match cz P T,cE P (ez P T),H[b]? with
     |some sz,some z,some (.arr k q j es)=>ar=q/\ai=j/\ai=sz/\bB P (aJ z)=sz/\k≠.frozen/\off+len<=es.length/\¬(k.gr=true/\es=[])/\0<c.argTypes.size/\0<len/\
      K {v:=.p (.aE []),aj:=[(b,.arr k q j es)],aI:=[(b,.arr k q j (es.take off++cc len (.p z)++es.drop (off+len)))]}
     |_,_,_=>False)
    |_=>False)
   | .unsafeSliceData,[x]=>(match x with
    | .p .aR=>K {v:=.p .dw}
    | .sl b ar ai off len=>(match H[b]? with
     |some (.arr k q j es)=>ar=q/\ai=j/\((k.gr=true/\es=[]/\K {v:=.p .dw,aj:=[(b,.arr k q j es)]})\/(0<len/\off+len<=es.length/\K {v:=.bQ b ar ai off [],aj:=[(b,.arr k q j es)]}))
     |_=>False)
    |_=>False)
   | .unsafeString,[x,.p (.int .i64 n)]=>(match x with
    | .p .dw=>n=0/\c.argTypes.size=2/\K {v:=.p (.str [])}
    | .bQ b ar ai i []=>(match H[b]? with
     |some (.arr .bytes q j es)=>ar=q/\ai=j/\ai=1/\i=0/\0<n/\n.toNat<=es.length/\n<=9223372036854775807/\c.argTypes.size=2/\ptrTo P T=some Gl.u8/\P.cellsOf Gl.u8=1/\(match bytesOf (es.take n.toNat)with
      |some l=>K {v:=.p (.str l),aj:=[(b,.arr .bytes q j es)],aI:=[(b,.dead)]}
      |none=>False)
     |_=>False)
    |_=>False)
   |_,_=>False)
  |_=>False
 |_=>False
def newAt(a:Nat):List Obj->List (Nat×Obj)
 |[]=>[]
 |o::r=>(a,o)::newAt (a+1) r
structure bO(P:a0)(ah aa:Nat->Prop)(w:a7)(β:Bd)(H:Heap)(aD:Nat->Prop)(w':a7)(aG:Bd)(H':Heap):Prop where
 bM:∀k,aa k->aD k
 fresh:∀k,aD k->aa k\/¬ah k
 ext:Ext ah aa w w'
 step:bW β H aG H'
 rel:bL P w' aD aG H' ah
 eM:∀x,aF H x->aF H' x
 loop:∀b,gv H b->gv H' b
def Enters(P:a0)(f:a8):Prop:=∀(args:Array a5)(w:a7),(callFunc f args).run P w=.ok (.enter f args) w
def cX(P:a0)(f:a8)(H:Heap)(args:List AV)(H':Heap)(v:AV):Prop:=
 Enters P f/\∀(w:a7)(aa ah:Nat->Prop)(β:Bd)(a:List a5),bL P w aa β H ah->bp P w aa β H args a->aQ (aF H) args->
  bv P f a.toArray w fun e w'=>∃b aG aD,e=.returned b/\bO P ah aa w β H aD w' aG H'/\au P w' aD aG H' v b/\aB (aF H') v
def gV(P:a0)(b:Nat)(H:Heap)(args:List AV)(H':Heap)(v:AV):Prop:=
 gv H b/\∀(w:a7)(aa ah:Nat->Prop)(β:Bd)(c:List a5),bL P w aa β H ah->bp P w aa β H args c->aQ (aF H) args->
  ∃f tmps assign body,(Instr.yield (β.ak b) c.toArray).run P w=.ok (.round (β.ak b) f tmps assign body) w/\
   ∀(a:bb)(e:List bb),∃d w' aG aD,Steps P (lone (Frame.round (β.ak b) f tmps assign body .normal) (a::e) w) (lone (a.finish d) e w')/\
    bO P ah aa w β H aD w' aG H'/\au P w' aD aG H' v d/\aB (aF H') v
def qI(P:a0)(f:a8)(args:List AV)(base:Nat)(e:aS):Prop:=
 Enters P f/\∀(H:Heap)(w:a7)(aa ah:Nat->Prop)(β:Bd)(a:List a5),bL P w aa β H ah->bp P w aa β H args a->aQ (aF H) args->
  (∀p∈e.aj,H[p.1]?=some p.2)->(∀i,i<e.aP.length->H[base+i]?=some .hole)->
  bv P f a.toArray w fun x w'=>∃b aG aD,x=.returned b/\bO P ah aa w β H aD w' aG (br H (e.aI++newAt base e.aP))/\
   au P w' aD aG (br H (e.aI++newAt base e.aP)) e.v b/\aB (aF (br H (e.aI++newAt base e.aP))) e.v
def sB(P:a0)(b:Nat)(args:List AV)(a:Nat)(e:aS):Prop:=
 ∀(H:Heap)(w:a7)(aa ah:Nat->Prop)(β:Bd)(d:List a5),bL P w aa β H ah->bp P w aa β H args d->aQ (aF H) args->
  (∀p∈e.aj,H[p.1]?=some p.2)->(∀i,i<e.aP.length->H[a+i]?=some .hole)->
  gv H b/\∃f tmps assign body,(Instr.yield (β.ak b) d.toArray).run P w=.ok (.round (β.ak b) f tmps assign body) w/\
   ∀(c:bb)(h:List bb),∃g w' aG aD,Steps P (lone (Frame.round (β.ak b) f tmps assign body .normal) (c::h) w) (lone (c.finish g) h w')/\
    bO P ah aa w β H aD w' aG (br H (e.aI++newAt a e.aP))/\
    au P w' aD aG (br H (e.aI++newAt a e.aP)) e.v g/\aB (aF (br H (e.aI++newAt a e.aP))) e.v
def CA(P:a0)(f:a8)(args:List AV)(aj:List (Nat×Obj))(v:PV):Prop:=
 ∀(H:Heap)(w:a7)(aa ah:Nat->Prop)(β:Bd)(a:List a5),bL P w aa β H ah->bp P w aa β H args a->aQ (aF H) args->(∀p∈aj,H[p.1]?=some p.2)->
  ∃b,(callFunc f a.toArray).run P w=.ok (.value b) w/\aA P w aa v b
def oL(H:Heap)(e:aS):Prop:=(∀p∈e.aj,H[p.1]?=some p.2)/\(∀p∈e.aI,p.1<H.length/\p.2≠.hole)
def qH(P:a0)(f:a8)(args:List PV)(v:PV):Prop:=
 Enters P f/\∀(w:a7)(aa:Nat->Prop)(a:List a5),(∀k,aa k->k<w.heap.size)->l8 P w aa->bm P w aa args a->
  bv P f a.toArray w fun e w'=>∃b,∃aD:Nat->Prop,e=.returned b/\(∀k,aa k->aD k)/\(∀k,aD k->aa k\/w.heap.size<=k)/\(∀k,aD k->k<w'.heap.size)/\
   w.heap.size<=w'.heap.size/\(∀k,k<w.heap.size->w'.heap[k]?=w.heap[k]?)/\(w'.os=w.os/\w'.output=w.output)/\aA P w' aD v b
def Pp(P:a0)(f:a8)(args:List PV)(v:PV):Prop:=
 ∀(w:a7)(aa:Nat->Prop)(a:List a5),bm P w aa args a->∃b,(callFunc f a.toArray).run P w=.ok (.value b) w/\aA P w aa v b
def az(P:a0)(f:a8)(args:List PV)(v:PV):Prop:=qH P f args v\/Pp P f args v
def jX(H:Heap):AV->Option (PV×Heap)
 | .p v=>some (v,H)
 | .sl b ar ai off len=>match H[b]? with
  |some (.arr k d a es)=>
   if ar=d/\ai=a/\off+len<=es.length then
    if k.gr=true/\es=[]then some (.aR,H)else
    match eB es with
    |some c=>some (.bH (k== .exact&&off+len==es.length) ((c.drop off).take len),H.set b (.arr .frozen ar ai es))
    |none=>none
   else none
  |_=>none
 | .ptr b path=>match H[b]? with
  |some (.box _ (.p t))=>match jZ t path with
   |some s=>some (.b6 s,H.set b (.box true (.p t)))
   |none=>none
  |_=>none
 | .map b=>match H[b]? with
  |some (.map _ es)=>some (.eL es,H.set b (.map true es))
  |_=>none
 |_=>none
def mv(H:Heap):List AV->Option (List PV×Heap)
 |[]=>some ([],H)
 |x::r=>match jX H x with
  |some (v,H1)=>match mv H1 r with
   |some (vs,a)=>some (v::vs,a)
   |none=>none
  |none=>none
def gz(P:a0)(draw:Bool)(f:a8)(args:List AV)(H:Heap)(K:AV->Heap->Prop):Prop:=
 (∃vs v,args=vs.map .p/\az P f vs v/\K (.p v) H)\/
 (draw=false/\((∃vs H1 v,mv H args=some (vs,H1)/\az P f vs v/\K (.p v) H1)\/(∃H' v,cX P f H args H' v/\K v H')\/
  (∃e,qI P f args H.length e/\oL H e/\K e.v (br H e.aI++e.aP))\/(∃aj v,CA P f args aj v/\(∀p∈aj,H[p.1]?=some p.2)/\K (.p v) H)))
def ja(P:a0)(ag:a8->Bool)(draw:Bool)(o:Oper)(K:St->Prop)(s:St):Prop:=
 match o.op with
 | .call {callee:=.value f,args,.. }=>(match ev s.env f with
  | .p (.func g fi ca)=>gz P draw g (fi.map .p++args.toList.map (ev s.env)++ca.map .p) s.heap (fun v H'=>K ⟨put o.dst v s.env,H'⟩)
  | .func g fi ca=>gz P draw g (fi++args.toList.map (ev s.env)++ca) s.heap (fun v H'=>K ⟨put o.dst v s.env,H'⟩)
  | .map b=>∃H' v,gV P b s.heap (args.toList.map (ev s.env)) H' v/\K ⟨put o.dst v s.env,H'⟩
  |_=>False)
 |_=>fk P ag o (ev s.env) s.heap fun e=>K (e.app o.dst s)
def guardOf(a:Array Oper)(j:Nat)(e:Env):AV:=
 match(a[j]?).bind (·.dst)with
 |some d=>aK e d
 |none=>.p (.aE [])
def gB(P:a0)(ag:a8->Bool)(draw:Bool)(a:Array Oper):List Oper->(St->Prop)->St->Prop
 |[],K,s=>K s
 |o::r,K,s=>match o.guard with
  |none=>ja P ag draw o (gB P ag draw a r K) s
  |some (j,want)=>match guardOf a j s.env with
   | .p (.bool t)=>if t=want then ja P ag draw o (gB P ag draw a r K) s else gB P ag draw a r K ⟨put o.dst (.p (.aE [])) s.env,s.heap⟩
   | .p (.aE [])=>gB P ag draw a r K ⟨put o.dst (.p (.aE [])) s.env,s.heap⟩
   |_=>False
def lC:Obj->Option Obj
 | .box _ (.p t)=>some (.box true (.p t))
 | .arr k ar ai es=>if k.gr=true/\es=[]then none else match eB es with
  |some _=>some (.arr .frozen ar ai es)
  |none=>none
 | .map _ es=>some (.map true es)
 |_=>none
def lJ(H:Heap):AV->Option (PV×List Nat)
 | .p v=>some (v,[])
 | .sl b ar ai off len=>match H[b]? with
  |some (.arr k d a es)=>
   if ar=d/\ai=a/\off+len<=es.length then
    if k.gr=true/\es=[]then none else
    match eB es with
    |some c=>some (.bH (k== .exact&&off+len==es.length) ((c.drop off).take len),[b])
    |none=>none
   else none
  |_=>none
 | .ptr b path=>match H[b]? with
  |some (.box _ (.p t))=>match jZ t path with
   |some s=>some (.b6 s,[b])
   |none=>none
  |_=>none
 | .map b=>match H[b]? with
  |some (.map _ es)=>some (.eL es,[b])
  |_=>none
 |_=>none
def nm(H:Heap):List AV->Option (List PV×List Nat)
 |[]=>some ([],[])
 |x::r=>match lJ H x,nm H r with
  |some (v,bs),some (vs,cs)=>some (v::vs,bs++cs)
  |_,_=>none
def kq(H:Heap):List Nat->Option (List (Nat×Obj)×List (Nat×Obj))
 |[]=>some ([],[])
 |b::r=>match H[b]?,kq H r with
  |some o,some (aj,aI)=>(match lC o with
   |some o'=>some ((b,o)::aj,(b,o')::aI)
   |none=>none)
  |_,_=>none
def gF(P:a0)(f:a8)(args:List AV)(H:Heap)(K:aS->Prop):Prop:=
 (∃vs v,args=vs.map .p/\az P f vs v/\K {v:=.p v})\/
 (∃vs bs aj aI v,nm H args=some (vs,bs)/\kq H bs=some (aj,aI)/\az P f vs v/\K {v:=.p v,aj,aI})\/
 (∃e,qI P f args H.length e/\oL H e/\K e)\/
 (∃aj v,CA P f args aj v/\(∀p∈aj,H[p.1]?=some p.2)/\K {v:=.p v,aj})
def iL(P:a0)(ag:a8->Bool)(o:Oper)(s:St)(K:aS->Prop):Prop:=
 match o.op with
 | .call {callee:=.value f,args,.. }=>(match ev s.env f with
  | .p (.func g fi ca)=>gF P g (fi.map .p++args.toList.map (ev s.env)++ca.map .p) s.heap K
  | .func g fi ca=>gF P g (fi++args.toList.map (ev s.env)++ca) s.heap K
  | .map b=>∃e,sB P b (args.toList.map (ev s.env)) s.heap.length e/\oL s.heap e/\K e
  |_=>False)
 |_=>fk P ag o (ev s.env) s.heap K
structure Touch where
 i:Nat
 rd:List Nat
 wr:List Nat
def mW(a:Nat):List Obj->List Nat
 |[]=>[]
 |_::r=>a::mW (a+1) r
def gJ(i a:Nat)(e:aS):Touch:=⟨i,e.aj.map (·.1),e.aI.map (·.1)++mW a e.aP⟩
def gA(i b:Nat)(e:aS)(a:List Touch):List Touch:=
 match e.aj,e.aI,e.aP with
 |[],[],[]=>a
 |_,_,_=>gJ i b e::a
def reach(a:Array Oper):Nat->Nat->Nat->Bool
 |0,_,_=>false
 |f+1,i,j=>match a[j]? with
  |some o=>o.after.toList.any (fun e=>b1 .any e&&e.on==i)||o.after.toList.any (fun e=>b1 .any e&&decide (i<e.on)&&reach a f i e.on)
  |none=>false
def iG(u t:Touch):Bool:=u.wr.any (fun b=>t.rd.contains b||t.wr.contains b)||u.rd.any (fun b=>t.wr.contains b)
def jE(a:Array Oper):List Touch->Bool
 |[]=>true
 |t::r=>r.all (fun u=>!iG u t||reach a a.size u.i t.i)&&jE a r
def fN(P:a0)(ag:a8->Bool)(a:Array Oper):List Oper->Nat->List Touch->(St->Prop)->St->Prop
 |[],_,acc,K,s=>jE a acc=true/\K s
 |o::r,i,acc,K,s=>match o.guard with
  |none=>iL P ag o s fun e=>fN P ag a r (i+1) (gA i s.heap.length e acc) K (e.app o.dst s)
  |some (j,want)=>match guardOf a j s.env with
   | .p (.bool t)=>if t=want then iL P ag o s fun e=>fN P ag a r (i+1) (gA i s.heap.length e acc) K (e.app o.dst s)
    else fN P ag a r (i+1) acc K ⟨put o.dst (.p (.aE [])) s.env,s.heap⟩
   | .p (.aE [])=>fN P ag a r (i+1) acc K ⟨put o.dst (.p (.aE [])) s.env,s.heap⟩
   |_=>False
inductive bn where|normal|exit (id:Nat)|ret
mutual
def fD(T:Heap):PV->AV->Prop
 | .aR,x=>x=.p .aR\/match x with
  | .sl b ar _ off len=>ar=0/\off=0/\len=0/\∃k z,T[b]?=some (.arr k 0 z [])/\k.gr=true
  |_=>False
 | .st u fs,x=>x=.p (.st u fs)\/match x with
  | .st u' gs=>u=u'/\j0 T fs gs
  |_=>False
 |v,x=>x=.p v
def j0(T:Heap):List PV->List AV->Prop
 |[],gs=>gs=[]
 |v::vs,gs=>match gs with
  |g::gs=>fD T v g/\j0 T vs gs
  |[]=>False
end
mutual
def Gh(T:Heap):AV->AV->Prop
 | .p v,x=>fD T v x
 | .st u fs,x=>match x with
  | .st u' gs=>u=u'/\lK T fs gs
  |_=>False
 |a,x=>x=a
def lK(T:Heap):List AV->List AV->Prop
 |[],gs=>gs=[]
 |v::vs,gs=>match gs with
  |g::gs=>Gh T v g/\lK T vs gs
  |[]=>False
end
structure oF(s t:St):Prop where
 env:∀x,aK t.env x=aK s.env x\/aK t.env x=.p .undef\/Gh t.heap (aK s.env x) (aK t.env x)
 heap:∀(b:Nat)(o:Obj),t.heap[b]?=some o->o=.hole\/s.heap[b]?=some o\/((s.heap[b]?=none\/s.heap[b]?=some .hole)/\∃k z,o=.arr k 0 z []/\k.gr=true)\/(∃v v',s.heap[b]?=some (.box false v)/\o=.box false v'/\Gh t.heap v v')
 ga:∀x,aB (aF t.heap) (aK t.env x)
 hrefs:∀(b:Nat)(o:Obj),t.heap[b]?=some o->o.refs (aF t.heap)
def dj(N:Nat)(s t:St):Prop:=t=s\/(oF s t/\∀b,b<N->t.heap[b]?=s.heap[b]?)
def jl(Q:bn->St->Prop)(j:Option Code)(s:St):Prop:=
 match j with
 |none=>Q .normal s
 |some (.exit id)=>Q (.exit id) s
 |some .ret=>Q .ret s
 |_=>False
def ji(P:a0)(it:AV)(b:Nat)(H:Heap)(K:Heap->Prop):Prop:=
 match it with
 | .p (.func g fi ca)=>∃H' v,cX P g H (fi.map .p++[.map b]++ca.map .p) H' v/\K H'
 | .func g fi ca=>∃H' v,cX P g H (fi++[.map b]++ca) H' v/\K H'
 |_=>False
def iq(b:Nat)(env:Env)(Q:bn->St->Prop)(H:Heap):Prop:=
 match H[b]? with
 |some (.loop L)=>L.st≠.busy/\jl Q L.pending ⟨env,H.set b (.loop {L with st:=.exhausted})⟩
 |_=>False
abbrev Cx:=Nat×Nat
def bU(P:a0)(ag:a8->Bool)(q:Cx):Code->(bn->St->Prop)->St->Prop
 | .skip,Q,s| .label _,Q,s=>Q .normal s
 | .region _ ops draw,Q,s=>if draw then fN P ag ops ops.toList 0 [] (Q .normal) s else gB P ag false ops ops.toList (Q .normal) s
 | .seq a b,Q,s=>bU P ag q a (fun e s'=>match e with
  | .normal=>bU P ag q b Q s'
  |e=>Q e s') s
 | .cond c a b,Q,s=>match ev s.env c with
  | .p (.bool t)=>if t then bU P ag q a Q s else bU P ag q b Q s
  |_=>False
 | .block id b,Q,s=>bU P ag q b (fun e s'=>match e with
  | .exit i=>if i=id then Q .normal s' else Q (.exit i) s'
  |e=>Q e s') s
 | .scope b,Q,s=>bU P ag q b Q s
 | .loop b,Q,s=>∃I:Nat->St->Prop,(∃n t,dj q.2 s t/\I n t)/\∀n t,I n t->bU P ag q b (fun e s'=>match e with
  | .normal=>∃m g,m<n/\dj q.2 s' g/\I m g
  |e=>Q e s') t
 | .rangeFunc f h a b,Q,s=>q.2<=s.heap.length/\∃d:Env,(∀x,aK d x=aK s.env x)/\ji P (ev s.env f) s.heap.length (s.heap++[.loop ⟨.ready,none,q.1,h.toList,a,b,d⟩]) (iq s.heap.length s.env Q)
 | .exit id,Q,s=>Q (.exit id) s
 | .ret,Q,s=>Q .ret s
 |_,_,_=>False
def bu(fr:bb)(t:Array a5)(ds:List bk)(todo:List Item):bb:={fr with tmps:=t,defers:=ds,todo,mode:=.run}
section
variable{P:a0}{fr:bb}{t:Array a5}{ds:List bk}{k:List Item}{cs:List bb}{w:a7}
def fo(t:Array a5):a9->a5
 | .tmp x=>t.getD x undef
 | .const v=>v
 | .global g=>.pointer (some ⟨g,0,none⟩)
 | .func f=>.func (.func f) #[] #[]
theorem eval_eq(fr:bb):fr.eval=fo fr.tmps:=by funext x;cases x<;>rfl
theorem aC0:step P (lone (bu fr t ds (.code .skip::k)) cs w)=.next (lone (bu fr t ds k) cs w):=
 a6 (by simp[stepG,b4,bu])
theorem Ur{l:Nat}:step P (lone (bu fr t ds (.code (.label l)::k)) cs w)=.next (lone (bu fr t ds k) cs w):=
 a6 (by simp[stepG,b4,bu])
theorem S4{id:Nat}:step P (lone (bu fr t ds (.inBlock id::k)) cs w)=.next (lone (bu fr t ds k) cs w):=
 a6 (by simp[stepG,b4,bu])
theorem S2{b:Code}:step P (lone (bu fr t ds (.inScope b::k)) cs w)=.next (lone (bu fr t ds k) cs w):=
 a6 (by simp[stepG,b4,bu])
theorem Cf{a b:Code}:step P (lone (bu fr t ds (.code (.seq a b)::k)) cs w)=.next (lone (bu fr t ds (.code a::.code b::k)) cs w):=
 a6 (by simp[stepG,b4,bu])
theorem aCO{c:a9}{x y:Code}{b:Bool}(h:fo t c= .bool b):
 step P (lone (bu fr t ds (.code (.cond c x y)::k)) cs w)=.next (lone (bu fr t ds (.code (if b then x else y)::k)) cs w):=
 a6 (by simp[stepG,b4,bu,eval_eq,h])
theorem xy{id:Nat}{c:Code}:step P (lone (bu fr t ds (.code (.block id c)::k)) cs w)=.next (lone (bu fr t ds (.code c::.inBlock id::k)) cs w):=
 a6 (by simp[stepG,b4,bu])
theorem Ba{c:Code}:step P (lone (bu fr t ds (.code (.scope c)::k)) cs w)=.next (lone (bu fr t ds (.code c::.inScope c::k)) cs w):=
 a6 (by simp[stepG,b4,bu])
theorem aCW{c:Code}:step P (lone (bu fr t ds (.code (.loop c)::k)) cs w)=.next (lone (bu fr t ds (.code c::.inLoop c::k)) cs w):=
 a6 (by simp[stepG,b4,bu])
theorem Tt{c:Code}:step P (lone (bu fr t ds (.inLoop c::k)) cs w)=.next (lone (bu fr t ds (.code c::.inLoop c::k)) cs w):=
 a6 (by simp[stepG,b4,bu])
theorem aCV{id:Nat}{a:List Item}(h:exitTo id k=some a):step P (lone (bu fr t ds (.code (.exit id)::k)) cs w)=.next (lone (bu fr t ds a) cs w):=
 a6 (by simp[stepG,b4,bu,h])
theorem Tq{id:Nat}{a:Array Oper}:
 step P (lone (bu fr t ds (.code (.region id a false)::k)) cs w)=.next (lone (bu fr t ds (.inRegion a (List.range a.size)::k)) cs w):=
 a6 (by simp[stepG,b4,bu])
theorem aCP{id:Nat}{a:Array Oper}:
 step P (lone (bu fr t ds (.code (.region id a true)::k)) cs w)=
  .next (lone (bu fr t ds (.inRegion a (Region.schedule (P.follows .mixedOrders) a (w.tape w.drawn (.order fr.fn id)))::k)) cs {w with drawn:=w.drawn+1}):=
 a6 (by simp[stepG,b4,bu,choose,Sem.run,Question.forced,Question.cut])
theorem Gb{a:Array Oper}:step P (lone (bu fr t ds (.inRegion a []::k)) cs w)=.next (lone (bu fr t ds k) cs w):=
 a6 (by simp[stepG,b4,bu])
def mw(dst:Option Tmp)(v:a5)(t:Array a5):Array a5:=
 match dst with
 |some d=>t.setIfInBounds d v
 |none=>t
theorem mF{a:Array Oper}{i:Nat}{r:List Nat}{o:Oper}(c:a[i]?=some o)(v:a5):
 (bu fr t ds (.inRegion a (i::r)::k)).finish v=bu fr (mw o.dst v t) ds (.inRegion a r::k):=by
 cases b:o.dst<;>simp[Frame.finish,bu,c,b,mw]
theorem H4{a:Array Oper}{i:Nat}{r:List Nat}{o:Oper}(b:a[i]?=some o)(c:b0 o (yielded a t)=false):
 step P (lone (bu fr t ds (.inRegion a (i::r)::k)) cs w)=.next (lone (bu fr (mw o.dst undef t) ds (.inRegion a r::k)) cs w):=by
 rw[<-mF b];exact a6 (by simp only[bu];simp[stepG,b4,b,c])
theorem SE{o:Oper}(a:∀c,o.op≠ .defer c)(r:Option Nat)(A:Nat->Call->GStep)(B:GStep):
 (match r,o.op with
  |some l,.defer c=>A l c
  |_,_=>B)=B:=by
 cases r with
 |none=>rfl
 |some l=>cases h:o.op<;>first|rfl|exact absurd h (a _)
theorem aCX{a:Array Oper}{i:Nat}{r:List Nat}{o:Oper}{fr:bb}(e:fr.todo= .inRegion a (i::r)::k)(d:a[i]?=some o)(b:∀c,o.op≠ .defer c):
 cb P true fr cs none w=b5 P true fr cs none (be (fo fr.tmps) o) w:=by
 simp only[cb,Frame.oper?,e,d,eval_eq];exact SE b _ _ _
theorem A2{f:Bool}{a:Array Oper}{i:Nat}{r:List Nat}{o:Oper}(b:a[i]?=some o)(e:b0 o (yielded a t)=true)(d:∀c,o.op≠ .defer c):
 stepG P f {frame:=bu fr t ds (.inRegion a (i::r)::k),callers:=cs,status:=.running,dying:=none} w=
  b5 P true (bu fr t ds (.inRegion a (i::r)::k)) cs none (be (fo t) o) w:=by
 have h:=aCX (P:=P) (cs:=cs) (w:=w) (fr:=bu fr t ds (.inRegion a (i::r)::k)) rfl b d;simp only[bu]at h⊢;simp[stepG,b4,b,e,h]
theorem rE{a:Array Oper}{i:Nat}{r:List Nat}{o:Oper}{n:Next}{b:a5}{w':a7}(d:a[i]?=some o)(h:b0 o (yielded a t)=true)
 (e:∀c,o.op≠.defer c)(g:(be (fo t) o).run P w=.ok n w')(f:n=.value b\/n=.skip/\b=undef):
 step P (lone (bu fr t ds (.inRegion a (i::r)::k)) cs w)=.next (lone (bu fr (mw o.dst b t) ds (.inRegion a r::k)) cs w'):=by
 rw[<-mF d];refine a6 ?_;rw[A2 d h e];rcases f with rfl|⟨rfl,rfl⟩<;>simp[b5,g,bu]
theorem ud{a:Array Oper}{i:Nat}{r:List Nat}{o:Oper}{f:a8}{args:Array a5}{w':a7}(d:a[i]?=some o)(g:b0 o (yielded a t)=true)
 (b:∀c,o.op≠.defer c)(e:(be (fo t) o).run P w=.ok (.enter f args) w'):
 step P (lone (bu fr t ds (.inRegion a (i::r)::k)) cs w)=.next (lone (Frame.enter P f args .normal) (bu fr t ds (.inRegion a (i::r)::k)::cs) w'):=by
 refine a6 ?_;rw[A2 d g b];simp[b5,e,bu]
theorem Ho{a:Array Oper}{i:Nat}{r:List Nat}{o:Oper}{l:Nat}{f:a8}{tmps:Array a5}{assign body:Code}{w':a7}(d:a[i]?=some o)(g:b0 o (yielded a t)=true)
 (b:∀c,o.op≠.defer c)(e:(be (fo t) o).run P w=.ok (.round l f tmps assign body) w'):
 step P (lone (bu fr t ds (.inRegion a (i::r)::k)) cs w)=.next (lone (Frame.round l f tmps assign body .normal) (bu fr t ds (.inRegion a (i::r)::k)::cs) w'):=by
 refine a6 ?_;rw[A2 d g b];simp[b5,e,bu]
end
end Go.al
namespace Go.al
variable[Gl]
mutual
theorem aB.mono{S T:Nat×Nat->Prop}(h:∀x,S x->T x):∀v,aB S v->aB T v
 | .p _,_=>by simp[aB]
 | .ptr b _,c| .bQ b _ _ _ _,c| .sl b _ _ _ _,c| .map b,c=>by simp only[aB]at*;exact h _ c
 | .func _ a b,c=>by simp only[aB]at*;exact⟨aQ.mono h a c.1,aQ.mono h b c.2⟩
 | .st _ fs,c=>by simp only[aB]at*;exact aQ.mono h fs c
 | .aE vs,c=>by simp only[aB]at*;exact aQ.mono h vs c
theorem aQ.mono{S T:Nat×Nat->Prop}(h:∀x,S x->T x):∀vs,aQ S vs->aQ T vs
 |[],_=>by simp[aQ]
 |v::vs,c=>by simp only[aQ]at*;exact⟨aB.mono h v c.1,aQ.mono h vs c.2⟩
end
structure cw(P:a0)(n:Nat)(ah aa:Nat->Prop)(β:Bd)(s:St)(t:Array a5)(w:a7):Prop where
 heap:bL P w aa β s.heap ah
 env:∀x,au P w aa β s.heap (aK s.env x) (t.getD x undef)
 ga:∀x,aB (aF s.heap) (aK s.env x)
 size:t.size=n
structure oD(N:Nat)(β:Bd)(H:Heap)(aG:Bd)(H':Heap):Prop where
 box:∀b,b<N->aF H (b,0)->l6 H' b->l6 H b/\aG.ak b=β.ak b
 it:∀b,b<N->aF H (b,0)->l7 H' b->l7 H b/\aG.ak b=β.ak b
 map:∀b,b<N->aF H (b,0)->mX H' b->mX H b/\aG.ak b=β.ak b
 arr:∀b ar ai k es,b<N->aF H (b,ar)->et H' b ar ai k es->∃k0 gd,et H b ar ai k0 gd/\gd.length<=es.length/\(cO k es↔cO k0 gd)/\(¬cO k es->aG.ak b=β.ak b/\aG.cap b=β.cap b)
 loop:∀b,b<N->aF H (b,0)->gv H' b->gv H b/\aG.ak b=β.ak b
theorem bW.n{N:Nat}{β:Bd}{H:Heap}{aG:Bd}{H':Heap}(h:bW β H aG H'):oD N β H aG H':=
 ⟨fun b _=>h.box b,fun b _=>h.it b,fun b _=>h.map b,fun b ar ai k es _=>h.arr b ar ai k es,fun b _=>h.loop b⟩
theorem oD.full{β:Bd}{H:Heap}{aG:Bd}{H':Heap}(h:oD H.length β H aG H'):bW β H aG H':=by
 have lt:∀b v,aF H (b,v)->b<H.length:=fun b v⟨o,c,_⟩=>(ck.1 c).1;exact⟨fun b x=>h.box b (lt _ _ x) x,fun b x=>h.it b (lt _ _ x) x,fun b x=>h.map b (lt _ _ x) x,fun b ar ai k a x=>h.arr b ar ai k a (lt _ _ x) x,fun b x=>h.loop b (lt _ _ x) x⟩
theorem oD.trans{N:Nat}{β l m:Bd}{H H1 j:Heap}(h:oD N β H l H1)(hi:∀x,x.1<N->aF H x->aF H1 x)(i:oD N l H1 m j):oD N β H m j:=by
 refine⟨?_,?_,?_,?_,?_⟩
 ·intro b a c g;obtain⟨d,a2⟩:=i.box b a (hi (b,0) a c) g;obtain⟨e,f⟩:=h.box b a c d;exact⟨e,a2.trans f⟩
 ·intro b a c g;obtain⟨d,a2⟩:=i.it b a (hi (b,0) a c) g;obtain⟨e,f⟩:=h.it b a c d;exact⟨e,a2.trans f⟩
 ·intro b a c g;obtain⟨d,a2⟩:=i.map b a (hi (b,0) a c) g;obtain⟨e,f⟩:=h.map b a c d;exact⟨e,a2.trans f⟩
 ·intro b ar ai k p a c g;obtain⟨k1,q,d,a2,a3,a4⟩:=i.arr b ar ai k p a (hi (b,ar) a c) g;obtain⟨k0,gd,e,f,n,o⟩:=h.arr b ar ai k1 q a c d;refine⟨k0,gd,e,ec f a2,a3.trans n,fun a=>?_⟩;obtain⟨c1,c2⟩:=a4 a;obtain⟨d1,d2⟩:=o (fun x=>a (a3.2 x));exact⟨c1.trans d1,c2.trans d2⟩
 ·intro b a c g;obtain⟨d,a2⟩:=i.loop b a (hi (b,0) a c) g;obtain⟨e,f⟩:=h.loop b a c d;exact⟨e,a2.trans f⟩
structure dD(N:Nat)(ah aa:Nat->Prop)(w:a7)(β:Bd)(H:Heap)(jx aD:Nat->Prop)(w':a7)(aG:Bd)(H':Heap):Prop where
 dQ:∀k,ah k->jx k
 bM:∀k,aa k->aD k
 fresh:∀k,aD k->aa k\/¬ah k
 ext:Ext ah aa w w'
 step:oD N β H aG H'
 eM:∀x,x.1<N->aF H x->aF H' x
 loop:∀b,b<N->gv H b->gv H' b
theorem dD.refl(N:Nat)(ah aa:Nat->Prop)(w:a7)(β:Bd)(H:Heap):dD N ah aa w β H ah aa w β H:=
 ⟨fun _ h=>h,fun _ h=>h,fun _ h=>.inl h,Ext.refl _ _ _,(bW.refl _ _).n,fun _ _ h=>h,fun _ _ h=>h⟩
theorem Ext.trans{ah aa jx aD:Nat->Prop}{w w1 b:a7}(c:∀k,ah k->jx k)(hi:∀k,aa k->aD k)(h:Ext ah aa w w1)(a:Ext jx aD w1 b):Ext ah aa w b:=
 ⟨ec h.size a.size,fun k hk=>(a.same k (hk.imp (c k) (hi k))).trans (h.same k hk),a.io.1.trans h.io.1,a.io.2.trans h.io.2⟩
theorem dD.trans{N:Nat}{ah aa g e i f:Nat->Prop}{w w1 j:a7}{β l m:Bd}{H H1 d:Heap}(h:dD N ah aa w β H g e w1 l H1)(a:dD N g e w1 l H1 i f j m d):dD N ah aa w β H i f j m d:=
 ⟨fun k x=>a.dQ k (h.dQ k x),fun k x=>a.bM k (h.bM k x),fun k x=>(a.fresh k x).elim (fun y=>h.fresh k y) (fun y=>.inr fun z=>y (h.dQ k z)),h.ext.trans h.dQ h.bM a.ext,
  h.step.trans h.eM a.step,fun x c hx=>a.eM x c (h.eM x c hx),fun b c n=>a.loop b c (h.loop b c n)⟩
theorem bO.eU{P:a0}{N:Nat}{ah aa aD:Nat->Prop}{w w':a7}{β aG:Bd}{H H':Heap}(h:bO P ah aa w β H aD w' aG H'):dD N ah aa w β H ah aD w' aG H':=
 ⟨fun _ x=>x,h.bM,h.fresh,h.ext,h.step.n,fun x _=>h.eM x,fun b _=>h.loop b⟩
section
variable{P:a0}{ah aa aD:Nat->Prop}{w w':a7}{β aG:Bd}{H H':Heap}
theorem eP.uw(a:w'.heap=w.heap){b:Nat}{o:Obj}(h:eP P w aa β H ah b o)(g:o.refs (aF H)):eP P w' aa β H ah b o:=by
 have p:=fun(v:AV) cs m=>bd.mono (P:=P) (w:=w) (w':=w') (aa:=aa) (aD:=aa) (β:=β) (aG:=β) (H:=H) (H':=H) (fun _ x=>x) (fun k _=>by rw[a]) (bW.refl β H) v cs m;have q:=fun l(v:List AV) cs m=>bF.mono (P:=P) (w:=w) (w':=w') (aa:=aa) (aD:=aa) (β:=β) (aG:=β) (H:=H) (H':=H) (fun _ x=>x) (fun k _=>by rw[a]) (bW.refl β H) l v cs m;have r:=fun(i:List (PV×PV)) f=>b9.mono (P:=P) (w:=w) (w':=w') (aa:=aa) (aD:=aa) (fun _ x=>x) (fun k _=>by rw[a]) i f;cases o with
 |hole=>trivial
 |dead=>trivial
 |box fz t=>
  obtain⟨cs,T,c,d,e⟩:=h;exact⟨cs,T,by rw[a];exact c,p _ _ g d,e⟩
 |arr k ar ai i=>
  rcases h with h|⟨cs,T,n,rest,c,d,e⟩
  ·exact .inl h
  ·exact .inr ⟨cs,T,n,rest,by rw[a];exact c,q _ _ _ g d,e⟩
 |map fz i=>
  obtain⟨f,clock,c,d,e⟩:=h;exact⟨f,clock,by rw[a];exact c,r _ _ d,e⟩
 |cZ ks vs=>
  obtain⟨f,clock,c,d,e,j⟩:=h;exact⟨f,clock,by rw[a];exact c,bm.mono (fun _ x=>x) (fun _ _=>by rw[a]) _ _ d,bp.mono (fun _ x=>x) (fun _ _=>by rw[a]) (bW.refl _ _) _ _ g e,j⟩
 |dd s pos=>
  obtain⟨bs,c,d⟩:=h;exact⟨bs,by rw[a];exact c,d⟩
 |loop L=>
  obtain⟨tmps,defers,fn,c,d,e,j⟩:=h;exact⟨tmps,defers,fn,by rw[a];exact c,d,fun x=>au.mono (fun _ x=>x) (fun _ _=>by rw[a]) (bW.refl _ _) _ _ (g x) (e x),j⟩
theorem bL.uw(a:w'.heap=w.heap)(h:bL P w aa β H ah):bL P w' aa β H ah:=
 ⟨fun b o c=>(h.cg b o c).uw a (h.refs b o c),h.inj,h.refs,fun k hk=>by rw[a];exact h.bM k hk,fun k hk=>by rw[a];exact h.dQ k hk,h.gO.mono (fun _ x=>x) (fun _ _=>by rw[a])⟩
theorem bL.lY(h:bL P w aa β H ah){b:Nat}{o:Obj}(f:H[b]?=some o)(d:o.live):β.ak b<w.heap.size:=by
 have c:=h.cg b o f;cases o with
 |hole=>exact d.elim
 |dead=>exact d.elim
 |box fz t=>obtain⟨cs,T,a,_⟩:=c;exact(av.1 a).1
 |arr k ar ai es=>
  rcases c with c|⟨cs,T,g,rest,a,_⟩
  ·exact(d c).elim
  ·exact(av.1 a).1
 |map fz es=>obtain⟨e,clock,a,_⟩:=c;exact(av.1 a).1
 |cZ ks vs=>obtain⟨e,clock,a,_⟩:=c;exact(av.1 a).1
 |dd s pos=>obtain⟨bs,a,_⟩:=c;exact(av.1 a).1
 |loop L=>obtain⟨_,_,_,a,_⟩:=c;exact(av.1 a).1
theorem bO.set{b:Nat}{o':Obj}(i:bL P w aa β H ah)(r:b<H.length)(n:∀x,x≠b->aG.ak x=β.ak x/\aG.cap x=β.cap x)
 (g:∀k,aa k->aD k)(Q:∀k,aD k->aa k\/(k=aG.ak b/\o'.live))(ag:∀k,aD k->k<w'.heap.size)
 (V:w.heap.size<=w'.heap.size)(J:∀k,(k≠aG.ak b\/¬o'.live)->k<w.heap.size->w'.heap[k]?=w.heap[k]?)
 (F:o'.live->w.heap.size<=aG.ak b\/(aG.ak b=β.ak b/\(∃o,H[b]?=some o/\o.live)/\((∀k,k=β.ak b->w'.heap[k]?=w.heap[k]?)\/¬aa (β.ak b))/\¬ah (β.ak b)))
 (aH:bW β H aG (H.set b o'))(al:eP P w' aD aG (H.set b o') ah b o')(am:o'.refs (aF (H.set b o')))(ak:∀(o:Obj)(v:Nat),H[b]?=some o->o.has v->o'.has v)(af:∀L,H[b]?=some (.loop L)->∃C,o'=.loop C)(ae:w'.os=w.os/\w'.output=w.output:=by exact⟨rfl,rfl⟩):
 bO P ah aa w β H aD w' aG (H.set b o'):=by
 have A:∀x o,x≠b->H[x]?=some o->o.live->¬aa (β.ak x)->o'.live->β.ak x≠aG.ak b:=by
  intro x o hx d e j u he;rcases F u with a|⟨a,⟨an,c,f⟩,_⟩
  ·have:=i.lY d e;omega
  ·rw[a]at he;exact hx (i.inj x b o an d c e f j he)
 have U:o'.live->¬ah (aG.ak b):=by
  intro e G;rcases F e with a|⟨a,_,_,c⟩
  ·have:=i.dQ _ G;omega
  ·rw[a]at G;exact c G
 have l:∀k,ah k\/aa k->w'.heap[k]?=w.heap[k]?:=by
  intro k hk;have R:k<w.heap.size:=hk.elim (i.dQ k) (i.bM k)
  by_cases z:k=aG.ak b
  ·by_cases e:o'.live
   ·rcases hk with hk|hk
    ·exact(U e (z▸hk)).elim
    ·rcases F e with a|⟨a,_,c,_⟩
     ·omega
     ·rcases c with c|c
      ·exact c k (z.trans a)
      ·exact(c (by rw[<-a,<-z];exact hk)).elim
   ·exact J k (.inr e) R
  ·exact J k (.inl z) R
 have aj:∀x,aF H x->aF (H.set b o') x:=by
  rintro⟨x,v⟩ ⟨o,d,S⟩
  by_cases hx:x=b
  ·subst hx;exact⟨o',by simp[cv r],ak o v d S⟩
  ·exact⟨o,by simp only;rw[ce (ei hx)];exact d,S⟩
 have hrefs:∀v,aB (aF H) v->aB (aF (H.set b o')) v:=aB.mono aj;refine⟨g,fun k hk=>(Q k hk).imp id (fun(h:k=aG.ak b/\o'.live)=>h.1▸U h.2),⟨V,l,ae⟩,aH,⟨?_,?_,?_,ag,fun k hk=>ed (i.dQ k hk) V,i.gO.mono g (fun k hk=>l k (.inr hk))⟩,aj,?_⟩
 ·intro x o d
  by_cases hx:x=b
  ·subst hx;rw[cv r]at d;cases d;exact al
  ·rw[ce (ei hx)]at d;have m:=i.cg x o d;have B:=i.refs x o d;have O:=(n x hx).1;have E:=(n x hx).2;have hs:o.live->w'.heap[aG.ak x]?=w.heap[β.ak x]?:=by
    intro e;rw[O]
    by_cases j:aa (β.ak x)
    ·exact l _ (.inr j)
    refine J _ ?_ (i.lY d e)
    by_cases u:o'.live
    ·exact .inl (A x o hx d e j u)
    ·exact .inr u
   have held:∀fz,o.live->b8 aa β ah fz x->b8 aD aG ah fz x:=by
    intro fz e q;unfold b8 at q⊢;rw[O];cases fz with
    |true=>simp only[if_true]at q⊢;exact g _ q
    |false=>
     simp only[Bool.false_eq_true,if_false]at q⊢;refine⟨fun h=>?_,q.2⟩;rcases Q _ h with h|⟨h,u⟩
     ·exact q.1 h
     ·exact A x o hx d e q.1 u h
   cases o with
   |hole=>trivial
   |dead=>trivial
   |box fz t=>
    obtain⟨cs,T,a,c,f,p⟩:=m;exact⟨cs,T,(hs trivial).trans a,bd.mono g (fun k hk=>l k (.inr hk)) aH _ _ B c,held _ trivial f,p⟩
   |arr k ar ai es=>
    rcases m with m|⟨cs,T,Y,rest,a,c,f,p,Z,ab,ac,ad⟩
    ·exact .inl m
    ·by_cases e:cO k es
     ·exact .inl e
     ·refine .inr ⟨cs,T,Y,rest,(hs e).trans a,bF.mono g (fun k hk=>l k (.inr hk)) aH _ _ _ B c,f,?_,?_,?_,held _ e ac,ad⟩
      ·rw[E];exact p
      ·rw[E];exact Z
      ·rw[E];exact ab
   |map fz es=>
    obtain⟨D,clock,a,c,f⟩:=m;exact⟨D,clock,(hs trivial).trans a,b9.mono g (fun k hk=>l k (.inr hk)) _ _ c,held _ trivial f⟩
   |cZ ks vs=>
    obtain⟨D,clock,a,c,f,p⟩:=m;exact⟨D,clock,(hs trivial).trans a,bm.mono g (fun k hk=>l k (.inr hk)) _ _ c,bp.mono g (fun k hk=>l k (.inr hk)) aH _ _ B f,held _ trivial p⟩
   |dd s pos=>
    obtain⟨bs,a,c,f⟩:=m;exact⟨bs,(hs trivial).trans a,c,held _ trivial f⟩
   |loop L=>
    obtain⟨tmps,defers,fn,a,c,f,p⟩:=m;exact⟨tmps,defers,fn,(hs trivial).trans a,c,fun x=>au.mono g (fun k hk=>l k (.inr hk)) aH _ _ (B x) (f x),held _ trivial p⟩
 ·intro x y W X a c K M j he
  by_cases hx:x=b<;>by_cases hy:y=b
  ·rw[hx,hy]
  ·subst hx;rw[cv r]at a;cases a;rw[ce (ei hy)]at c;rw[(n y hy).1]at he;exact(A y X hy c M (fun hi=>j (he▸g _ hi)) K he.symm).elim
  ·subst hy;rw[cv r]at c;cases c;rw[ce (ei hx)]at a;rw[(n x hx).1]at he;rw[(n x hx).1]at j;exact(A x W hx a K (fun hi=>j (g _ hi)) M he).elim
  ·rw[ce (ei hx)]at a;rw[ce (ei hy)]at c;rw[(n x hx).1,(n y hy).1]at he;rw[(n x hx).1]at j;exact i.inj x y W X a c K M (fun hi=>j (g _ hi)) he
 ·intro x o d
  by_cases hx:x=b
  ·subst hx;rw[cv r]at d;cases d;exact am
  ·rw[ce (ei hx)]at d;have:=i.refs x o d;cases o with
   |box fz t=>exact hrefs _ this
   |arr k ar ai es=>exact cq.2 fun v I=>hrefs v (cq.1 this v I)
   |cZ ks vs=>exact cq.2 fun v I=>hrefs v (cq.1 this v I)
   |loop L=>exact fun x=>hrefs _ (this x)
   |_=>trivial
 ·rintro x ⟨L,N⟩
  by_cases hx:x=b
  ·subst hx;obtain⟨C,rfl⟩:=af L N;exact⟨C,cv r⟩
  ·exact⟨L,by rw[ce (ei hx)];exact N⟩
end
end Go.al
namespace Go.al
variable[Gl]
def bg(P:a0)(o:Oper)(ρ:a9->AV)(a:Nat)(e:aS):Prop:=
 ∀(H:Heap)(w:a7)(aa ah:Nat->Prop)(β:Bd)(ρc:a9->a5),
  bL P w aa β H ah->(∀x∈o.op.operands,au P w aa β H (ρ x) (ρc x)/\aB (aF H) (ρ x))->(∀p∈e.aj,H[p.1]?=some p.2)->(∀i,i<e.aP.length->H[a+i]?=some .hole)->
  ∃n b w' aG aD,(be ρc o).run P w=.ok n w'/\(n=.value b\/n=.skip/\b=undef)/\
   bO P ah aa w β H aD w' aG (br H (e.aI++newAt a e.aP))/\au P w' aD aG (br H (e.aI++newAt a e.aP)) e.v b/\
   aB (aF (br H (e.aI++newAt a e.aP))) e.v
section
variable{P:a0}{ah aa aD:Nat->Prop}{w w':a7}{β aG:Bd}{H H':Heap}
theorem bO.refl(h:bL P w aa β H ah):bO P ah aa w β H aa w β H:=
 ⟨fun _ x=>x,fun _ x=>.inl x,Ext.refl _ _ _,bW.refl _ _,h,fun _ x=>x,fun _ x=>x⟩
theorem bg.same{o:Oper}{ρ:a9->AV}{c:Nat}{v:AV}{aj:List (Nat×Obj)}
 (h:∀(H:Heap)(w:a7)(aa ah:Nat->Prop)(β:Bd)(ρc:a9->a5),bL P w aa β H ah->(∀x∈o.op.operands,au P w aa β H (ρ x) (ρc x)/\aB (aF H) (ρ x))->
  (∀p∈aj,H[p.1]?=some p.2)->∃a,(be ρc o).run P w=.ok (.value a) w/\au P w aa β H v a/\aB (aF H) v):
 bg P o ρ c {v,aj}:=by
 intro H w aa ah β ρc b i g _;obtain⟨a,d,e,f⟩:=h H w aa ah β ρc b i g;exact⟨_,a,w,β,aa,d,.inl rfl,by simpa[newAt,br]using bO.refl b,by simpa[newAt,br]using e,by simpa[newAt,br]using f⟩
theorem bO.trans{j l:Nat->Prop}{w1 n:a7}{o p:Bd}{H1 i:Heap}(h:bO P ah aa w β H j w1 o H1)(c:bO P ah j w1 o H1 l n p i):bO P ah aa w β H l n p i:=by
 refine⟨fun k x=>c.bM k (h.bM k x),fun k x=>(c.fresh k x).elim (h.fresh k) .inr,h.ext.trans (fun _ x=>x) h.bM c.ext,⟨?_,?_,?_,?_,?_⟩,c.rel,fun b a=>c.eM b (h.eM _ a),fun b a=>c.loop b (h.loop b a)⟩
 ·intro b a g;obtain⟨d,a2⟩:=c.step.box b (h.eM _ a) g;obtain⟨e,f⟩:=h.step.box b a d;exact⟨e,a2.trans f⟩
 ·intro b a g;obtain⟨d,a2⟩:=c.step.it b (h.eM _ a) g;obtain⟨e,f⟩:=h.step.it b a d;exact⟨e,a2.trans f⟩
 ·intro b a g;obtain⟨d,a2⟩:=c.step.map b (h.eM _ a) g;obtain⟨e,f⟩:=h.step.map b a d;exact⟨e,a2.trans f⟩
 ·intro b ar ai k s a g;obtain⟨k1,t,d,a2,a3,a4⟩:=c.step.arr b ar ai k s (h.eM _ a) g;obtain⟨k0,gd,e,f,q,r⟩:=h.step.arr b ar ai k1 t a d;refine⟨k0,gd,e,ec f a2,a3.trans q,fun m=>?_⟩;obtain⟨c1,c2⟩:=a4 m;obtain⟨d1,d2⟩:=r (fun x=>m (a3.2 x));exact⟨c1.trans d1,c2.trans d2⟩
 ·intro b a g;obtain⟨d,a2⟩:=c.step.loop b (h.eM _ a) g;obtain⟨e,f⟩:=h.step.loop b a d;exact⟨e,a2.trans f⟩
theorem zW(H:Heap)(l r:List (Nat×Obj)):br H (l++r)=br (br H l) r:=by
 induction l generalizing H with
 |nil=>rfl
 |cons p l a=>obtain⟨b,o⟩:=p;simp[br,a]
theorem nK(H:Heap)(l:List (Nat×Obj)):(br H l).length=H.length:=by
 induction l generalizing H with
 |nil=>rfl
 |cons p l a=>obtain⟨b,o⟩:=p;simp[br,a]
theorem wK(H T:Heap)(l:List (Nat×Obj))(h:∀p∈l,p.1<H.length):br (H++T) l=br H l++T:=by
 induction l generalizing H with
 |nil=>rfl
 |cons p l c=>
  obtain⟨b,o⟩:=p;have a:b<H.length:=h (b,o) (by simp);simp only[br];rw[List.set_append_left _ _ a,c];intro q hq;rw[List.length_set];exact h q (by simp[hq])
theorem Ah(H:Heap)(l:List Obj):br (H++cc l.length .hole) (newAt H.length l)=H++l:=by
 induction l generalizing H with
 |nil=>simp[newAt,br]
 |cons o l a=>
  simp only[newAt,br,dz,dk];rw[List.set_append_right _ _ (eb _)];simp only[Nat.sub_self,dl];have:=a (H++[o]);simp only[dp,List.length_singleton,dq,List.singleton_append]at this;exact this
theorem jB(H:Heap)(m b:Nat):(H++cc m Obj.hole)[b]?=if b<H.length then H[b]? else if b<H.length+m then some .hole else none:=by
 by_cases h:b<H.length
 ·simp[h,cx]
 ·rw[c6 (by omega)];simp only[List.getElem?_replicate,h,if_false]
  by_cases a:b<H.length+m
  ·simp[a,show b-H.length<m by omega]
  ·simp[a,show¬(b-H.length<m)by omega]
theorem mE{H:Heap}{m b:Nat}{o:Obj}(h:(H++cc m Obj.hole)[b]?=some o):H[b]?=some o\/o=.hole:=by
 rw[jB]at h
 split at h
 ·exact .inl h
 ·split at h
  ·exact .inr (by simpa using h.symm)
  ·simp at h
theorem lU(H:Heap)(m:Nat)(b:Nat×Nat)(h:aF H b):aF (H++cc m Obj.hole) b:=by
 obtain⟨o,a,d⟩:=h;have c:b.1<H.length:=(ck.1 a).1;exact⟨o,by rw[jB,if_pos c];exact a,d⟩
theorem nM(β:Bd)(H:Heap)(m:Nat):bW β H β (H++cc m .hole):=by
 refine⟨?_,?_,?_,?_,?_⟩
 ·rintro b _ ⟨fz,t,h⟩;rcases mE h with h|h<;>simp_all [l6]
 ·rintro b _ ⟨fz,t,h⟩;rcases mE h with h|h<;>simp_all [l7]
 ·rintro b _ ⟨o,h,a⟩;rcases mE h with h|rfl
  ·exact⟨⟨o,h,a⟩,rfl⟩
  ·exact a.elim
 ·intro b ar ai k c _ h;rcases mE h with h|h
  ·exact⟨k,c,h,eb _,Iff.rfl,fun _=>⟨rfl,rfl⟩⟩
  ·simp at h
 ·rintro b _ ⟨L,h⟩;rcases mE h with h|h<;>simp_all [gv]
theorem Obj.uy{S T:Nat×Nat->Prop}(h:∀x,S x->T x):∀{o:Obj},o.refs S->o.refs T
 | .box _ t,a=>aB.mono h t a
 | .arr _ _ _ es,a=>aQ.mono h es a
 | .cZ _ vs,a=>aQ.mono h vs a
 | .loop _L,a=>fun x=>aB.mono h _ (a x)
 | .hole,_| .dead,_| .map _ _,_| .dd _ _,_=>trivial
theorem bL.mj(m:Nat)(h:bL P w aa β H ah):bL P w aa β (H++cc m .hole) ah:=by
 refine⟨?_,?_,?_,h.bM,h.dQ,h.gO⟩
 ·intro b o d;rcases mE d with d|rfl
  ·have e:=h.cg b o d;have g:=h.refs b o d;have st:=nM β H m;cases o with
   |hole=>trivial
   |dead=>trivial
   |box fz t=>
    obtain⟨cs,T,a,c,f⟩:=e;exact⟨cs,T,a,bd.mono (fun _ x=>x) (fun _ _=>rfl) st _ _ g c,f⟩
   |arr k ar ai es=>
    rcases e with e|⟨cs,T,n,rest,a,c,f⟩
    ·exact .inl e
    ·exact .inr ⟨cs,T,n,rest,a,bF.mono (fun _ x=>x) (fun _ _=>rfl) st _ _ _ g c,f⟩
   |map fz es=>exact e
   |cZ ks vs=>
    obtain⟨p,clock,a,c,f,i⟩:=e;exact⟨p,clock,a,c,bp.mono (fun _ x=>x) (fun _ _=>rfl) st _ _ g f,i⟩
   |dd s pos=>exact e
   |loop L=>
    obtain⟨tmps,defers,fn,a,c,f,i⟩:=e;exact⟨tmps,defers,fn,a,c,fun x=>au.mono (fun _ x=>x) (fun _ _=>rfl) st _ _ (g x) (f x),i⟩
  ·trivial
 ·intro x y u v a c j l r q;rcases mE a with a|rfl
  ·rcases mE c with c|rfl
   ·exact h.inj x y u v a c j l r q
   ·exact l.elim
  ·exact j.elim
 ·intro b o d;rcases mE d with d|rfl
  ·exact Obj.uy (lU H m) (h.refs b o d)
  ·trivial
theorem bg.use{o:Oper}{ρ:a9->AV}{e:aS}(h:bg P o ρ H.length e){ρc:a9->a5}(k:bL P w aa β H ah)
 (c:∀x∈o.op.operands,au P w aa β H (ρ x) (ρc x)/\aB (aF H) (ρ x))(aj:∀p∈e.aj,H[p.1]?=some p.2)(aI:∀p∈e.aI,p.1<H.length):
 ∃n a w' aG aD,(be ρc o).run P w=.ok n w'/\(n=.value a\/n=.skip/\a=undef)/\
  bO P ah aa w β H aD w' aG (br H e.aI++e.aP)/\au P w' aD aG (br H e.aI++e.aP) e.v a/\aB (aF (br H e.aI++e.aP)) e.v:=by
 have aH:=nM β H e.aP.length;obtain⟨n,a,w',aG,aD,m,q,d,f,g⟩:=h (H++cc e.aP.length .hole) w aa ah β ρc (k.mj _)
  (fun x hx=>⟨au.mono (fun _ x=>x) (fun _ _=>rfl) aH _ _ (c x hx).2 (c x hx).1,aB.mono (lU _ _) _ (c x hx).2⟩)
  (fun p s=>by have:=aj p s;rw[jB,if_pos (ck.1 this).1];exact this)
  (fun i hi=>by rw[jB,if_neg (by omega),if_pos (by omega)])
 have r:br (H++cc e.aP.length .hole) (e.aI++newAt H.length e.aP)=br H e.aI++e.aP:=by
  rw[zW,wK _ _ _ aI];have:=Ah (br H e.aI) e.aP
  rwa [nK]at this
 rw[r]at d f g;refine⟨n,a,w',aG,aD,m,q,?_,f,g⟩;have l:bO P ah aa w β H aa w β (H++cc e.aP.length .hole):=⟨fun _ x=>x,fun _ x=>.inl x,Ext.refl _ _ _,aH,k.mj _,lU _ _,fun b⟨L,j⟩=>⟨L,by rw[jB,if_pos (ck.1 j).1];exact j⟩⟩
 exact l.trans d
theorem qI.use{f:a8}{args:List AV}{e:aS}(h:qI P f args H.length e)(m:oL H e){c:List a5}(n:bL P w aa β H ah)(r:bp P w aa β H args c)(o:aQ (aF H) args):
 bv P f c.toArray w fun x w'=>∃a aG aD,x=.returned a/\bO P ah aa w β H aD w' aG (br H e.aI++e.aP)/\au P w' aD aG (br H e.aI++e.aP) e.v a/\aB (aF (br H e.aI++e.aP)) e.v:=by
 have aH:=nM β H e.aP.length;refine(h.2 (H++cc e.aP.length .hole) w aa ah β c (n.mj _)
  (bp.mono (fun _ x=>x) (fun _ _=>rfl) aH _ _ o r) (aQ.mono (lU _ _) _ o)
  (fun p d=>by have:=m.1 p d;rw[jB,if_pos (ck.1 this).1];exact this)
  (fun i hi=>by rw[jB,if_neg (by omega),if_pos (by omega)])).mono ?_
 rintro x w' ⟨a,aG,aD,rfl,g,j,k⟩;have s:br (H++cc e.aP.length .hole) (e.aI++newAt H.length e.aP)=br H e.aI++e.aP:=by
  rw[zW,wK _ _ _ (fun p d=>(m.2 p d).1)];have:=Ah (br H e.aI) e.aP
  rwa [nK]at this
 rw[s]at g j k;have q:bO P ah aa w β H aa w β (H++cc e.aP.length .hole):=⟨fun _ x=>x,fun _ x=>.inl x,Ext.refl _ _ _,aH,n.mj _,lU _ _,fun b⟨L,l⟩=>⟨L,by rw[jB,if_pos (ck.1 l).1];exact l⟩⟩
 exact⟨a,aG,aD,rfl,q.trans g,j,k⟩
end
def kM(P:a0)(ag:a8->Bool):Prop:=
 ∀(o:Oper)(ρ:a9->AV)(H:Heap)(K:aS->Prop),(∀v,ρ (.const v)=.p (ofConst v))->fk P ag o ρ H K->
  ∃e,K e/\bg P o ρ H.length e/\(∀p∈e.aj,H[p.1]?=some p.2)/\(∀p∈e.aI,p.1<H.length/\p.2≠.hole)
section
variable{P:a0}{ag:a8->Bool}{n:Nat}
theorem GD{w:a7}{aa:Nat->Prop}(v:a5):aA P w aa (ofConst v) v:=by
 unfold ofConst
 split<;>simp[aA]
theorem mY{ah aa:Nat->Prop}{β:Bd}{s:St}{t:Array a5}{w:a7}(h:cw P n ah aa β s t w)(x:a9):
 au P w aa β s.heap (ev s.env x) (fo t x)/\aB (aF s.heap) (ev s.env x):=by
 cases x with
 |tmp x=>exact⟨h.env x,h.ga x⟩
 |const v=>exact⟨by simp only[ev,fo,au];exact GD v,by simp[ev,aB]⟩
 |global g=>exact⟨by simp only[ev,fo,au];exact h.heap.gO.val g,by simp[ev,aB]⟩
 |func f=>exact⟨by simp[ev,fo,au,aA,bm],by simp[ev,aB]⟩
def iv(n:Nat)(o:Oper):Bool:=
 match o.dst with
 |some d=>decide (d<n)
 |none=>true
theorem uk(e:Env)(dst:Option Tmp)(v:AV)(x:Nat):aK (put dst v e) x=if dst=some x then v else aK e x:=by
 cases dst with
 |none=>simp[put]
 |some d=>
  simp only[put,aK,Option.some.injEq]
  by_cases h:x=d
  ·simp[h]
  ·simp[h,ei h]
theorem Uo{n:Nat}{o:Oper}(a:iv n o=true){t:Array a5}(c:t.size=n)(v:a5)(x:Nat):(mw o.dst v t).getD x undef=if o.dst=some x then v else t.getD x undef:=by
 unfold iv at a;cases b:o.dst with
 |none=>simp[mw]
 |some d=>
  simp only[b,decide_eq_true_eq]at a;simp only[mw,Option.some.injEq]
  by_cases h:d=x
  ·subst h;simp[c,a]
  ·simp only[h,if_false,Array.getD_eq_getD_getElem?,Array.getElem?_setIfInBounds_ne h]
theorem TZ{t:Array a5}(dst:Option Tmp)(v:a5):(mw dst v t).size=t.size:=by cases dst<;>simp[mw]
theorem cw.put{ah aa aD:Nat->Prop}{β aG:Bd}{s:St}{H':Heap}{t:Array a5}{w w':a7}{o:Oper}{v:AV}{b:a5}(h:cw P n ah aa β s t w)(c:iv n o=true)
 (a:bO P ah aa w β s.heap aD w' aG H')(e:au P w' aD aG H' v b)(d:aB (aF H') v):
 cw P n ah aD aG ⟨put o.dst v s.env,H'⟩ (mw o.dst b t) w':=by
 refine⟨a.rel,fun x=>?_,fun x=>?_,by rw[TZ];exact h.size⟩
 ·rw[uk,Uo c h.size]
  split
  ·exact e
  ·exact au.mono a.bM (fun k hk=>a.ext.same k (.inr hk)) a.step _ _ (h.ga x) (h.env x)
 ·rw[uk]
  split
  ·exact d
  ·exact aB.mono a.eM _ (h.ga x)
theorem It{H T:Heap}{b:Nat×Nat}(h:aF H b):aF (H++T) b:=by
 obtain⟨o,a,c⟩:=h;exact⟨o,by rw[cx (ck.1 a).1];exact a,c⟩
theorem bL.later{ah aa aD:Nat->Prop}{w w':a7}{β:Bd}{H:Heap}(h:bL P w aa β H ah)(e:∀k,aa k->aD k)(hf:∀k,aD k->aa k\/w.heap.size<=k)
 (B:∀k,aD k->k<w'.heap.size)(q:w.heap.size<=w'.heap.size)(hs:∀k,k<w.heap.size->w'.heap[k]?=w.heap[k]?)(A:w'.os=w.os/\w'.output=w.output:=by exact⟨rfl,rfl⟩):bO P ah aa w β H aD w' β H:=by
 have same:∀k,aa k->w'.heap[k]?=w.heap[k]?:=fun k hk=>hs k (h.bM k hk);refine⟨e,fun k hk=>(hf k hk).imp id (fun c a=>by have:=h.dQ k a;omega),⟨q,fun k hk=>hs k (hk.elim (h.dQ k) (h.bM k)),A⟩,bW.refl _ _,?_,fun _ x=>x,fun _ x=>x⟩;refine⟨fun b o m=>?_,fun b b' o o' c a D E C=>h.inj b b' o o' c a D E (fun hi=>C (e _ hi)),h.refs,B,fun k hk=>ed (h.dQ k hk) q,h.gO.mono e same⟩;have f:=h.cg b o m;have n:=h.refs b o m;have held:∀fz,o.live->b8 aa β ah fz b->b8 aD β ah fz b:=by
  intro fz i l;have:=h.lY m i;unfold b8 at l⊢;cases fz with
  |true=>exact e _ l
  |false=>exact⟨fun x=>(hf _ x).elim l.1 (by omega),l.2⟩
 have j:o.live->w'.heap[β.ak b]?=w.heap[β.ak b]?:=fun i=>hs _ (h.lY m i);cases o with
 |hole=>trivial
 |dead=>trivial
 |box fz t=>
  obtain⟨cs,T,c,a,d,g⟩:=f;exact⟨cs,T,(j trivial).trans c,bd.mono e same (bW.refl _ _) _ _ n a,held _ trivial d,g⟩
 |arr k ar ai es=>
  rcases f with f|⟨cs,T,r,rest,c,a,d,g,u,v,y,z⟩
  ·exact .inl f
  ·by_cases i:cO k es
   ·exact .inl i
   ·exact .inr ⟨cs,T,r,rest,(j i).trans c,bF.mono e same (bW.refl _ _) _ _ _ n a,d,g,u,v,held _ i y,z⟩
 |map fz es=>
  obtain⟨p,clock,c,a,d⟩:=f;exact⟨p,clock,(j trivial).trans c,b9.mono e same _ _ a,held _ trivial d⟩
 |cZ ks vs=>
  obtain⟨p,clock,c,a,d,g⟩:=f;exact⟨p,clock,(j trivial).trans c,bm.mono e same _ _ a,bp.mono e same (bW.refl _ _) _ _ n d,held _ trivial g⟩
 |dd s pos=>
  obtain⟨bs,c,a,d⟩:=f;exact⟨bs,(j trivial).trans c,a,held _ trivial d⟩
 |loop L=>
  obtain⟨tmps,defers,fn,c,a,d,g⟩:=f;exact⟨tmps,defers,fn,(j trivial).trans c,a,fun x=>au.mono e same (bW.refl _ _) _ _ (n x) (d x),held _ trivial g⟩
theorem nO{w:a7}{aa:Nat->Prop}{β:Bd}{H:Heap}:∀{a b:List AV}{x y:List a5},bp P w aa β H a x->bp P w aa β H b y->bp P w aa β H (a++b) (x++y)
 |[],b,x,y,h,c=>by simp only[bp]at h;subst h;simpa using c
 |v::a,b,x,y,h,c=>by
  simp only[bp]at h;obtain⟨z,f,rfl,d,e⟩:=h;simp only[ea,bp];exact⟨z,f++y,rfl,d,nO e c⟩
theorem je{S:Nat×Nat->Prop}{a b:List AV}(h:aQ S a)(d:aQ S b):aQ S (a++b):=by
 rw[cq]at*;intro v c;rcases List.mem_append.1 c with c|c
 ·exact h v c
 ·exact d v c
theorem uq{ah aa:Nat->Prop}{β:Bd}{s:St}{t:Array a5}{w:a7}(h:cw P n ah aa β s t w):∀l:List a9,
 bp P w aa β s.heap (l.map (ev s.env)) (l.map (fo t))/\aQ (aF s.heap) (l.map (ev s.env))
 |[]=>by simp[bp,aQ]
 |x::l=>by
  have a:=mY h x;have b:=uq h l;simp only[cy,bp,aQ];exact⟨⟨_,_,rfl,a.1,b.1⟩,a.2,b.2⟩
end
section
variable{P:a0}{w:a7}{aa ah:Nat->Prop}{β:Bd}{H:Heap}
def Bd.at(β:Bd)(b ak cap:Nat):Bd:=⟨fun x=>if x=b then ak else β.ak x,fun x=>if x=b then cap else β.cap x⟩
theorem xo{b:Nat}(f:H[b]?=some .hole)(o':Obj)(ak cap:Nat):bW β H (β.at b ak cap) (H.set b o'):=by
 have a:∀{x v},aF H (x,v)->x≠b:=by
  rintro x v ⟨o,d,i⟩ rfl;simp only at d;rw[f]at d;cases d;exact i
 have c:∀{x v},aF H (x,v)->(H.set b o')[x]?=H[x]?:=fun hx=>ce (ei (a hx));refine⟨?_,?_,?_,?_,?_⟩
 ·rintro x hx ⟨fz,t,h⟩;rw[c hx]at h;exact⟨⟨fz,t,h⟩,by simp[Bd.at,a hx]⟩
 ·rintro x hx ⟨fz,t,h⟩;rw[c hx]at h;exact⟨⟨fz,t,h⟩,by simp[Bd.at,a hx]⟩
 ·rintro x hx ⟨o,h,g⟩;rw[c hx]at h;exact⟨⟨o,h,g⟩,by simp[Bd.at,a hx]⟩
 ·intro x ar ai k e hx h;unfold et at h;rw[c hx]at h;exact⟨k,e,h,eb _,Iff.rfl,fun _=>by simp[Bd.at,a hx]⟩
 ·rintro x hx ⟨L,h⟩;rw[c hx]at h;exact⟨⟨L,h⟩,by simp[Bd.at,a hx]⟩
theorem rR(e:bL P w aa β H ah){a:Nat}(b:H[a]?=some .hole){ob:Go.Obj}{o':Obj}{cap:Nat}
 (g:eP P {w with heap:=w.heap.push ob} aa (β.at a w.heap.size cap) (H.set a o') ah a o')(h:o'.refs (aF (H.set a o'))):
 bO P ah aa w β H aa {w with heap:=w.heap.push ob} (β.at a w.heap.size cap) (H.set a o'):=by
 refine bO.set e (ck.1 b).1 (fun x hx=>by simp[Bd.at,hx]) (fun _ x=>x) (fun _ x=>.inl x) (fun k hk=>by have:=e.bM k hk;simp;omega) (by simp)
  (fun k _ hk=>by simp[ax,ee hk]) (fun _=>.inl (by simp[Bd.at])) (xo b _ _ _) g h (fun i v c f=>by rw[b]at c;cases c;exact f.elim) (fun L d=>by rw[b]at d;cases d)
theorem ug(w:a7)(a:Go.Obj){k:Nat}(hk:k<w.heap.size):({w with heap:=w.heap.push a}:a7).heap[k]?=w.heap[k]?:=by
 simp[ax,ee hk]
end
section
variable{P:a0}{w:a7}{aa aD ah:Nat->Prop}{β:Bd}{H:Heap}
def Row(P:a0)(w:a7)(aa:Nat->Prop)(β:Bd)(H:Heap)(ai:Nat)(a:List AV)(b:List (List a5)):Prop:=bF P w aa β H (cc a.length ai) a b
theorem gL{ai:Nat}{a:List (List a5)}:Row P w aa β H ai [] a↔a=[]:=by simp[Row,bF]
theorem pz{ai:Nat}{v:AV}{b:List AV}{a:List (List a5)}:Row P w aa β H ai (v::b) a↔∃c cs,a=c::cs/\bd P w aa β H v c/\c.length=ai/\Row P w aa β H ai b cs:=by
 simp[Row,dk,bF]
theorem kj{ai:Nat}:∀{a b:List AV}{d:List (List a5)},Row P w aa β H ai (a++b) d↔∃c1 c2,d=c1++c2/\Row P w aa β H ai a c1/\Row P w aa β H ai b c2
 |[],b,d=>by
  simp only[List.nil_append];constructor
  ·intro h;exact⟨[],d,rfl,gL.2 rfl,h⟩
  ·rintro⟨c1,c2,rfl,e,f⟩;rw[gL.1 e];simpa using f
 |v::a,b,d=>by
  simp only[ea,pz];constructor
  ·rintro⟨c,cs,rfl,e,f,g⟩;obtain⟨c1,c2,rfl,i,j⟩:=kj.1 g;exact⟨c::c1,c2,rfl,⟨c,c1,rfl,e,f,i⟩,j⟩
  ·rintro⟨c1,c2,rfl,⟨c,cs,rfl,e,f,g⟩,i⟩;exact⟨c,cs++c2,rfl,e,f,kj.2 ⟨cs,c2,rfl,g,i⟩⟩
theorem fA{ai:Nat}:∀{b:List AV}{a:List (List a5)},Row P w aa β H ai b a->a.length=b.length/\a.flatten.length=b.length*ai
 |[],a,h=>by rw[gL]at h;subst h;simp
 |v::b,a,h=>by
  rw[pz]at h;obtain⟨c,cs,rfl,f,d,e⟩:=h;have:=fA e;simp only[dz,List.flatten_cons,dp,this,d,Nat.succ_mul];exact⟨trivial,by omega⟩
theorem kW{ai:Nat}{a:List PV}{b:List (List a5)}:Row P w aa β H ai (a.map .p) b↔aY P w aa (cc a.length ai) a b:=by
 unfold Row;rw[List.length_map];exact mO
theorem jf{ai:Nat}{d:List AV}{e:List (List a5)}(h:Row P w aa β H ai d e)(off len:Nat)(k:off+len<=d.length):
 ∃a b c,e=a++b++c/\Row P w aa β H ai ((d.drop off).take len) b/\a.flatten.length=off*ai/\Row P w aa β H ai (d.take off) a/\Row P w aa β H ai (d.drop (off+len)) c:=by
 have e1:d=d.take off++((d.drop off).take len++d.drop (off+len)):=by
  rw[<-List.drop_drop,db,db]
 rw[e1,kj]at h;obtain⟨a,r,rfl,f,g⟩:=h;rw[kj]at g;obtain⟨b,c,rfl,i,j⟩:=g;refine⟨a,b,c,by simp,i,?_,f,j⟩;have:=(fA f).2;rw[this,List.length_take,Nat.min_eq_left (by omega)]
theorem kO{cs:Array a5}{T:a1}{fz:Nat×Nat}{ak:Nat}(a:w.heap[ak]?=some (.cells cs T fz)){pre xs post:List a5}(hc:cs.toList=pre++xs++post):
 gu w ak pre.length xs:=by
 intro i hi;have:cs[pre.length+i]?=some xs[i]:=by
  rw[<-Array.getElem?_toList,hc,dq,c6 (by omega)];simp only[Nat.add_sub_cancel_left];rw[cx hi,List.getElem?_eq_getElem hi]
 simp[World.cell?,a,this]
theorem z6(a:List PV)(off len:Nat):(((a.map AV.p).drop off).take len)=((a.drop off).take len).map .p:=by
 rw[<-List.map_drop,<-List.map_take]
theorem kX{H:Heap}{b:Nat}{d o:Obj}(c:H[b]?=some d)(e:∀v,d.has v->o.has v):∀x,aF H x->aF (H.set b o) x:=by
 rintro⟨x,v⟩ ⟨f,a,h⟩
 by_cases hx:b=x
 ·subst hx;simp only at a;rw[c]at a;cases a;exact⟨o,by simp only;rw[cv (ck.1 c).1],e v h⟩
 ·exact⟨f,by simp only;rw[ce hx];exact a,h⟩
theorem rA{b:Nat}{o o':Obj}(m:H[b]?=some o)(hk:(∃f g t,o= .box f t/\o'= .box g t)\/(∃k n v z c,o= .arr k v z c/\o'= .arr n v z c/\¬cO k c/\¬cO n c)\/(∃f g c,o= .map f c/\o'= .map g c)):
 bW β H β (H.set b o'):=by
 have u:b<H.length:=(ck.1 m).1;have i:∀x,x≠b->(H.set b o')[x]?=H[x]?:=fun x hx=>ce (ei hx);have e:(H.set b o')[b]?=some o':=cv u;refine⟨?_,?_,?_,?_,?_⟩
 ·rintro x _ ⟨fz,t,h⟩;refine⟨?_,rfl⟩
  by_cases hx:x=b
  ·subst hx;rw[e]at h;cases h;rcases hk with⟨f,g,l,d,a⟩|⟨_,_,_,_,_,_,a,_⟩|⟨_,_,_,_,a⟩
   ·exact⟨f,l,by rw[m,d]⟩
   ·cases a
   ·cases a
  ·rw[i x hx]at h;exact⟨fz,t,h⟩
 ·rintro x _ ⟨s,p,h⟩;refine⟨?_,rfl⟩
  by_cases hx:x=b
  ·subst hx;rw[e]at h;cases h;rcases hk with⟨f,g,l,d,a⟩|⟨_,_,_,_,_,_,a,_⟩|⟨_,_,_,_,a⟩<;>cases a
  ·rw[i x hx]at h;exact⟨s,p,h⟩
 ·rintro x _ ⟨w,h,j⟩;refine⟨?_,rfl⟩
  by_cases hx:x=b
  ·subst hx;rw[e]at h;cases h;rcases hk with⟨f,g,l,d,a⟩|⟨_,_,_,_,_,_,a,_⟩|⟨f,g,c,d,a⟩
   ·rw[a]at j;exact j.elim
   ·rw[a]at j;exact j.elim
   ·exact⟨o,m,by rw[d];trivial⟩
  ·rw[i x hx]at h;exact⟨w,h,j⟩
 ·intro x ar ai k c _ h
  by_cases hx:x=b
  ·subst hx;unfold et at h⊢;rw[e]at h;cases h;rcases hk with⟨f,g,l,d,a⟩|⟨k0,n,v,z,y,d,a,q,r⟩|⟨f,g,c,d,a⟩
   ·cases a
   ·cases a;exact⟨k0,c,by rw[m,d],eb _,⟨fun x=>(r x).elim,fun x=>(q x).elim⟩,fun _=>⟨rfl,rfl⟩⟩
   ·cases a
  ·unfold et at h⊢;rw[i x hx]at h;exact⟨k,c,h,eb _,Iff.rfl,fun _=>⟨rfl,rfl⟩⟩
 ·rintro x _ ⟨L,h⟩;refine⟨?_,rfl⟩
  by_cases hx:x=b
  ·subst hx;rw[e]at h;cases h;rcases hk with⟨f,g,l,d,a⟩|⟨_,_,_,_,_,_,a,_⟩|⟨_,_,_,_,a⟩<;>cases a
  ·rw[i x hx]at h;exact⟨L,h⟩
theorem b8.sG{fz:Bool}{b:Nat}(h:b8 aa β ah fz b):aa (β.ak b)\/(¬aa (β.ak b)/\¬ah (β.ak b)):=by
 cases fz with
 |true=>exact .inl h
 |false=>exact .inr h
theorem rG(e:bL P w aa β H ah){b:Nat}{o o':Obj}(f:H[b]?=some o)(r:o.live)(Q:o'.live)(A:∀v,o.has v->o'.has v)(u:∀L,o≠ .loop L)
 (aH:bW β H β (H.set b o'))(O:aa (β.ak b)\/(¬aa (β.ak b)/\¬ah (β.ak b)))
 (aP:∀aD:Nat->Prop,(∀k,aa k->aD k)->aD (β.ak b)->eP P w aD β (H.set b o') ah b o')(B:o'.refs (aF (H.set b o'))):
 ∃aD,bO P ah aa w β H aD w β (H.set b o')/\aD (β.ak b):=by
 have q:b<H.length:=(ck.1 f).1
 by_cases hi:aa (β.ak b)
 ·
  refine⟨aa,?_,hi⟩;have aj:=kX f A;refine⟨fun _ x=>x,fun _ x=>.inl x,Ext.refl _ _ _,aH,⟨?_,?_,?_,e.bM,e.dQ,e.gO⟩,aj,fun x⟨L,j⟩=>⟨L,by
   by_cases hx:b=x
   ·subst hx;rw[f]at j;cases j;exact(u L rfl).elim
   ·rw[ce hx];exact j⟩⟩
  ·intro x l d
   by_cases hx:x=b
   ·subst hx;rw[cv q]at d;cases d;exact aP aa (fun _ x=>x) hi
   ·rw[ce (ei hx)]at d;have g:=e.cg x l d;have m:=e.refs x l d;cases l with
    |hole=>trivial
    |dead=>trivial
    |box fz t=>
     obtain⟨cs,T,a,c,i⟩:=g;exact⟨cs,T,a,bd.mono (fun _ x=>x) (fun _ _=>rfl) aH _ _ m c,i⟩
    |arr k ar ai es=>
     rcases g with g|⟨cs,T,K,rest,a,c,i⟩
     ·exact .inl g
     ·exact .inr ⟨cs,T,K,rest,a,bF.mono (fun _ x=>x) (fun _ _=>rfl) aH _ _ _ m c,i⟩
    |map fz es=>exact g
    |cZ ks vs=>
     obtain⟨M,clock,a,c,i,p⟩:=g;exact⟨M,clock,a,c,bp.mono (fun _ x=>x) (fun _ _=>rfl) aH _ _ m i,p⟩
    |dd s pos=>exact g
    |loop L=>
     obtain⟨tmps,defers,fn,a,c,i,p⟩:=g;exact⟨tmps,defers,fn,a,c,fun x=>au.mono (fun _ x=>x) (fun _ _=>rfl) aH _ _ (m x) (i x),p⟩
  ·intro x y E X a c U V R N;have conv:∀(z:Nat)(n:Obj),(H.set b o')[z]?=some n->n.live->∃F:Obj,H[z]?=some F/\F.live:=by
    intro z n C W
    by_cases D:z=b
    ·subst D;exact⟨o,f,r⟩
    ·rw[ce (ei D)]at C;exact⟨n,C,W⟩
   obtain⟨G,I,c1⟩:=conv x E a U;obtain⟨a2,J,c2⟩:=conv y X c V;exact e.inj x y G a2 I J c1 c2 R N
  ·intro x l d
   by_cases hx:x=b
   ·subst hx;rw[cv q]at d;cases d;exact B
   ·rw[ce (ei hx)]at d;exact Obj.uy aj (e.refs x l d)
 ·refine⟨fun k=>aa k\/k=β.ak b,?_,.inr rfl⟩;have S:=O.resolve_left hi;exact bO.set e q (fun _ _=>⟨rfl,rfl⟩) (fun _ x=>.inl x) (fun k hk=>hk.imp id (fun h=>⟨h,Q⟩)) (fun k hk=>hk.elim (e.bM k) (fun h=>h▸e.lY f r)) (eb _)
   (fun _ _ _=>rfl) (fun _=>.inr ⟨rfl,⟨o,f,r⟩,.inl (fun _ _=>rfl),S.2⟩) aH (aP _ (fun _ x=>.inl x) (.inr rfl)) B (fun E v a c=>by rw[f]at a;cases a;exact A v c) (fun L j=>by rw[f]at j;cases j;exact(u L rfl).elim)
theorem Ij{z:AV}{pv:PV}{H1:Heap}{v:a5}(d:jX H z=some (pv,H1))(i:bL P w aa β H ah)(f:au P w aa β H z v)(Z:aB (aF H) z):
 ∃aD,bO P ah aa w β H aD w β H1/\aA P w aD pv v:=by
 cases z with
 |p t=>
  simp[jX]at d;obtain⟨rfl,rfl⟩:=d;exact⟨aa,bO.refl i,by simpa[au]using f⟩
 |sl b ar ai off len=>
  simp only[jX]at d
  split at d
  case h_2=>simp at d
  rename_i k ab W j g
  split at d
  case isFalse=>simp at d
  rename_i O;obtain⟨rfl,rfl,Y⟩:=O;simp only[au]at f;obtain⟨_,f⟩:=f;simp only[bK]at f;obtain⟨v1,v2,v3⟩:=f k j g
  split at d
  ·rename_i u;simp at d;obtain⟨rfl,rfl⟩:=d;exact⟨aa,bO.refl i,by simp[aA,v2 u]⟩
  ·rename_i u
   split at d
   case h_2=>simp at d
   rename_i J R;simp at d;obtain⟨rfl,rfl⟩:=d;have A:=kV R;have E:=i.cg b _ g;rcases E with E|⟨cs,T,F,rest,n,l,r,B,L,M,N,X⟩
   ·exact(u E).elim
   have I:¬cO .frozen j:=fun h=>by cases h.1
   have aH:bW β H β (H.set b (.arr .frozen ar ai j)):=rA g (.inr (.inl ⟨_,_,_,_,_,rfl,rfl,u,I⟩));obtain⟨aD,q,y⟩:=rG i g u (o':=.arr .frozen ar ai j) I (fun _ h=>h) (fun _ h=>by cases h) aH N.sG
    (fun aD hi x=>.inr ⟨cs,T,F,rest,n,bF.mono hi (fun _ _=>rfl) aH _ _ _ (i.refs b _ g) l,r,B,L,(fun h=>by cases h),x,fun _ e C=>(by rw[A]at C;simp at C;obtain⟨a,_,rfl⟩:=C;trivial),fun h=>by cases h⟩)
    (by rw[A];exact iD _ _)
   refine⟨aD,q,?_⟩;rw[v3 u];have S:Row P w aD β H ai j F:=bF.mono q.bM (fun _ _=>rfl) (bW.refl _ _) _ _ _ (i.refs b _ g) l;obtain⟨a,m,c,e1,e2,e3,e4,e5⟩:=jf S off len v1;rw[A,z6,kW]at e2;have D:((J.drop off).take len).length=len:=by
    have:j.length=J.length:=by rw[A];simp
    simp;omega
   simp only[aA];refine⟨β.ak b,off*ai,β.cap b-off,ai,m,e2,fun _=>y,?_,?_,?_,none,.inl rfl,?_⟩
   ·rw[<-e3];exact kO n (post:=c.flatten++rest) (by rw[r,e1];simp)
   ·intro hf;simp at hf;rw[D,M hf.1];omega
   ·rw[D];omega
   ·rw[D]
 |ptr b path=>
  simp only[jX]at d
  split at d
  case h_2=>simp at d
  rename_i fz t g
  split at d
  case h_2=>simp at d
  rename_i s hs;simp at d;obtain⟨rfl,rfl⟩:=d;simp only[au]at f;obtain⟨_,f⟩:=f;simp only[bK]at f;obtain⟨V,U,o,rfl,Q,f⟩:=f;obtain⟨rfl,rfl⟩:=f (.inl ⟨fz,_,g⟩);obtain⟨cs,T,n,l,r,B⟩:=i.cg b _ g;have aH:bW β H β (H.set b (.box true (.p t))):=rA g (.inl ⟨_,_,_,rfl,rfl⟩);obtain⟨aD,q,y⟩:=rG i g trivial (o':=.box true (.p t)) trivial (fun _ h=>h) (fun _ h=>by cases h) aH r.sG
   (fun aD hi x=>⟨cs,T,n,bd.mono hi (fun _ _=>rfl) aH _ _ (by simp[aB]) l,x,fun _=>trivial,B.2⟩) (by simp[Obj.refs,aB])
  refine⟨aD,q,?_⟩;have K:aU P w aD t cs.toList:=by simp only[bd]at l;exact aU.mono q.bM (fun _ _=>rfl) _ _ l
  obtain⟨pre,xs,post,e1,e2,e3⟩:=xF K hs Q;simp only[aA];refine⟨β.ak b,U,xs,e3,y,?_,rfl⟩;rw[<-e2];exact kO n e1
 |map b=>
  simp only[jX]at d
  split at d
  case h_2=>simp at d
  rename_i fz j g;simp at d;obtain⟨rfl,rfl⟩:=d;simp only[au]at f;obtain⟨_,f⟩:=f;simp only[bK]at f;have f:=f.1 ⟨_,g,trivial⟩;obtain⟨G,clock,n,l,r⟩:=i.cg b _ g;have aH:bW β H β (H.set b (.map true j)):=rA g (.inr (.inr ⟨_,_,_,rfl,rfl⟩));obtain⟨aD,q,y⟩:=rG i g trivial (o':=.map true j) trivial (fun _ h=>h) (fun _ h=>by cases h) aH r.sG
   (fun aD hi x=>⟨G,clock,n,b9.mono hi (fun _ _=>rfl) _ _ l,x⟩) trivial
  refine⟨aD,q,?_⟩;simp only[aA];exact⟨β.ak b,G,clock,y,n,b9.mono q.bM (fun _ _=>rfl) _ _ l,f⟩
 |bQ=>simp[jX]at d
 |func=>simp[jX]at d
 |st=>simp[jX]at d
 |aE=>simp[jX]at d
end
section
variable{P:a0}{ag:a8->Bool}{n N:Nat}
theorem AF{w:a7}{β:Bd}{ah:Nat->Prop}:∀{e:List AV}{g:List PV}{H H1:Heap}{aa:Nat->Prop}{vs:List a5},mv H e=some (g,H1)->bL P w aa β H ah->
 bp P w aa β H e vs->aQ (aF H) e->∃aD,bO P ah aa w β H aD w β H1/\bm P w aD g vs
 |[],g,H,H1,aa,vs,b,h,c,_=>by
  simp[mv]at b;obtain⟨rfl,rfl⟩:=b;simp only[bp]at c;exact⟨aa,bO.refl h,by simpa[bm]using c⟩
 |a::e,g,H,H1,aa,vs,b,h,c,f=>by
  simp only[mv]at b
  split at b
  case h_2=>simp at b
  rename_i v o j
  split at b
  case h_2=>simp at b
  rename_i r p k;simp at b;obtain⟨rfl,rfl⟩:=b;simp only[bp]at c;obtain⟨y,n,rfl,k1,k2⟩:=c;simp only[aQ]at f;obtain⟨q,d,l⟩:=Ij j h k1 f.1;obtain⟨i,q1,m⟩:=AF k d.rel (bp.mono d.bM (fun _ _=>rfl) d.step _ _ f.2 k2) (aQ.mono d.eM _ f.2);refine⟨i,d.trans q1,?_⟩;simp only[bm];exact⟨y,n,rfl,aA.mono q1.bM (fun _ _=>rfl) _ _ l,m⟩
def jI(P:a0)(n N:Nat)(fr:bb)(k:List Item)(cs:List bb)(c:Array Oper)(ah aa:Nat->Prop)(w:a7)(β:Bd)(H:Heap)(m:Machine)(r:List Nat)(b:List bk)(K:St->Prop):Prop:=
 ∃s' aD aG a w',K s'/\Steps P m (lone (bu fr a b (.inRegion c r::k)) cs w')/\cw P n ah aD aG s' a w'/\dD N ah aa w β H ah aD w' aG s'.heap
theorem Rj{d:Bool}{o:Oper}{K:St->Prop}{s:St}(h:ja P ag d o K s)(c:Call):o.op≠.defer c:=by
 intro hc;unfold ja at h;rw[hc]at h;simp[fk,hc]at h
variable{fr:bb}{k:List Item}{cs:List bb}{ops:Array Oper}{i:Nat}{r:List Nat}{ds:List bk}
theorem Hc{d:Bool}{o:Oper}{f:a9}{F:Array a9}{Z:Array a1}{g:a8}{fi ca:List AV}{K:St->Prop}{s:St}{ah aa:Nat->Prop}{β:Bd}{t:Array a5}{w:a7}
 (W:o.op=.call {callee:=.value f,args:=F,argTypes:=Z})
 (hf:(ev s.env f=.func g fi ca)\/(∃a b,ev s.env f=.p (.func g a b)/\fi=a.map .p/\ca=b.map .p))
 (h:gz P d g (fi++F.toList.map (ev s.env)++ca) s.heap (fun v H'=>K ⟨put o.dst v s.env,H'⟩))
 (m:cw P n ah aa β s t w)(G:iv n o=true)(C:ops[i]?=some o)(M:b0 o (yielded ops t)=true):
 jI P n N fr k cs ops ah aa w β s.heap (lone (bu fr t ds (.inRegion ops (i::r)::k)) cs w) r ds K:=by
 have E:=mY m f;obtain⟨y,u,al,ak,ai,ap,ao⟩:∃y u:List a5,fo t f=.func (.func g) y.toArray u.toArray/\bp P w aa β s.heap fi y/\bp P w aa β s.heap ca u/\aQ (aF s.heap) fi/\aQ (aF s.heap) ca:=by
  rcases hf with hf|⟨a,b,hf,rfl,rfl⟩
  ·rw[hf]at E;simp only[au,aB]at E;obtain⟨⟨y,u,l,j,z⟩,ac,ad⟩:=E;exact⟨y,u,z,l,j,ac,ad⟩
  ·rw[hf]at E;simp only[au,aA]at E;obtain⟨⟨y,u,l,j,z⟩,_⟩:=E;exact⟨y,u,z,iW.2 l,iW.2 j,iD _ _,iD _ _⟩
 obtain⟨af,ag⟩:=uq m F.toList;have D:=nO (nO ak af) ai;have Q:=je (je ap ag) ao;have q:(be (fo t) o).run P w=(callFunc g (y++F.toList.map (fo t)++u).toArray).run P w:=by
  simp only[be,W,resolve,al,Deferred.ofValue,Sem.run_bind,Sem.run_pure,Result.andThen_ok,invoke];congr 2;simp
 have L:∀c,o.op≠.defer c:=fun c hc=>by rw[W]at hc;cases hc
 have pure:∀(H1:Heap)(B:Nat->Prop)(vs:List PV)(v:PV),bO P ah aa w β s.heap B w β H1->bm P w B vs (y++F.toList.map (fo t)++u)->az P g vs v->
  K ⟨put o.dst (.p v) s.env,H1⟩->jI P n N fr k cs ops ah aa w β s.heap (lone (bu fr t ds (.inRegion ops (i::r)::k)) cs w) r ds K:=by
  intro H1 B vs v A Y I U;rcases I with⟨R,I⟩|I
  ·rw[R]at q;obtain⟨e,w',S,⟨O,aD,H,g1,g2,g3,g4,g5,ab,g6⟩,aH,V,J⟩:=I w B _ A.rel.bM A.rel.gO Y (bu fr t ds (.inRegion ops (i::r)::k)::cs);subst H;have X:=A.trans (A.rel.later g1 g2 g3 g4 g5 ab);refine⟨_,aD,β,_,w',U,?_,m.put G X (by simpa[au]using g6) (by simp[aB]),X.eU⟩;rw[<-mF C];exact(b3 (ud C M L q)).trans (b2 aH (.one (bi J)))
  ·obtain⟨O,l,j⟩:=I w B _ Y;rw[l]at q;exact⟨_,B,β,_,w,U,.one (rE C M L q (.inl rfl)),m.put G A (by simpa[au]using j) (by simp[aB]),A.eU⟩
 rcases h with⟨vs,v,l,j,z⟩|⟨_,⟨vs,H1,v,l,j,z⟩|⟨H',v,⟨R,l⟩,j⟩|⟨e,T,an,j⟩|⟨aj,v,ae,am,j⟩⟩
 ·exact pure s.heap aa vs v (bO.refl m.heap) (by rw[l]at D;exact iW.1 D) j z
 ·obtain⟨B,aq,ar⟩:=AF l m.heap D Q;exact pure H1 B vs v aq ar j z
 ·rw[R]at q;obtain⟨e,w',S,⟨O,aG,aD,H,g1,g2,g3⟩,aH,V,J⟩:=l w aa ah β _ m.heap D Q (bu fr t ds (.inRegion ops (i::r)::k)::cs);subst H;refine⟨_,aD,aG,_,w',j,?_,m.put G g1 g2 g3,g1.eU⟩;rw[<-mF C];exact(b3 (ud C M L q)).trans (b2 aH (.one (bi J)))
 ·rw[T.1]at q;obtain⟨x,w',S,⟨O,aG,aD,H,g1,g2,g3⟩,aH,V,J⟩:=T.use an m.heap D Q (bu fr t ds (.inRegion ops (i::r)::k)::cs);subst H;refine⟨_,aD,aG,_,w',j,?_,m.put G g1 g2 g3,g1.eU⟩;rw[<-mF C];exact(b3 (ud C M L q)).trans (b2 aH (.one (bi J)))
 ·obtain⟨O,l,z⟩:=ae s.heap w aa ah β _ m.heap D Q am;rw[l]at q;have A:=bO.refl m.heap;exact⟨_,aa,β,_,w,j,.one (rE C M L q (.inl rfl)),m.put G A (by simpa[au]using z) (by simp[aB]),A.eU⟩
end
end Go.al
