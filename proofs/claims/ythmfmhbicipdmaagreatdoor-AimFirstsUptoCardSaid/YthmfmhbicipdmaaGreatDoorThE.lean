import Derived.Test.YthmfmhbicipdmaaGreatDoorThD
/- Parts of a proof. -/
set_option linter.unusedSimpArgs false
set_option linter.unusedVariables false
set_option linter.unusedSectionVars false
open Go renaming Operand->ab, TypeId->ac, FuncId->am, Program->ao, ResultVar->av, World->ax
open List renaming getElem?_eq_getElem->ay, getElem?_eq_some_iff->aT, nodup_range->a0, length_take->a1, map_cons->a2, getElem?_replicate->a3, mem_map->a4, getElem?_eq_none->a5, mem_iff_getElem->a6, map_id->a7, range->a8, getElem?_take->a9, ext_getElem?->bb, getElem_zip->be, all_eq_true->bf, replicate->bi
open Nat renaming le_refl->bl
namespace Go.ak
set_option linter.unusedSectionVars false
variable[Gl]
@[reducible] def Tg{α:Type}(_:α)(β:Type):Type:=β
@[reducible] def Tg1{α:Type 1}(_:α)(β:Type):Type:=β
section
variable(P:ao)(ag:am->Bool)
def ff(q:Cx)(c:Code)(Q:bA->St->Prop)(s:Tg (q,c,Q) St):Prop:=dw P ag q c Q s
def qN(a:Array Oper)(l:List Oper)(K:St->Prop)(s:Tg (a,l,K) St):Prop:=gD P ag a l K s
def o9(b:Array Oper)(l:List Oper)(i:Nat)(a:List Touch)(K:St->Prop)(s:Tg (b,l,i,a,K) St):Prop:=gL P ag b l i a K s
def BA(K:St->Prop)(Q:bA->St->Prop)(e:Tg (K,Q) bA)(s:Tg (K,Q) St):Prop:=vp K Q e s
def sq(id:Nat)(Q:bA->St->Prop)(e:Tg (id,Q) bA)(s:Tg (id,Q) St):Prop:=oM id Q e s
def QA(a b:St->Prop)(s:St)(v:Tg (a,b,s) AV):Prop:=uM v a b s
def AF(b:Array Oper)(r:List Oper)(i:Nat)(a:List Touch)(K:St->Prop)(dst:Option Tmp)(s:St)(e:Tg (b,r,i,a,K,dst,s) aR):Prop:=xH P ag b r i a K dst s e
def eX(dst:Option Tmp)(s:St)(K:St->Prop)(e:Tg (dst,s,K) aR):Prop:=eK dst s K e
def Sa(dst:Option Tmp)(s:St)(K:St->Prop)(v:Tg (dst,s,K) AV)(H:Tg (dst,s,K) aj):Prop:=Bv dst s K v H
def Ev(a:Array Oper)(o:Oper)(r:List Oper)(K:St->Prop)(b:Bool)(s:St)(g:Tg (a,o,r,K,b,s) AV):Prop:=Ar P ag a o r K b s g
def DS(b:Array Oper)(o:Oper)(r:List Oper)(i:Nat)(a:List Touch)(K:St->Prop)(c:Bool)(s:St)(g:Tg (b,o,r,i,a,K,c,s) AV):Prop:=Af P ag b o r i a K c s g
def ey(o:Oper)(K:St->Prop)(s:St)(_:Tg (o,K,s) Unit):Prop:=dB P ag o K s
def eg(o:Oper)(s:St)(K:aR->Prop)(_:Tg (o,K,s) Unit):Prop:=dC P ag o s K
def cA(K:aR->Prop)(r:Tg K fe):Prop:=bh r K
def A4(H:aj)(K:AV->aj->Prop)(f:Tg (H,K) AV)(args:Tg (H,K) (List AV)):Prop:=sG P f args H K
def xK(H:aj)(K:aR->Prop)(f:Tg (H,K) AV)(args:Tg (H,K) (List AV)):Prop:=sj P f args H K
def lj(d:Bool)(f:am)(K:AV->aj->Prop)(args:Tg K (List AV))(H:Tg K aj):Prop:=iy P d f args H K
def nH(f:am)(K:aR->Prop)(args:Tg K (List AV))(H:Tg K aj):Prop:=iF P f args H K
def sU(R:AV->PV->Prop):List AV->List PV->Prop
 |[],vs=>vs=[]
 |x::xs,vs=>match vs with
  |v::vs=>R x v/\sU R xs vs
  |[]=>False
def gH(H:aj):Nat->AV->PV->Prop
 |0=>fun x v=>match x with
  | .p a=>Wk a v
  |_=>False
 |n+1=>fun x v=>match x with
  | .p a=>Wk a v
  | .sl b aA z off len=>match v with
   | .seq fs=>match H[b]? with
    |some (.arr _ e h es)=>aA=e/\z=h/\off+len<=es.length/\sU (gH H n) ((es.drop off).take len) fs
    |_=>False
   |_=>False
  | .st u xs=>match v with
   | .st u' vs=>u=u'/\sU (gH H n) xs vs
   |_=>False
  | .aC xs=>match v with
   | .aC vs=>sU (gH H n) xs vs
   |_=>False
  | .ptr b path=>match v with
   | .cm t=>match H[b]? with
    |some (.box _ y)=>match fo y path with
     |some s=>gH H n s t
     |none=>False
    |_=>False
   |_=>False
  | .map b=>match v with
   | .eB es=>match H[b]? with
    |some (.map _ c)=>c=es
    |_=>False
   |_=>False
  | .func f xs g=>match v with
   | .func d vs us=>f=d/\sU (gH H n) xs vs/\sU (gH H n) g us
   |_=>False
  |_=>False
def nh(H:aj)(n:Nat):List AV->List PV->Prop:=sU (gH H n)
def sY(a:List av)(v:PV)(e:Tg (a,v) bA)(s:Tg (a,v) St):Prop:=
 (match e with
  | .exit _=>False
  |_=>True)/\∃vs,fY P s a=some vs/\gH (St.heap s) 9 (oneOf vs) v
def xA(a:Array Oper)(l:Tg a (List Touch)):Bool:=iZ a l
def aKR(a:Array Oper)(i j:Tg a Nat):Bool:=reach a a.size i j
end
section
variable{P:ao}{ag:am->Bool}{q:Cx}
theorem aL4{Q:bA->St->Prop}{s:St}:ff P ag q .skip Q s=Q .normal s:=OD
theorem X7{l:Nat}{Q:bA->St->Prop}{s:St}:ff P ag q (.label l) Q s=Q .normal s:=Nf
theorem aL2{id:Nat}{Q:bA->St->Prop}{s:St}:ff P ag q (.exit id) Q s=Q (.exit id) s:=OE
theorem aL3{Q:bA->St->Prop}{s:St}:ff P ag q .ret Q s=Q .ret s:=Sz
theorem X5{b:Code}{Q:bA->St->Prop}{s:St}:ff P ag q (.scope b) Q s=ff P ag q b Q s:=Nc
theorem aL1{id:Nat}{l:List Oper}{Q:bA->St->Prop}{s:St}:ff P ag q (.region id l.toArray true) Q s=o9 P ag l.toArray l 0 [] (Q .normal) s:=OG
theorem X6{id:Nat}{l:List Oper}{Q:bA->St->Prop}{s:St}:ff P ag q (.region id l.toArray false) Q s=qN P ag l.toArray l (Q .normal) s:=Nd
theorem aW{a b:Code}{Q:bA->St->Prop}{s:St}:ff P ag q (.seq a b) Q s=ff P ag q a (BA (ff P ag q b Q) Q) s:=SA
theorem LX{id:Nat}{b:Code}{Q:bA->St->Prop}{s:St}:ff P ag q (.block id b) Q s=ff P ag q b (sq id Q) s:=Ng
theorem aL0{c:ab}{a b:Code}{Q:bA->St->Prop}{s:St}:ff P ag q (.cond c a b) Q s=QA (ff P ag q a Q) (ff P ag q b Q) s (ev s.env c):=OH
theorem UW{K:St->Prop}{Q:bA->St->Prop}{s:St}:BA K Q .normal s=K s:=JD
theorem WA{id:Nat}{K:St->Prop}{Q:bA->St->Prop}{s:St}:BA K Q (.exit id) s=Q (.exit id) s:=KU
theorem WH{K:St->Prop}{Q:bA->St->Prop}{s:St}:BA K Q .ret s=Q .ret s:=LQ
theorem Vt{t:Bool}{a b:St->Prop}{s:St}:QA a b s (.p (.bool t))=if t then a s else b s:=JY
theorem Xv{b:Array Oper}{r:List Oper}{i:Nat}{a:List Touch}{K:St->Prop}{dst:Option Tmp}{env:Env}{heap:aj}{v:AV}{al aL:List (Nat×Obj)}{aP:List Obj}:AF P ag b r i a K dst ⟨env,heap⟩ ⟨v,al,aL,aP⟩=o9 P ag b r (i+1) (gC i heap.length ⟨v,al,aL,aP⟩ a) K ⟨put dst v env,bm heap aL++aP⟩:=Mm
theorem Zl{dst:Option Tmp}{env:Env}{heap:aj}{K:St->Prop}{v:AV}{al aL:List (Nat×Obj)}{aP:List Obj}:eX dst ⟨env,heap⟩ K ⟨v,al,aL,aP⟩=K ⟨put dst v env,bm heap aL++aP⟩:=Oc
theorem Y1{dst:Option Tmp}{env:Env}{heap H:aj}{K:St->Prop}{v:AV}:Sa dst ⟨env,heap⟩ K v H=K ⟨put dst v env,H⟩:=ND
theorem aL5{b:Array Oper}{i:Nat}{a:List Touch}{K:St->Prop}{s:St}:o9 P ag b [] i a K s=(xA b a=true/\K s):=OC
theorem X4{b:Array Oper}{i c:Nat}{pos:String}{a:List Touch}{K:St->Prop}{s:St}{dst:Option Tmp}{op:Op}{af:Array Edge}{r:List Oper}:o9 P ag b ({dst,op,type:=c,pos,after:=af,guard:=none}::r) i a K s=eg P ag {dst,op,type:=c,pos,after:=af,guard:=none} s (AF P ag b r i a K dst s) ():=Nb
theorem W7{a:Array Oper}{i d j:Nat}{b:Bool}{pos:String}{c:List Touch}{K:St->Prop}{s:St}{dst:Option Tmp}{op:Op}{af:Array Edge}{r:List Oper}:o9 P ag a ({dst,op,type:=d,pos,after:=af,guard:=some (j,b)}::r) i c K s=DS P ag a {dst,op,type:=d,pos,after:=af,guard:=some (j,b)} r i c K b s (guardOf a j s.env):=LW
theorem aMc{a:Array Oper}{K:St->Prop}{s:St}:qN P ag a [] K s=K s:=OA
theorem X3{a:Array Oper}{b:Nat}{pos:String}{K:St->Prop}{s:St}{dst:Option Tmp}{op:Op}{af:Array Edge}{r:List Oper}:qN P ag a ({dst,op,type:=b,pos,after:=af,guard:=none}::r) K s=ey P ag {dst,op,type:=b,pos,after:=af,guard:=none} (qN P ag a r K) s ():=M9
theorem W6{a:Array Oper}{c j:Nat}{b:Bool}{pos:String}{K:St->Prop}{s:St}{dst:Option Tmp}{op:Op}{af:Array Edge}{r:List Oper}:qN P ag a ({dst,op,type:=c,pos,after:=af,guard:=some (j,b)}::r) K s=Ev P ag a {dst,op,type:=c,pos,after:=af,guard:=some (j,b)} r K b s (guardOf a j s.env):=LV
section ops
variable{dst:Option Tmp}{ty:Nat}{pos:String}{af:Array Edge}{g:Option (Nat×Bool)}{env:Env}{heap:aj}{K:aR->Prop}{L:St->Prop}
theorem azq{x:ab}:eg P ag ⟨dst,.move x,ty,pos,af,g⟩ ⟨env,heap⟩ K ()=K {v:=ev env x}:=PU
theorem XG{x:ab}:eg P ag ⟨dst,.assign x,ty,pos,af,g⟩ ⟨env,heap⟩ K ()=K {v:=ev env x}:=Mk
theorem azw{c a b:ab}:eg P ag ⟨dst,.pick c a b,ty,pos,af,g⟩ ⟨env,heap⟩ K ()=cA K (sO (ev env c) (ev env a) (ev env b)):=PS
theorem Zw{T:ac}:eg P ag ⟨dst,.alloc T,ty,pos,af,g⟩ ⟨env,heap⟩ K ()=cA K (sr P T heap.length):=NX
theorem ayH{T:ac}{x:ab}:eg P ag ⟨dst,.box T x,ty,pos,af,g⟩ ⟨env,heap⟩ K ()=cA K (uX P T heap.length (ev env x)):=QF
theorem Zv{T:ac}{a:Array (Nat×ab)}:eg P ag ⟨dst,.build T a,ty,pos,af,g⟩ ⟨env,heap⟩ K ()=cA K (so P T (a.toList.map fun(i,x)=>(i,ev env x))):=NW
theorem Uu{T:ac}{n:Nat}{a:Array (Nat×ab)}:eg P ag ⟨dst,.buildSlice T n a,ty,pos,af,g⟩ ⟨env,heap⟩ K ()=cA K (rl P T n (a.toList.map fun(i,x)=>(i,ev env x)) heap.length):=Jf
theorem azl{T:ac}{a:ab}:eg P ag ⟨dst,.load T a,ty,pos,af,g⟩ ⟨env,heap⟩ K ()=cA K (qu P T heap (ev env a)):=Pq
theorem Zq{T:ac}{a x:ab}:eg P ag ⟨dst,.store T a x,ty,pos,af,g⟩ ⟨env,heap⟩ K ()=cA K (qg P T heap (ev env a) (ev env x)):=NQ
theorem ayy{op:BinOp}{T a:ac}{x y:ab}:eg P ag ⟨dst,.binOp op T x y a,ty,pos,af,g⟩ ⟨env,heap⟩ K ()=cA K (jL P op T (mU y) heap (ev env x) (ev env y)):=QE
theorem azC{op:UnOp}{T:ac}{x:ab}:eg P ag ⟨dst,.unOp op T x,ty,pos,af,g⟩ ⟨env,heap⟩ K ()=cA K (tD op (ev env x)):=QJ
theorem ayM{S D:ac}{x:ab}:eg P ag ⟨dst,.convert S D x,ty,pos,af,g⟩ ⟨env,heap⟩ K ()=cA K (sF P S D heap (ev env x)):=Ps
theorem VV{t:ab}{i:Nat}:eg P ag ⟨dst,.extract t i,ty,pos,af,g⟩ ⟨env,heap⟩ K ()=cA K (rI (ev env t) i):=Lo
theorem Vo{T:ac}{a:ab}{f:Nat}:eg P ag ⟨dst,.fieldAddr T a f,ty,pos,af,g⟩ ⟨env,heap⟩ K ()=cA K (pL P T (ev env a) f):=JF
theorem Vn{T:ac}{x i:ab}:eg P ag ⟨dst,.indexAddr T x i,ty,pos,af,g⟩ ⟨env,heap⟩ K ()=cA K (pK P T heap (ev env x) (ev env i)):=JE
theorem Zt{T:ac}{x i:ab}:eg P ag ⟨dst,.index T x i,ty,pos,af,g⟩ ⟨env,heap⟩ K ()=cA K (sA P T (ev env x) (ev env i)):=NU
theorem azk{x:ab}{a:Array ac}:eg P ag ⟨dst,.call {callee:=.builtin .len,args:=#[x],argTypes:=a},ty,pos,af,g⟩ ⟨env,heap⟩ K ()=cA K (tt P (a.getD 0 0) a.size heap (ev env x)):=QG
theorem ayI{f:ab}{args:List ab}{a:Array ac}:eg P ag ⟨dst,.call {callee:=.value f,args:=args.toArray,argTypes:=a},ty,pos,af,g⟩ ⟨env,heap⟩ K ()=xK P heap K (ev env f) (args.map (ev env)):=Pt
theorem aKw{x:ab}:ey P ag ⟨dst,.move x,ty,pos,af,g⟩ L ⟨env,heap⟩ ()=eX dst ⟨env,heap⟩ L {v:=ev env x}:=Pb
theorem Xf{x:ab}:ey P ag ⟨dst,.assign x,ty,pos,af,g⟩ L ⟨env,heap⟩ ()=eX dst ⟨env,heap⟩ L {v:=ev env x}:=Lx
theorem aKz{c a b:ab}:ey P ag ⟨dst,.pick c a b,ty,pos,af,g⟩ L ⟨env,heap⟩ ()=cA (eX dst ⟨env,heap⟩ L) (sO (ev env c) (ev env a) (ev env b)):=O9
theorem Za{T:ac}:ey P ag ⟨dst,.alloc T,ty,pos,af,g⟩ L ⟨env,heap⟩ ()=cA (eX dst ⟨env,heap⟩ L) (sr P T heap.length):=Nr
theorem aKj{T:ac}{x:ab}:ey P ag ⟨dst,.box T x,ty,pos,af,g⟩ L ⟨env,heap⟩ ()=cA (eX dst ⟨env,heap⟩ L) (uX P T heap.length (ev env x)):=R0
theorem Y9{T:ac}{a:Array (Nat×ab)}:ey P ag ⟨dst,.build T a,ty,pos,af,g⟩ L ⟨env,heap⟩ ()=cA (eX dst ⟨env,heap⟩ L) (so P T (a.toList.map fun(i,x)=>(i,ev env x))):=Nq
theorem UB{T:ac}{n:Nat}{a:Array (Nat×ab)}:ey P ag ⟨dst,.buildSlice T n a,ty,pos,af,g⟩ L ⟨env,heap⟩ ()=cA (eX dst ⟨env,heap⟩ L) (rl P T n (a.toList.map fun(i,x)=>(i,ev env x)) heap.length):=I9
theorem aKq{T:ac}{a:ab}:ey P ag ⟨dst,.load T a,ty,pos,af,g⟩ L ⟨env,heap⟩ ()=cA (eX dst ⟨env,heap⟩ L) (qu P T heap (ev env a)):=Pc
theorem Y4{T:ac}{a x:ab}:ey P ag ⟨dst,.store T a x,ty,pos,af,g⟩ L ⟨env,heap⟩ ()=cA (eX dst ⟨env,heap⟩ L) (qg P T heap (ev env a) (ev env x)):=NH
theorem aKi{op:BinOp}{T a:ac}{x y:ab}:ey P ag ⟨dst,.binOp op T x y a,ty,pos,af,g⟩ L ⟨env,heap⟩ ()=cA (eX dst ⟨env,heap⟩ L) (jL P op T (mU y) heap (ev env x) (ev env y)):=RZ
theorem aKB{op:UnOp}{T:ac}{x:ab}:ey P ag ⟨dst,.unOp op T x,ty,pos,af,g⟩ L ⟨env,heap⟩ ()=cA (eX dst ⟨env,heap⟩ L) (tD op (ev env x)):=R6
theorem aKl{S D:ac}{x:ab}:ey P ag ⟨dst,.convert S D x,ty,pos,af,g⟩ L ⟨env,heap⟩ ()=cA (eX dst ⟨env,heap⟩ L) (sF P S D heap (ev env x)):=Pe
theorem V6{t:ab}{i:Nat}:ey P ag ⟨dst,.extract t i,ty,pos,af,g⟩ L ⟨env,heap⟩ ()=cA (eX dst ⟨env,heap⟩ L) (rI (ev env t) i):=Kx
theorem UL{T:ac}{a:ab}{f:Nat}:ey P ag ⟨dst,.fieldAddr T a f,ty,pos,af,g⟩ L ⟨env,heap⟩ ()=cA (eX dst ⟨env,heap⟩ L) (pL P T (ev env a) f):=Jw
theorem U1{T:ac}{x i:ab}:ey P ag ⟨dst,.indexAddr T x i,ty,pos,af,g⟩ L ⟨env,heap⟩ ()=cA (eX dst ⟨env,heap⟩ L) (pK P T heap (ev env x) (ev env i)):=Jv
theorem Y7{T:ac}{x i:ab}:ey P ag ⟨dst,.index T x i,ty,pos,af,g⟩ L ⟨env,heap⟩ ()=cA (eX dst ⟨env,heap⟩ L) (sA P T (ev env x) (ev env i)):=Np
theorem aKo{x:ab}{a:Array ac}:ey P ag ⟨dst,.call {callee:=.builtin .len,args:=#[x],argTypes:=a},ty,pos,af,g⟩ L ⟨env,heap⟩ ()=cA (eX dst ⟨env,heap⟩ L) (tt P (a.getD 0 0) a.size heap (ev env x)):=R3
theorem aKk{f:ab}{args:List ab}{a:Array ac}:ey P ag ⟨dst,.call {callee:=.value f,args:=args.toArray,argTypes:=a},ty,pos,af,g⟩ L ⟨env,heap⟩ ()=A4 P heap (Sa dst ⟨env,heap⟩ L) (ev env f) (args.map (ev env)):=Pf
theorem Zr{T:ac}{x:ab}{lo hi:Option ab}:eg P ag ⟨dst,.slice T x lo hi none,ty,pos,af,g⟩ ⟨env,heap⟩ K ()=cA K (qj P T heap (ev env x) (lo.map (ev env)) (hi.map (ev env))):=NR
theorem Y5{T:ac}{x:ab}{lo hi:Option ab}:ey P ag ⟨dst,.slice T x lo hi none,ty,pos,af,g⟩ L ⟨env,heap⟩ ()=cA (eX dst ⟨env,heap⟩ L) (qj P T heap (ev env x) (lo.map (ev env)) (hi.map (ev env))):=Nl
theorem XE{T:ac}{x i:ab}{ok:Bool}:eg P ag ⟨dst,.lookup T x i ok,ty,pos,af,g⟩ ⟨env,heap⟩ K ()=cA K (sK P T heap (ev env x) (ev env i) ok):=Mi
theorem Xd{T:ac}{x i:ab}{ok:Bool}:ey P ag ⟨dst,.lookup T x i ok,ty,pos,af,g⟩ L ⟨env,heap⟩ ()=cA (eX dst ⟨env,heap⟩ L) (sK P T heap (ev env x) (ev env i) ok):=Lv
theorem Vl{T:ac}{m k x:ab}:eg P ag ⟨dst,.mapUpdate T m k x,ty,pos,af,g⟩ ⟨env,heap⟩ K ()=cA K (mT P T heap (ev env m) (ev env k) (ev env x)):=JR
theorem UZ{T:ac}{m k x:ab}:ey P ag ⟨dst,.mapUpdate T m k x,ty,pos,af,g⟩ L ⟨env,heap⟩ ()=cA (eX dst ⟨env,heap⟩ L) (mT P T heap (ev env m) (ev env k) (ev env x)):=Jt
theorem XF{T:ac}{m k x:ab}:eg P ag ⟨dst,.insert T m k x,ty,pos,af,g⟩ ⟨env,heap⟩ K ()=cA K (mT P T heap (ev env m) (ev env k) (ev env x)):=Mj
theorem Xe{T:ac}{m k x:ab}:ey P ag ⟨dst,.insert T m k x,ty,pos,af,g⟩ L ⟨env,heap⟩ ()=cA (eX dst ⟨env,heap⟩ L) (mT P T heap (ev env m) (ev env k) (ev env x)):=Lw
theorem Zs{T:ac}{x:ab}:eg P ag ⟨dst,.range T x,ty,pos,af,g⟩ ⟨env,heap⟩ K ()=cA K (rY P T heap.length (ev env x)):=NT
theorem Y6{T:ac}{x:ab}:ey P ag ⟨dst,.range T x,ty,pos,af,g⟩ L ⟨env,heap⟩ ()=cA (eX dst ⟨env,heap⟩ L) (rY P T heap.length (ev env x)):=Nn
theorem azv{it:ab}:eg P ag ⟨dst,.next it true,ty,pos,af,g⟩ ⟨env,heap⟩ K ()=cA K (sQ heap (ev env it)):=PT
theorem aKx{it:ab}:ey P ag ⟨dst,.next it true,ty,pos,af,g⟩ L ⟨env,heap⟩ ()=cA (eX dst ⟨env,heap⟩ L) (sQ heap (ev env it)):=Pa
theorem Vm{T:ac}{l c:ab}:eg P ag ⟨dst,.makeSlice T l c,ty,pos,af,g⟩ ⟨env,heap⟩ K ()=cA K (sS P T heap.length (ev env l) (ev env c)):=JS
theorem U0{T:ac}{l c:ab}:ey P ag ⟨dst,.makeSlice T l c,ty,pos,af,g⟩ L ⟨env,heap⟩ ()=cA (eX dst ⟨env,heap⟩ L) (sS P T heap.length (ev env l) (ev env c)):=Ju
theorem Vr{x:ab}:eg P ag ⟨dst,.nilCheck x,ty,pos,af,g⟩ ⟨env,heap⟩ K ()=cA K (rT (ev env x)):=JV
theorem VK{x:ab}:ey P ag ⟨dst,.nilCheck x,ty,pos,af,g⟩ L ⟨env,heap⟩ ()=cA (eX dst ⟨env,heap⟩ L) (rT (ev env x)):=Kh
theorem azo{args:Array ab}{a:Array ac}:eg P ag ⟨dst,.call {callee:=.builtin .min,args,argTypes:=a},ty,pos,af,g⟩ ⟨env,heap⟩ K ()=cA K (lE false (args.toList.map (ev env))):=QI
theorem aKv{args:Array ab}{a:Array ac}:ey P ag ⟨dst,.call {callee:=.builtin .min,args,argTypes:=a},ty,pos,af,g⟩ L ⟨env,heap⟩ ()=cA (eX dst ⟨env,heap⟩ L) (lE false (args.toList.map (ev env))):=R5
theorem azm{args:Array ab}{a:Array ac}:eg P ag ⟨dst,.call {callee:=.builtin .max,args,argTypes:=a},ty,pos,af,g⟩ ⟨env,heap⟩ K ()=cA K (lE true (args.toList.map (ev env))):=QH
theorem aKu{args:Array ab}{a:Array ac}:ey P ag ⟨dst,.call {callee:=.builtin .max,args,argTypes:=a},ty,pos,af,g⟩ L ⟨env,heap⟩ ()=cA (eX dst ⟨env,heap⟩ L) (lE true (args.toList.map (ev env))):=R4
theorem VU{T:ac}:eg P ag ⟨dst,.makeMap T none,ty,pos,af,g⟩ ⟨env,heap⟩ K ()=K {v:=.map heap.length,aP:=[.map false []]}:=Ln
theorem V5{T:ac}:ey P ag ⟨dst,.makeMap T none,ty,pos,af,g⟩ L ⟨env,heap⟩ ()=eX dst ⟨env,heap⟩ L {v:=.map heap.length,aP:=[.map false []]}:=K8
theorem XH{s x:ab}{T X:ac}:eg P ag ⟨dst,.call {callee:=.builtin .append,args:=#[s,x],argTypes:=#[T,X]},ty,pos,af,g⟩ ⟨env,heap⟩ K ()=cA K (qf P T X heap (ev env s) (ev env x)):=Ml
theorem Xg{s x:ab}{T X:ac}:ey P ag ⟨dst,.call {callee:=.builtin .append,args:=#[s,x],argTypes:=#[T,X]},ty,pos,af,g⟩ L ⟨env,heap⟩ ()=cA (eX dst ⟨env,heap⟩ L) (qf P T X heap (ev env s) (ev env x)):=Ly
theorem ayV{s x:ab}{T X:ac}:eg P ag ⟨dst,.call {callee:=.builtin .copy,args:=#[s,x],argTypes:=#[T,X]},ty,pos,af,g⟩ ⟨env,heap⟩ K ()=cA K (copyV P T heap (ev env s) (ev env x)):=Pr
theorem aKm{s x:ab}{T X:ac}:ey P ag ⟨dst,.call {callee:=.builtin .copy,args:=#[s,x],argTypes:=#[T,X]},ty,pos,af,g⟩ L ⟨env,heap⟩ ()=cA (eX dst ⟨env,heap⟩ L) (copyV P T heap (ev env s) (ev env x)):=Pd
theorem axK{f:am}{fi ca:List AV}{args:List AV}{M:AV->aj->Prop}:A4 P heap M (.func f fi ca) args=lj P false f M (fi++args++ca) heap:=QB
theorem axT{f:am}{fi ca:List AV}{args:List AV}:xK P heap K (.func f fi ca) args=nH P f K (fi++args++ca) heap:=Pu
theorem axQ{f:am}{fi ca:List PV}{args:List AV}{M:AV->aj->Prop}:A4 P heap M (.p (.func f fi ca)) args=lj P false f M (fi.map .p++args++ca.map .p) heap:=QC
theorem axW{f:am}{fi ca:List PV}{args:List AV}:xK P heap K (.p (.func f fi ca)) args=nH P f K (fi.map .p++args++ca.map .p) heap:=QD
end ops
section guards
variable{ops:Array Oper}{o:Oper}{r:List Oper}{K:St->Prop}{want t:Bool}{s:St}{i:Nat}{acc:List Touch}
theorem Ve:Ev P ag ops o r K want s (.p (.bool t))=if t=want then ey P ag o (qN P ag ops r K) s ()else qN P ag ops r K ⟨put o.dst (.p (.aC [])) s.env,s.heap⟩:=JL
theorem VG:Ev P ag ops o r K want s (.p (.aC []))=qN P ag ops r K ⟨put o.dst (.p (.aC [])) s.env,s.heap⟩:=Km
theorem UF:DS P ag ops o r i acc K want s (.p (.bool t))=if t=want then eg P ag o s (AF P ag ops r i acc K o.dst s) ()else o9 P ag ops r (i+1) acc K ⟨put o.dst (.p (.aC [])) s.env,s.heap⟩:=Jd
theorem Vd:DS P ag ops o r i acc K want s (.p (.aC []))=o9 P ag ops r (i+1) acc K ⟨put o.dst (.p (.aC [])) s.env,s.heap⟩:=JK
end guards
theorem Uy{id:Nat}{Q:bA->St->Prop}{s:St}:sq id Q .normal s=Q .normal s:=(rfl)
theorem VR{id i:Nat}{Q:bA->St->Prop}{s:St}:sq id Q (.exit i) s=if i=id then Q .normal s else Q (.exit i) s:=(rfl)
theorem W0{id:Nat}{Q:bA->St->Prop}{s:St}:sq id Q .ret s=Q .ret s:=(rfl)
section makeFunc
variable{dst:Option Tmp}{ty:Nat}{pos:String}{af:Array Edge}{g:Option (Nat×Bool)}{env:Env}{heap:aj}{L:St->Prop}{K:aR->Prop}{f:am}{fi ca:Array ab}
theorem VL(hf:ag f=false):ey P ag ⟨dst,.makeFunc (.func f) fi ca,ty,pos,af,g⟩ L ⟨env,heap⟩ ()=cA (eX dst ⟨env,heap⟩ L) (sH f (fi.toList.map (ev env)) (ca.toList.map (ev env))):=Ki hf
theorem Vs(hf:ag f=false):eg P ag ⟨dst,.makeFunc (.func f) fi ca,ty,pos,af,g⟩ ⟨env,heap⟩ K ()=cA K (sH f (fi.toList.map (ev env)) (ca.toList.map (ev env))):=JW hf
end makeFunc
theorem WJ{p:Prop}{e:aR}{K:aR->Prop}:cA K (some (p,e))=(p/\K e):=(rfl)
theorem WK{K:aR->Prop}:cA K none=False:=(rfl)
theorem Wr{a:Array Oper}:xA a []=true:=(rfl)
theorem Vb{a:Array Oper}{t:Touch}{r:List Touch}:xA a (t::r)=(r.all (fun u=>!jK u t||aKR a u.i t.i)&&xA a r):=(rfl)
theorem Xz{a:List av}{v:PV}{s:St}:sY P a v .ret s=∃vs,fY P s a=some vs/\gH s.heap 9 (oneOf vs) v:=by simp[sY]
theorem Vi{a:List av}{v:PV}{s:St}:sY P a v .normal s=∃vs,fY P s a=some vs/\gH s.heap 9 (oneOf vs) v:=by simp[sY]
section pur
variable{H:aj}
theorem yz{n:Nat}{a v:PV}:gH H n (.p a) v=Wk a v:=by cases n<;>rfl
theorem Oz{n b aA z off len:Nat}{fs:List PV}:gH H (n+1) (.sl b aA z off len) (.seq fs)=match H[b]? with
  |some (.arr _ a c es)=>aA=a/\z=c/\off+len<=es.length/\nh H n ((es.drop off).take len) fs
  |_=>False:=(rfl)
theorem aKM{n:Nat}{u u':ac}{a:List AV}{vs:List PV}:gH H (n+1) (.st u a) (.st u' vs)=(u=u'/\nh H n a vs):=(rfl)
theorem aKN{n:Nat}{a:List AV}{vs:List PV}:gH H (n+1) (.aC a) (.aC vs)=nh H n a vs:=(rfl)
theorem NG{n b:Nat}{a:List (PV×PV)}:gH H (n+1) (.map b) (.eB a)=match H[b]? with
  |some (.map _ c)=>c=a
  |_=>False:=(rfl)
theorem aKL{n:Nat}{f a:am}{c d:List AV}{vs b:List PV}:gH H (n+1) (.func f c d) (.func a vs b)=(f=a/\nh H n c vs/\nh H n d b):=(rfl)
theorem zu{n:Nat}{vs:List PV}:nh H n [] vs=(vs=[]):=(rfl)
theorem CQ{n:Nat}{x:AV}{a:List AV}{v:PV}{vs:List PV}:nh H n (x::a) (v::vs)=(gH H n x v/\nh H n a vs):=(rfl)
theorem Ls{α:Type}{n:Nat}{g:α->AV}{f:α->PV}:∀{l:List α},nh H n (l.map g) (l.map f)=∀x∈l,gH H n (g x) (f x)
 |[]=>by simp[zu]
 |a::l=>by simp[CQ,Ls (l:=l)]
theorem uo(n:Nat)(c:∀(x:AV)(v:PV),gH H n x v->∃v',eM H n x=some v'/\Wk v' v):∀(b:List AV)(vs:List PV),nh H n b vs->∃a,kA (eM H n) b=some a/\bE a vs
 |[],vs,h=>by rw[zu]at h;subst h;exact⟨[],rfl,by simp[bE]⟩
 |x::b,vs,h=>by
  cases vs with
  |nil=>exact h.elim
  |cons v vs=>
   rw[CQ]at h;obtain⟨p,d,e⟩:=c x v h.1;obtain⟨a,f,g⟩:=uo n c b vs h.2;exact⟨p::a,by simp[kA,d,f],by simp only[bE];exact⟨e,g⟩⟩
theorem sc:∀(n:Nat)(x:AV)(v:PV),gH H n x v->∃v',eM H n x=some v'/\Wk v' v
 |0,x,v,h=>by
  cases x with
  |p a=>exact⟨_,rfl,h⟩
  |_=>exact h.elim
 |n+1,x,v,h=>by
  cases x with
  |p a=>rw[yz]at h;exact⟨_,rfl,h⟩
  |sl b aA z off len=>
   cases v with
   |seq fs=>
    rw[Oz]at h
    split at h
    case h_2=>exact h.elim
    rename_i k C E j e;obtain⟨rfl,rfl,m,g⟩:=h;obtain⟨i,c,d⟩:=uo n (sc n) _ _ g;simp only[eM,e,m,and_self,if_true]
    split
    ·rename_i r;rw[r.2]at g;simp only[List.drop_nil,List.take_nil,zu]at g;exact⟨_,rfl,by rw[g];simp[Wk]⟩
    ·rw[c];exact⟨_,rfl,by simp only[Wk];exact d⟩
   |_=>exact h.elim
  |st u xs=>
   cases v with
   |st u' vs=>
    obtain⟨rfl,h⟩:=h;obtain⟨i,c,d⟩:=uo n (sc n) _ _ h;simp only[eM,c];exact⟨_,rfl,by simp only[Wk];exact⟨trivial,d⟩⟩
   |_=>exact h.elim
  |aC xs=>
   cases v with
   |aC vs=>
    obtain⟨i,c,d⟩:=uo n (sc n) _ _ h;simp only[eM,c];exact⟨_,rfl,by simp only[Wk];exact d⟩
   |_=>exact h.elim
  |ptr b path=>
   cases v with
   |cm t=>
    change (match H[b]? with
     |some (.box _ y)=>match fo y path with
      |some s=>gH H n s t
      |none=>False
     |_=>False)at h
    split at h
    case h_2=>exact h.elim
    rename_i e
    split at h
    case h_2=>exact h.elim
    rename_i s hs;obtain⟨p,c,d⟩:=sc n _ _ h;simp only[eM,e,hs,c];exact⟨_,rfl,by simp only[Wk];exact d⟩
   |_=>exact h.elim
  |b7 _ _ _ _ _=>exact h.elim
  |map b=>
   cases v with
   |eB j=>
    rw[NG]at h
    split at h
    case h_2=>exact h.elim
    rename_i fz w e;subst h;simp only[eM,e];exact⟨_,rfl,Wk.refl _⟩
   |_=>exact h.elim
  |func f xs D=>
   cases v with
   |func A vs us=>
    obtain⟨rfl,h,l⟩:=h;obtain⟨i,c,d⟩:=uo n (sc n) _ _ h;obtain⟨B,o,q⟩:=uo n (sc n) _ _ l;simp only[eM,c,o];exact⟨_,rfl,by simp only[Wk];exact⟨trivial,d,q⟩⟩
   |_=>exact h.elim
end pur
theorem Yp{f:am}{fn:Func}(ag:am->Bool)(h:ar P f fn)(n:P.follows .mixedOrders=true){args:List PV}{v:PV}(o:args.length<=fn.ntmps)
 (d:ff P ag (fn.ntmps,0) (fn.body.getD .skip) (sY P fn.results.toList v) ⟨jl 0 (args.map .p),[]⟩):sW P f args v:=by
 have hs:=h.stat;simp only[Bool.and_eq_true,bne_iff_ne]at hs;have k:fn.body=some (fn.body.getD .skip):=by
  have a:=hs.1.1;clear d hs;cases l:fn.body with
  |none=>rw[l]at a;simp at a
  |some c=>rfl
 obtain⟨e,s,⟨a,vs,g,b⟩,j⟩:=oc _ _ _ (mq (Q':=sY P fn.results.toList v) _ (fun _ _ h=>h) d);obtain⟨v',b,i⟩:=sc _ _ _ b;have m:sW P f args v':=Ma (pJ ag) (yZ (pJ ag) n) h.enters h.func k hs.2 o (j (Ends P fn.results.toList v') ⟨by cases e<;>exact a,vs,g,b⟩);exact m.dd (bE.refl _) i
theorem aG{f:am}{fn:Func}(ag:am->Bool)(h:ar P f fn)(a:P.follows .mixedOrders=true){args:List PV}{v:PV}(b:args.length<=fn.ntmps)
 (c:ff P ag (fn.ntmps,0) (fn.body.getD .skip) (sY P fn.results.toList v) ⟨jl 0 (args.map .p),[]⟩):au P f args v:=.inl (Yp ag h a b c)
theorem Se{α:Type}{N:Nat×Nat->Prop}{f:α->PV}{l:List α}:aS N (l.map fun x=>.p (f x))=True:=by
 rw[c7,eq_iff_iff,iff_true];intro v a;simp only[a4]at a;obtain⟨x,_,rfl⟩:=a;trivial
theorem aKY{α:Type}{N:Nat×Nat->Prop}{f:α->PV}{l:List α}{i:Nat}:aS N ((l.map fun x=>.p (f x)).take i)=True:=by
 rw[c7,eq_iff_iff,iff_true];intro v a;have a:=List.mem_of_mem_take a;simp only[a4]at a;obtain⟨x,_,rfl⟩:=a;trivial
theorem Xq{N:Nat×Nat->Prop}{a b:List AV}:aS N (a++b)=(aS N a/\aS N b):=by
 simp only[c7,List.mem_append,eq_iff_iff];exact⟨fun h=>⟨fun v c=>h v (.inl c),fun v c=>h v (.inr c)⟩,fun h v c=>c.elim (h.1 v) (h.2 v)⟩
theorem Ug{α:Type}{l:List α}{i:Nat}:(l.take i).take i=l.take i:=by simp[List.take_take]
theorem Uf{α β:Type}{f:α->β}{l:List α}:(l.map f).take l.length=l.map f:=List.take_of_length_le (by simp)
section loops
variable{α:Type}(N:Nat)(mk:α->St)(ok:α->Prop)(m:α->Nat)(n:Nat)(Q:bA->St->Prop)
def FI(s:Tg (N,mk,ok,m,n) St):Prop:=vA N mk ok m n s
def AJ(e:Tg (N,mk,ok,m,n,Q) bA)(s:Tg (N,mk,ok,m,n,Q) St):Prop:=sJ N mk ok m n Q e s
variable{N}{mk}{ok}{m}{n}{Q}{s s':St}
theorem UR:AJ N mk ok m n Q .normal s=FI N mk ok m n s:=(rfl)
theorem Wd{id:Nat}:AJ N mk ok m n Q (.exit id) s=Q (.exit id) s:=(rfl)
theorem Xb:AJ N mk ok m n Q .ret s=Q .ret s:=(rfl)
theorem lp{d:Nat}{b:Code}(mk:α->St)(ok:α->Prop)(m:α->Nat)(c:α)(e:ok c)(iD:∀a,ok a->ff P ag (d,N) b (AJ N mk ok m (m a) Q) (mk a))
 (hn:(mk c).heap.take N=s.heap.take N:=by simp)(he:mG (mk c).heap s.env (mk c).env:=by simp)(hh:iB (mk c).heap s.heap (mk c).heap:=by simp)(hr:iQ (mk c).heap (mk c).env:=by simp)(hr2:dK (mk c).heap (mk c).heap:=by simp):
 ff P ag (d,N) (.loop b) Q s:=wl (q:=(d,N)) mk ok m c e iD hn he hh hr hr2
theorem rd(a':α)(a:ok a')(h1:m a'<n:=by omega)(hn:(mk a').heap.take N=s.heap.take N:=by simp)(he:mG (mk a').heap s.env (mk a').env:=by simp)(hh:iB (mk a').heap s.heap (mk a').heap:=by simp)(hr:iQ (mk a').heap (mk a').env:=by simp)(hr2:dK (mk a').heap (mk a').heap:=by simp):
 FI N mk ok m n s:=rnd a' a h1 hn he hh hr hr2
end loops
section calls
variable{f:am}{H H1:aj}{K:AV->aj->Prop}{L:aR->Prop}{v a b c d e a' b' c' d' e':PV}
theorem c0(h:au P f [] v)(hk:K (.p v) H):lj P false f K [] H:=cw0 h hk
theorem c1(h:au P f [a'] v)(hk:K (.p v) H)(h1:Wk a a':=by first|exact Wk.refl _|simp):lj P false f K [.p a] H:=cw1 h hk h1
theorem c2(h:au P f [a',b'] v)(hk:K (.p v) H)(h1:Wk a a':=by first|exact Wk.refl _|simp)(c:Wk b b':=by first|exact Wk.refl _|simp):lj P false f K [.p a,.p b] H:=cw2 h hk h1 c
theorem c3(h:au P f [a',b',c'] v)(hk:K (.p v) H)(h1:Wk a a':=by first|exact Wk.refl _|simp)(d:Wk b b':=by first|exact Wk.refl _|simp)(e:Wk c c':=by first|exact Wk.refl _|simp):lj P false f K [.p a,.p b,.p c] H:=cw3 h hk h1 d e
theorem c4(h:au P f [a',b',c',d'] v)(hk:K (.p v) H)(e:Wk a a':=by first|exact Wk.refl _|simp)(g:Wk b b':=by first|exact Wk.refl _|simp)(i:Wk c c':=by first|exact Wk.refl _|simp)(j:Wk d d':=by first|exact Wk.refl _|simp):lj P false f K [.p a,.p b,.p c,.p d] H:=cw4 h hk e g i j
theorem c5(h:au P f [a',b',c',d',e'] v)(hk:K (.p v) H)(g:Wk a a':=by first|exact Wk.refl _|simp)(i:Wk b b':=by first|exact Wk.refl _|simp)(j:Wk c c':=by first|exact Wk.refl _|simp)(k:Wk d d':=by first|exact Wk.refl _|simp)(l:Wk e e':=by first|exact Wk.refl _|simp):lj P false f K [.p a,.p b,.p c,.p d,.p e] H:=cw5 h hk g i j k l
theorem e0(h:au P f [] v)(hk:L {v:=.p v}):nH P f L [] H:=ce0 h hk
theorem e1(h:au P f [a'] v)(hk:L {v:=.p v})(h1:Wk a a':=by first|exact Wk.refl _|simp):nH P f L [.p a] H:=ce1 h hk h1
theorem e2(h:au P f [a',b'] v)(hk:L {v:=.p v})(h1:Wk a a':=by first|exact Wk.refl _|simp)(c:Wk b b':=by first|exact Wk.refl _|simp):nH P f L [.p a,.p b] H:=ce2 h hk h1 c
theorem e3(h:au P f [a',b',c'] v)(hk:L {v:=.p v})(h1:Wk a a':=by first|exact Wk.refl _|simp)(d:Wk b b':=by first|exact Wk.refl _|simp)(e:Wk c c':=by first|exact Wk.refl _|simp):nH P f L [.p a,.p b,.p c] H:=ce3 h hk h1 d e
theorem e4(h:au P f [a',b',c',d'] v)(hk:L {v:=.p v})(e:Wk a a':=by first|exact Wk.refl _|simp)(g:Wk b b':=by first|exact Wk.refl _|simp)(i:Wk c c':=by first|exact Wk.refl _|simp)(j:Wk d d':=by first|exact Wk.refl _|simp):nH P f L [.p a,.p b,.p c,.p d] H:=ce4 h hk e g i j
theorem e5(h:au P f [a',b',c',d',e'] v)(hk:L {v:=.p v})(g:Wk a a':=by first|exact Wk.refl _|simp)(i:Wk b b':=by first|exact Wk.refl _|simp)(j:Wk c c':=by first|exact Wk.refl _|simp)(k:Wk d d':=by first|exact Wk.refl _|simp)(l:Wk e e':=by first|exact Wk.refl _|simp):nH P f L [.p a,.p b,.p c,.p d,.p e] H:=ce5 h hk g i j k l
theorem cp{args:List AV}{vs a:List PV}(h:au P f a v)(b:mZ H args=some (vs,H1))(hk:K (.p v) H1)(h1:bE vs a:=by first|exact bE.refl _|simp):lj P false f K args H:=cwp h b hk h1
theorem ep{args:List AV}{vs a:List PV}{bs:List Nat}{al aL:List (Nat×Obj)}(h:au P f a v)(b:oT H args=some (vs,bs))(hf:lW H bs=some (al,aL))(hk:L {v:=.p v,al,aL})(h1:bE vs a:=by first|exact bE.refl _|simp):nH P f L args H:=cep h b hf hk h1
theorem ci{args:List AV}{H':aj}{v:AV}(h:cS P f H args H' v)(hk:K v H'):lj P false f K args H:=.inr ⟨rfl,.inr (.inl ⟨H',v,h,hk⟩)⟩
end calls
attribute [simp] Se aKY Xq Ug yz Oz aKM aKN NG aKL zu CQ Ls Uf aS Uy VR W0 Ve VG UF Vd VL Vs WJ WK Wr Vb Xz Vi UR Wd Xb mZ kJ oT mY lW mO
 aL4 X7 aL2 aL3 X5 aL1 X6 aW LX aL0 UW WA WH Vt Xv Zl Y1 aL5 X4 W7 aMc X3 W6 azq XG azw Zw ayH Zv Uu azl Zq ayy azC ayM VV Vo Vn Zt azk ayI aKw Xf aKz Za aKj Y9 UB aKq Y4 aKi aKB aKl V6 UL U1 Y7 aKo aKk Zr Y5 XE Xd Vl UZ XF Xe Zs Y6 azv aKx Vm U0 Vr VK azo aKv azm aKu VU V5 XH Xg ayV aKm axK axT axQ axW
end
section
variable{P:ao}{ag:am->Bool}{q:Cx}
theorem KW{r:fe}{K a:aR->Prop}(hk:∀e,K e->a e)(h:bh r K):bh r a:=by
 unfold bh at h⊢
 split at h
 ·exact⟨h.1,hk _ h.2⟩
 ·exact h.elim
theorem Wb{o:Oper}{e:Env}{H:aj}{K a:aR->Prop}(hk:∀e,K e->a e)(h:fT P ag o (ev e) H K):fT P ag o (ev e) H a:=by
 obtain⟨x,b,c⟩:=DG (ag:=ag) o (ev e) H K h;exact c a (hk x b)
theorem Mr{o:Oper}{e:Env}{H:aj}{K a:aR->Prop}(hk:∀e,K e->a e)(h:lG P ag o e H K):lG P ag o e H a:=by
 unfold lG at h⊢
 repeat' split at h
 all_goals first|exact hk _ h|exact KW hk h|exact⟨h.1,KW hk h.2⟩|exact Wb hk h|exact h.elim
theorem JH{d:Bool}{f:am}{args:List AV}{H:aj}{K i:AV->aj->Prop}(hk:∀v H,K v H->i v H)(h:iy P d f args H K):iy P d f args H i:=by
 rcases h with⟨vs,v,a,b,c⟩|⟨g,⟨vs,H1,v,a,b,c⟩|⟨H',v,a,b⟩|⟨e,a,b,c⟩|⟨al,v,a,b,c⟩⟩
 ·exact .inl ⟨vs,v,a,b,hk _ _ c⟩
 ·exact .inr ⟨g,.inl ⟨vs,H1,v,a,b,hk _ _ c⟩⟩
 ·exact .inr ⟨g,.inr (.inl ⟨H',v,a,hk _ _ b⟩)⟩
 ·exact .inr ⟨g,.inr (.inr (.inl ⟨e,a,b,hk _ _ c⟩))⟩
 ·exact .inr ⟨g,.inr (.inr (.inr ⟨al,v,a,b,hk _ _ c⟩))⟩
theorem J2{f:am}{args:List AV}{H:aj}{K d:aR->Prop}(hk:∀e,K e->d e)(h:iF P f args H K):iF P f args H d:=by
 rcases h with⟨vs,v,a,b,c⟩|⟨vs,bs,al,aL,v,a,b,c,g⟩|⟨e,a,b,c⟩|⟨al,v,a,b,c⟩
 ·exact .inl ⟨vs,v,a,b,hk _ c⟩
 ·exact .inr (.inl ⟨vs,bs,al,aL,v,a,b,c,hk _ g⟩)
 ·exact .inr (.inr (.inl ⟨e,a,b,hk _ c⟩))
 ·exact .inr (.inr (.inr ⟨al,v,a,b,hk _ c⟩))
theorem Jq{o:Oper}{K b:St->Prop}{s:St}(hk:∀s,K s->b s)(h:dB P ag o K s):dB P ag o b s:=by
 unfold dB at h⊢
 split at h
 ·rename_i f args g i;unfold sG at h⊢
  split at h
  ·exact JH (fun v H a=>hk _ a) h
  ·exact JH (fun v H a=>hk _ a) h
  ·obtain⟨H',v,c,d⟩:=h;exact⟨H',v,c,hk _ d⟩
  ·exact h.elim
 ·exact Mr (fun e a=>hk _ a) h
theorem JN{o:Oper}{s:St}{K a:aR->Prop}(hk:∀e,K e->a e)(h:dC P ag o s K):dC P ag o s a:=by
 unfold dC at h⊢
 split at h
 ·rename_i f args g i;unfold sj at h⊢
  split at h
  ·exact J2 hk h
  ·exact J2 hk h
  ·obtain⟨e,b,c,d⟩:=h;exact⟨e,b,c,hk _ d⟩
  ·exact h.elim
 ·exact Mr hk h
theorem wj{c:Array Oper}:∀(l:List Oper){K a:St->Prop}{s:St},(∀s,K s->a s)->gD P ag c l K s->gD P ag c l a s
 |[],K,a,s,hk,h=>hk s h
 |o::l,K,a,s,hk,h=>by
  simp only[gD]at h⊢
  split at h
  ·exact Jq (fun s hs=>wj l hk hs) h
  ·split at h
   ·split at h
    ·rename_i b;rw[if_pos b];exact Jq (fun s hs=>wj l hk hs) h
    ·rename_i b;rw[if_neg b];exact wj l hk h
   ·exact wj l hk h
   ·exact h.elim
theorem vZ{d:Array Oper}:∀(l:List Oper){i:Nat}{b:List Touch}{K a:St->Prop}{s:St},(∀s,K s->a s)->gL P ag d l i b K s->gL P ag d l i b a s
 |[],i,b,K,a,s,hk,h=>⟨h.1,hk s h.2⟩
 |o::l,i,b,K,a,s,hk,h=>by
  simp only[gL]at h⊢
  split at h
  ·exact JN (fun e hs=>vZ l hk hs) h
  ·split at h
   ·split at h
    ·rename_i c;rw[if_pos c];exact JN (fun e hs=>vZ l hk hs) h
    ·rename_i c;rw[if_neg c];exact vZ l hk h
   ·exact vZ l hk h
   ·exact h.elim
theorem n9:∀(c:Code){Q g:bA->St->Prop}{s:St},(∀e s,Q e s->g e s)->dw P ag q c Q s->dw P ag q c g s
 | .skip,Q,g,s,hq,h=>hq _ _ h
 | .label _,Q,g,s,hq,h=>hq _ _ h
 | .exit _,Q,g,s,hq,h=>hq _ _ h
 | .ret,Q,g,s,hq,h=>hq _ _ h
 | .region _ ops draw,Q,g,s,hq,h=>by
  simp only[dw]at h⊢
  split at h
  ·rename_i j;rw[if_pos j];exact vZ _ (fun s hs=>hq _ _ hs) h
  ·rename_i j;rw[if_neg j];exact wj _ (fun s hs=>hq _ _ hs) h
 | .seq a b,Q,g,s,hq,h=>by
  simp only[dw]at h⊢;refine n9 a (fun e s d=>?_) h;cases e with
  |normal=>exact n9 b hq d
  |exit i=>exact hq _ _ d
  |ret=>exact hq _ _ d
 | .cond c a b,Q,g,s,hq,h=>by
  simp only[dw]at h⊢;unfold uM at h⊢
  split at h
  ·split at h
   ·rename_i k;rw[if_pos k];exact n9 a hq h
   ·rename_i k;rw[if_neg k];exact n9 b hq h
  ·exact h.elim
 | .block id b,Q,g,s,hq,h=>by
  simp only[dw]at h⊢;refine n9 b (fun e s d=>?_) h;cases e with
  |normal=>exact hq _ _ d
  |exit i=>
   simp only[oM]at d⊢
   by_cases hi:i=id
   ·simp only[hi,if_true]at d⊢;exact hq _ _ d
   ·simp only[hi,if_false]at d⊢;exact hq _ _ d
  |ret=>exact hq _ _ d
 | .scope b,Q,g,s,hq,h=>n9 b hq h
 | .loop b,Q,g,s,hq,h=>by
  simp only[dw]at h⊢;obtain⟨I,l,m⟩:=h;refine⟨I,l,fun n t hI=>n9 b (fun e s d=>?_) (m n t hI)⟩;cases e with
  |normal=>exact d
  |exit id=>exact hq _ _ d
  |ret=>exact hq _ _ d
 | .rangeFunc f o a b,Q,g,s,hq,h=>by
  simp only[dw]at h⊢;exact⟨h.1,Ku (fun H=>Ky hq) h.2⟩
 | .goto _,_,_,_,_,h=>h.elim
 | .refuse _,_,_,_,_,h=>h.elim
def sL(R:St->Prop)(Q:bA->St->Prop)(e:Tg (R,Q) bA)(s:Tg (R,Q) St):Prop:=match e with
 | .normal=>R s
 |e=>Q e s
theorem UJ{R:St->Prop}{Q:bA->St->Prop}{s:St}:sL R Q .normal s=R s:=(rfl)
theorem Wi{R:St->Prop}{Q:bA->St->Prop}{id:Nat}{s:St}:sL R Q (.exit id) s=Q (.exit id) s:=(rfl)
theorem XM{R:St->Prop}{Q:bA->St->Prop}{s:St}:sL R Q .ret s=Q .ret s:=(rfl)
theorem join{a b:Code}{Q:bA->St->Prop}{s:St}(R:St->Prop)(d:ff P ag q a (sL R Q) s)(f:∀s',R s'->ff P ag q b Q s'):ff P ag q (.seq a b) Q s:=by
 rw[aW];refine n9 a (fun e s c=>?_) d;cases e with
 |normal=>exact f s c
 |exit i=>exact c
 |ret=>exact c
theorem Sf{α:Type}{N:Nat×Nat->Prop}{f:α->PV}{l:List α}:aS N (l.map (AV.p∘f))=True:=Se
attribute [simp] UJ Wi XM Sf
end
section
variable{P:ao}{ag:am->Bool}
def xt(P:ao)(a:List av)(N:Nat)(H':aj)(v:AV)(e:Tg (a,N,H',v) bA)(s:Tg (a,N,H',v) St):Prop:=uS P a N H' v e s
theorem Wn{a:List av}{N:Nat}{H':aj}{v:AV}{s:St}:xt P a N H' v .ret s=∃vs,fY P s a=some vs/\oneOf vs=v/\(H'=s.heap\/(de N s ⟨[],H'⟩/\aE (aJ H') v)):=by simp[xt,uS]
theorem Ut{a:List av}{N:Nat}{H':aj}{v:AV}{s:St}:xt P a N H' v .normal s=∃vs,fY P s a=some vs/\oneOf vs=v/\(H'=s.heap\/(de N s ⟨[],H'⟩/\aE (aJ H') v)):=by simp[xt,uS]
theorem gM{f:am}{fn:Func}(ag:am->Bool)(h:ar P f fn)(a:P.follows .mixedOrders=true){args:List AV}{H H':aj}{v:AV}(b:args.length<=fn.ntmps)
 (c:ff P ag (fn.ntmps,H.length) (fn.body.getD .skip) (xt P fn.results.toList H.length H' v) ⟨jl 0 args,H⟩):cS P f H args H' v:=
 QV ag h a b (mq (Q':=uS P fn.results.toList H.length H' v) _ (fun _ _ h=>h) c)
theorem aLe{n i:Nat}:sig [] n i=n+i:=by simp[sig]
theorem cn{f:am}{H H':aj}{K:AV->aj->Prop}{v:AV}{args:List PV}(h:cS P f [] (args.map .p) H' v)(hk:K (cH (sig [] H.length) v) (H++H'.map (dc (sig [] H.length)))):lj P false f K (args.map .p) H:=by
 refine .inr ⟨rfl,.inr (.inr (.inl ⟨dH [] H.length [] H' v,?_,⟨by simp[dH],by simp[dH]⟩,?_⟩))⟩
 ·have b:aS (aJ ([]:aj)) (args.map .p):=by rw[c7];intro v c;obtain⟨x,_,rfl⟩:=a4.1 c;trivial
  have:=h.frame [] H.length rfl List.nodup_nil (by simp) (by simp) b (by simp);have e:cU (sig [] H.length) (args.map .p)=args.map .p:=by
   clear h b this hk
   induction args with
   |nil=>rfl
   |cons a r d=>simp only[a2,cU,cH,d]
  rwa [e]at this
 ·simpa[dH,bm]using hk
theorem Qz{f:am}{H H':aj}{K:AV->aj->Prop}{v:AV}{a b:PV}(h:cS P f [] [.p a,.p b] H' v)(hk:K (cH (sig [] H.length) v) (H++H'.map (dc (sig [] H.length)))):lj P false f K [.p a,.p b] H:=cn (args:=[a,b]) h hk
def PO(P:ao)(T:ac)(f:Nat):Option (ac×jQ):=match kindOf P T,P.underlying T with
 | .agg u,some (.struct _)=>((jS P u)[f]?).map fun F=>(u,kindOf P F)
 |_,_=>none
def Au(P:ao)(T:ac)(f:Nat)(x:AV):fe:=match PO P T f,x with
 |some (u,k),.p t=>match(bW t)[f]? with
  |some g=>some (aI t=.agg u/\k=aI g,{v:=.p g})
  |none=>none
 |_,_=>none
theorem Md{T:ac}{x:AV}{f:Nat}{K:aR->Prop}:(match kindOf P T,P.underlying T,x with
  | .agg u,some (.struct _),.p t=>aI t=.agg u/\(match(bW t)[f]?,(jS P u)[f]? with
   |some g,some F=>kindOf P F=aI g/\K {v:=.p g}
   |_,_=>False)
  |_,_,_=>False)=bh (Au P T f x) K:=by
 unfold Au PO;cases b:kindOf P T with
 |agg u=>cases c:P.underlying T with
  |none=>simp[bh]
  |some d=>cases d with
   |struct fs=>cases x with
    |p t=>cases hc:(jS P u)[f]?<;>cases a:(bW t)[f]?<;>simp[bh,a,hc,and_assoc]
    |_=>cases hc:(jS P u)[f]?<;>simp[bh,hc]
   |_=>simp[bh]
 |_=>simp[bh]
section fields
variable{dst:Option Tmp}{ty:Nat}{pos:String}{af:Array Edge}{g:Option (Nat×Bool)}{env:Env}{heap:aj}{L:St->Prop}{K:aR->Prop}{T:ac}{x:ab}{f:Nat}
theorem Y8:ey P ag ⟨dst,.field T x f,ty,pos,af,g⟩ L ⟨env,heap⟩ ()=cA (eX dst ⟨env,heap⟩ L) (Au P T f (ev env x)):=Md
theorem Zu:eg P ag ⟨dst,.field T x f,ty,pos,af,g⟩ ⟨env,heap⟩ K ()=cA K (Au P T f (ev env x)):=Md
end fields
theorem zt{σ:Nat->Nat}{α:Type}{f:α->PV}:∀{l:List α},cU σ (l.map (AV.p∘f))=l.map (AV.p∘f)
 |[]=>rfl
 |a::l=>by simp only[a2,cU,zt (l:=l)];rfl
theorem Xr{σ:Nat->Nat}{α β:Type}{f:β->PV}{g:α->β}{l:List α}:cU σ (l.map ((AV.p∘f)∘g))=l.map ((AV.p∘f)∘g):=zt (f:=f∘g)
theorem aKW{α β:Type}{N:Nat×Nat->Prop}{f:β->PV}{g:α->β}{l:List α}:aS N (l.map ((AV.p∘f)∘g))=True:=Sf (f:=f∘g)
attribute [simp] Y8 Zu Xr aKW Wn Ut aLe cH cU dc zt
end
section
variable{P:ao}{ag:am->Bool}
theorem ME{T:aj}:∀{h:aj},iB T h h=True
 |[]=>by simp[iB]
 |o::h=>by simp[iB,Of,ME (h:=h)]
theorem DE{T:aj}:∀{h k:aj},dK T (h++k)=(dK T h/\dK T k)
 |[],k=>by simp[dK]
 |o::h,k=>by simp[dK,DE (h:=h),and_assoc]
theorem aKX{N:Nat×Nat->Prop}{n:Nat}{v:PV}:aS N (bi n (.p v))=True:=by
 rw[c7,eq_iff_iff,iff_true];intro x hx;rw[(List.mem_replicate.1 hx).2];trivial
theorem YY{σ:Nat->Nat}{α:Type}{f:α->PV}{l:List α}:cU σ (l.map fun x=>.p (f x))=l.map fun x=>.p (f x):=zt (f:=f)
theorem vF{L:ek}{e:Env}{H:aj}(h:L.env=e)(a:iQ H e):∀x,aE (aJ H) (aN L.env x):=by rw[h];exact a.get
def ek.bz(L:ek):ek:={L with st:=.busy}
def ek.dn(L:ek)(j:Code):ek:={L with st:=.done,pending:=some j}
def ek.xh(L:ek):ek:={L with st:=.exhausted}
def Stream(P:ao)(g:am)(fi ca:List PV)(d:List (List PV)):Prop:=
 ∀(b k:Nat)(c:Nat->aj)(H':aj),k<=d.length->(∀i,i<=k->dK (c i) (c i)/\aE (aJ (c i)) (.map b))->
  (∀i a,i<k->d[i]?=some a->fJ P b (c i) (a.map .p) (c (i+1)) (.p (.bool true)))->
  (k=d.length/\H'=c k\/∃a,d[k]?=some a/\fJ P b (c k) (a.map .p) H' (.p (.bool false)))->
  cS P g (c 0) (fi.map .p++[.map b]++ca.map .p) H' (.p (.aC []))
theorem axL{b:Nat}{args:List AV}{M:AV->aj->Prop}{heap:aj}:A4 P heap M (.map b) args=∃H' v,fJ P b heap args H' v/\M v H':=(rfl)
def vm(b:Nat)(L:ek)(N:Nat)(H':aj)(v:Bool)(e:Tg (b,L,N,H',v) bA)(s:Tg (b,L,N,H',v) St):Prop:=
 match e with
 | .normal=>v=true/\(St.heap s)[b]?=some (.loop L.bz)/\de N ⟨[],(St.heap s).set b (.loop L)⟩ ⟨[],H'⟩
 | .exit id=>v=false/\(St.heap s)[b]?=some (.loop L.bz)/\de N ⟨[],(St.heap s).set b (.loop (L.dn (.exit id)))⟩ ⟨[],H'⟩
 | .ret=>v=false/\(St.heap s)[b]?=some (.loop L.bz)/\de N ⟨[],(St.heap s).set b (.loop (L.dn .ret))⟩ ⟨[],H'⟩
section
variable{b N:Nat}{L:ek}{H':aj}{v:Bool}{s:St}
theorem WD:vm b L N H' v .normal s=(v=true/\s.heap[b]?=some (.loop L.bz)/\de N ⟨[],s.heap.set b (.loop L)⟩ ⟨[],H'⟩):=(rfl)
theorem Y0{id:Nat}:vm b L N H' v (.exit id) s=(v=false/\s.heap[b]?=some (.loop L.bz)/\de N ⟨[],s.heap.set b (.loop (L.dn (.exit id)))⟩ ⟨[],H'⟩):=(rfl)
theorem aKQ:vm b L N H' v .ret s=(v=false/\s.heap[b]?=some (.loop L.bz)/\de N ⟨[],s.heap.set b (.loop (L.dn .ret))⟩ ⟨[],H'⟩):=(rfl)
end
def Fw(P:ao)(ag:am->Bool)(q:Cx)(b:Nat)(c:Code)(L:ek)(H':aj)(v:Bool)(e:Tg (q,b,c,L,H',v) bA)(s:Tg (q,b,c,L,H',v) St):Prop:=
 match e with
 | .normal=>(St.heap s)[b]?=some (.loop L)/\ff P ag q c (vm b L q.2 H' v) ⟨St.env s,(St.heap s).set b (.loop L.bz)⟩
 |_=>False
theorem WE{q:Cx}{b:Nat}{c:Code}{L:ek}{H':aj}{v:Bool}{s:St}:Fw P ag q b c L H' v .normal s=(s.heap[b]?=some (.loop L)/\ff P ag q c (vm b L q.2 H' v) ⟨s.env,s.heap.set b (.loop L.bz)⟩):=(rfl)
theorem tF(ag:am->Bool)(r:P.follows .mixedOrders=true){b n:Nat}{L:ek}{H H':aj}{args:List AV}{v:Bool}{j:List Tmp}{a c:Code}{env:Env}
 (d:L=⟨.ready,none,n,j,a,c,env⟩)(o:H[b]?=some (.loop L))(q:args.length=j.length)
 (t:(j.all (fun x=>decide (x<n))&&codeOk fit n a&&codeOk fit n c)=true)
 (u:ff P ag (n,H.length) a (Fw P ag (n,H.length) b c L H' v) ⟨rZ j args env,H⟩):fJ P b H args H' (.p (.bool v)):=by
 refine QW ag r o (by rw[d];exact q) (by rw[d];exact t) ?_;unfold zO;have e1:L.n=n:=by rw[d]
 have e2:L.assign=a:=by rw[d]
 have e3:L.body=c:=by rw[d]
 have e4:L.params=j:=by rw[d]
 have e5:L.env=env:=by rw[d]
 have k:L.st=.ready:=by rw[d]
 rw[e1,e2,e3,e4,e5];refine mq (Q:=Fw P ag (n,H.length) b c L H' v) _ (fun e s h=>?_) u;cases e with
 |normal=>
  obtain⟨l,m⟩:=h;simp only[yX,l];refine⟨k,mq (Q:=vm b L H.length H' v) _ (fun e s h=>?_) m⟩;cases e with
  |normal=>
   obtain⟨rfl,f,g⟩:=h;have i:s.heap[b]?=some (.loop L.bz):=f;simp only[ub,i,iw];refine⟨rfl,?_⟩;have:({L.bz with st:=LoopState.ready,pending:=none}:ek)=L:=by subst d;rfl
   simpa[this]using g
  |exit id=>
   obtain⟨rfl,f,g⟩:=h;have i:s.heap[b]?=some (.loop L.bz):=f;simp only[ub,i,iw];exact⟨rfl,g⟩
  |ret=>
   obtain⟨rfl,f,g⟩:=h;have i:s.heap[b]?=some (.loop L.bz):=f;simp only[ub,i,iw];exact⟨rfl,g⟩
 |exit id=>exact h.elim
 |ret=>exact h.elim
theorem rf{f:ab}{h:Array Tmp}{a c:Code}{Q:bA->St->Prop}{env:Env}{heap:aj}{q:Cx}{g:am}{fi ca:List PV}{n:List (List PV)}(aM:Stream P g fi ca n)(hf:ev env f= .p (.func g fi ca))(hq:q.2<=heap.length)
 (X:ek->Nat->aj)(k:Nat)(hk:k<=n.length)(u:∀L,X L 0=heap++[.loop L])
 (hx:∀L,L=⟨.ready,none,q.1,h.toList,a,c,env⟩->∀i,i<=k->(X L i)[heap.length]?=some (.loop L)/\iQ (X L i) env/\(iQ (X L i) env->(∀x,aE (aJ (X L i)) (aN L.env x))->dK (X L i) (X L i)))
 (t:∀L,L=⟨.ready,none,q.1,h.toList,a,c,env⟩->∀i x,i<k->n[i]?=some x->fJ P heap.length (X L i) (x.map .p) (X L (i+1)) (.p (.bool true)))
 (y:∀L,L=⟨.ready,none,q.1,h.toList,a,c,env⟩->(k=n.length/\Q .normal ⟨env,(X L k).set heap.length (.loop L.xh)⟩)\/
  ∃x j l,n[k]?=some x/\l[heap.length]?=some (.loop (L.dn j))/\fJ P heap.length (X L k) (x.map .p) l (.p (.bool false))/\jY Q (some j) ⟨env,l.set heap.length (.loop (L.dn j).xh)⟩):
 ff P ag q (.rangeFunc f h a c) Q ⟨env,heap⟩:=by
 obtain⟨L,b⟩:∃L:ek,L=⟨.ready,none,q.1,h.toList,a,c,env⟩:=⟨_,rfl⟩
 have s:=aM heap.length k (X L);refine⟨hq,?_⟩;show jH P (ev env f) heap.length (heap++[.loop ⟨.ready,none,q.1,h.toList,a,c,env⟩]) (iO heap.length env Q);rw[hf];simp only[jH];rw[<-b,<-u L];have r:∀i,i<=k->dK (X L i) (X L i)/\aE (aJ (X L i)) (.map heap.length):=by
  intro i hi;obtain⟨m,d,o⟩:=hx L b i hi;have e5:L.env=env:=by rw[b]
  refine⟨o d (by rw[e5];exact d.get),?_⟩;simp only[aE,aJ,m];exact⟨_,rfl,by simp[Obj.has]⟩
 rcases y L b with⟨m,d⟩|⟨x,j,l,m,d,o,v⟩
 ·refine⟨_,_,s (X L k) hk r (t L b) (.inl ⟨m,rfl⟩),?_⟩;have w:=(hx L b k (bl k)).1;simp only[iO,w];refine⟨by rw[b];simp,?_⟩;have:L.pending=none:=by rw[b]
  simp only[this,jY];have e:L.xh={L with st:=.exhausted}:=rfl;rw[this]at e;rw[e]at d;exact d
 ·refine⟨_,_,s l hk r (t L b) (.inr ⟨x,m,o⟩),?_⟩;simp only[iO,d];exact⟨by simp[ek.dn],v⟩
section aAf
variable{f:am}{H0 bU H:aj}{gd args:List AV}{v0:AV}{K:AV->aj->Prop}{L:aR->Prop}
theorem Hl(h:cS P f H0 gd bU v0)(bs:List Nat)(e:bs.length=H0.length)(i:bs.Nodup)(g:∀b∈bs,b<H.length)(d:H0.length<=bU.length)(a:aS (aJ H0) gd)(j:dK H0 H0)(c:cU (sig bs H.length) gd=args):
 sX P f args H.length (dH bs H.length H0 bU v0):=by
 have:=h.frame bs H.length e i g d a j.get
 rwa [c]at this
theorem cf(h:cS P f H0 gd bU v0)(bs:List Nat)(hk:K (cH (sig bs H.length) v0) (bm H (bs.zip ((bU.take H0.length).map (dc (sig bs H.length))))++(bU.drop H0.length).map (dc (sig bs H.length))))(al:∀p∈bs.zip (H0.map (dc (sig bs H.length))),H[p.1]?=some p.2:=by simp[sig])(aL:∀p∈bs.zip ((bU.take H0.length).map (dc (sig bs H.length))),p.1<H.length/\p.2≠ .hole:=by simp[sig])
 (e:bs.length=H0.length:=by simp)(i:bs.Nodup:=by simp)(g:∀b∈bs,b<H.length:=by simp)(d:H0.length<=bU.length:=by simp)(a:aS (aJ H0) gd:=by simp)(hr:dK H0 H0:=by simp)(c:cU (sig bs H.length) gd=args:=by simp[sig]):lj P false f K args H:=
 .inr ⟨rfl,.inr (.inr (.inl ⟨_,Hl h bs e i g d a hr c,⟨al,aL⟩,hk⟩))⟩
theorem ef(h:cS P f H0 gd bU v0)(bs:List Nat)(hk:L {v:=cH (sig bs H.length) v0,al:=bs.zip (H0.map (dc (sig bs H.length))),aL:=bs.zip ((bU.take H0.length).map (dc (sig bs H.length))),aP:=(bU.drop H0.length).map (dc (sig bs H.length))})(al:∀p∈bs.zip (H0.map (dc (sig bs H.length))),H[p.1]?=some p.2:=by simp[sig])(aL:∀p∈bs.zip ((bU.take H0.length).map (dc (sig bs H.length))),p.1<H.length/\p.2≠ .hole:=by simp[sig])
 (e:bs.length=H0.length:=by simp)(i:bs.Nodup:=by simp)(g:∀b∈bs,b<H.length:=by simp)(d:H0.length<=bU.length:=by simp)(a:aS (aJ H0) gd:=by simp)(j:dK H0 H0:=by simp)(c:cU (sig bs H.length) gd=args:=by simp[sig]):nH P f L args H:=
 .inr (.inr (.inl ⟨_,Hl h bs e i g d a j c,⟨al,aL⟩,hk⟩))
end aAf
section bytes
variable{dst:Option Tmp}{ty:Nat}{pos:String}{af:Array Edge}{g:Option (Nat×Bool)}{env:Env}{heap:aj}{L:St->Prop}{K:aR->Prop}
theorem azB{x:ab}{d:Array ac}{b aA ai off len:Nat}{k:AK}{es:List AV}(hx:ev env x= .sl b aA ai off len)(f:heap[b]?=some (.arr k aA ai es))(e:0<len)(h:off+len<=es.length)
 (hk:K {v:=.b7 b aA ai off [],al:=[(b,.arr k aA ai es)]}):eg P ag ⟨dst,.call {callee:=.builtin .unsafeSliceData,args:=#[x],argTypes:=d},ty,pos,af,g⟩ ⟨env,heap⟩ K ():=by
 show(match ev env x with
   | .p .aH=>K {v:=.p .dR}
   | .sl b aA ai off len=>(match heap[b]? with
    |some (.arr k c a es)=>aA=c/\ai=a/\((k.gr=true/\es=[]/\K {v:=.p .dR,al:=[(b,.arr k c a es)]})\/(0<len/\off+len<=es.length/\K {v:=.b7 b aA ai off [],al:=[(b,.arr k c a es)]}))
    |_=>False)
   |_=>False)
 rw[hx];simp only[f];exact⟨trivial,trivial,.inr ⟨e,h,hk⟩⟩
theorem azF{x y:ab}{a:Array ac}{b aA:Nat}{m:Int}{es:List AV}{l:List Nat}(hx:ev env x= .b7 b aA 1 0 [])(o:ev env y= .p (.int .i64 m))(i:heap[b]?=some (.arr .bytes aA 1 es))(c:0<m)(k:m.toNat<=es.length)(d:m<=9223372036854775807)
 (f:a.size=2)(e:ptrTo P (a.getD 0 0)=some Gl.u8)(n:P.cellsOf Gl.u8=1)(j:bytesOf (es.take m.toNat)=some l)
 (hk:K {v:=.p (.str l),al:=[(b,.arr .bytes aA 1 es)],aL:=[(b,.dead)]}):eg P ag ⟨dst,.call {callee:=.builtin .unsafeString,args:=#[x,y],argTypes:=a},ty,pos,af,g⟩ ⟨env,heap⟩ K ():=by
 have h:fT P ag ⟨dst,.call {callee:=.builtin .unsafeString,args:=#[x,y],argTypes:=a},ty,pos,af,g⟩ (ev env) heap K:=by
  unfold fT;simp only[a2,List.map_nil,hx,o,i];exact⟨trivial,trivial,trivial,trivial,c,k,d,f,e,n,by rw[j];exact hk⟩
 exact h
end bytes
theorem rf2{f:ab}{h:Array Tmp}{a c:Code}{Q:bA->St->Prop}{env:Env}{heap:aj}{q:Cx}{g:am}{fi ca:List PV}{b:List (List PV)}(aM:Stream P g fi ca b)(hf:ev env f= .p (.func g fi ca))(hq:q.2<=heap.length)
 (X F:ek->Nat->aj)(okB:Nat->Bool)(j:Code)(k:Nat)(hk:k<=b.length)(u:∀i,i<k->okB i=true)(r:k=b.length\/(k<b.length/\okB k=false))(m:∀L,X L 0=heap++[.loop L])
 (hx:∀L,L=⟨.ready,none,q.1,h.toList,a,c,env⟩->∀i,i<=k->(X L i)[heap.length]?=some (.loop L)/\iQ (X L i) env/\(iQ (X L i) env->(∀x,aE (aJ (X L i)) (aN L.env x))->dK (X L i) (X L i)))
 (l:∀L,L=⟨.ready,none,q.1,h.toList,a,c,env⟩->∀i x,i<=k->b[i]?=some x->fJ P heap.length (X L i) (x.map .p) (if okB i=true then X L (i+1)else F L (i+1)) (.p (.bool (okB i))))
 (n:∀L,(F L (k+1))[heap.length]?=some (.loop (L.dn j)))
 (s:k=b.length->∀L,Q .normal ⟨env,(X L k).set heap.length (.loop L.xh)⟩)
 (v:k<b.length->∀L,jY Q (some j) ⟨env,(F L (k+1)).set heap.length (.loop (L.dn j).xh)⟩):
 ff P ag q (.rangeFunc f h a c) Q ⟨env,heap⟩:=by
 refine rf aM hf hq X k hk m hx (fun L e i x hi t=>?_) (fun L e=>?_)
 ·have:=l L e i x (by omega) t;rw[u i hi]at this;exact this
 ·rcases r with d|⟨d,o⟩
  ·exact .inl ⟨d,s d L⟩
  ·right;refine⟨b[k],j,F L (k+1),ay d,n L,?_,v d L⟩;have:=l L e k b[k] (bl _) (ay d);rw[o]at this;exact this
attribute [simp] YY aKX ME DE WD Y0 aKQ WE axL rZ
end
section
variable{P:ao}{ag:am->Bool}{w:ax}{ad ah:Nat->Prop}{β:Bd}{H:aj}
def nK(K:Nat->Bool)(H:aj):aj:=H.mapIdx fun i o=>if K i then .dead else o
theorem C2{K:Nat->Bool}{b:Nat}:(nK K H)[b]?=(H[b]?).map fun o=>if K b then .dead else o:=by simp[nK]
theorem lT{K:Nat->Bool}{b:Nat}{o:Obj}(h:(nK K H)[b]?=some o):∃a,H[b]?=some a/\((K b=true/\o=.dead)\/(K b=false/\o=a)):=by
 rw[C2,Option.map_eq_some_iff]at h;obtain⟨a,d,c⟩:=h;refine⟨a,d,?_⟩;cases hk:K b<;>simp[hk]at c
 ·exact .inr ⟨rfl,c.symm⟩
 ·exact .inl ⟨rfl,c.symm⟩
theorem Dz{K:Nat->Bool}{x:Nat×Nat}(h:aJ H x):aJ (nK K H) x:=by
 obtain⟨o,a,b⟩:=h;refine⟨if K x.1 then .dead else o,by rw[C2,a];rfl,?_⟩
 split
 ·trivial
 ·exact b
theorem CD{K:Nat->Bool}:cz β H β (nK K H):=by
 refine⟨fun b _ h=>⟨?_,rfl⟩,fun b _ h=>⟨?_,rfl⟩,fun b _ h=>⟨?_,rfl⟩,fun b aA ai k e _ h=>⟨k,e,?_,bl _,Iff.rfl,fun _=>⟨rfl,rfl⟩⟩,fun b _ h=>⟨?_,rfl⟩⟩
 ·obtain⟨fz,t,h⟩:=h;obtain⟨d,c,a⟩:=lT h;rcases a with⟨_,a⟩|⟨_,rfl⟩
  ·cases a
  ·exact⟨fz,t,c⟩
 ·obtain⟨s,q,h⟩:=h;obtain⟨d,c,a⟩:=lT h;rcases a with⟨_,a⟩|⟨_,rfl⟩
  ·cases a
  ·exact⟨s,q,c⟩
 ·obtain⟨s,q,h⟩:=h;obtain⟨d,c,a⟩:=lT h;rcases a with⟨_,a⟩|⟨_,rfl⟩
  ·cases a
  ·exact⟨s,q,c⟩
 ·obtain⟨d,c,a⟩:=lT h;rcases a with⟨_,a⟩|⟨_,rfl⟩
  ·cases a
  ·exact c
 ·obtain⟨L,h⟩:=h;obtain⟨d,c,a⟩:=lT h;rcases a with⟨_,a⟩|⟨_,rfl⟩
  ·cases a
  ·exact⟨L,c⟩
def BJ(K:Nat->Bool)(ad:Nat->Prop)(β:Bd)(H:aj)(k:Nat):Prop:=ad k\/∃(b:Nat)(o:Obj),H[b]?=some o/\o.live/\K b=true/\β.aq b=k
theorem bV.kill(K:Nat->Bool)(a:bV P w ad β H ah):bV P w ad β (nK K H) ah:=by
 refine⟨fun b o e=>?_,fun b b' o o' e n f g m l=>?_,fun b o e=>?_,a.bQ,a.eC,a.iT⟩
 ·obtain⟨i,c,d⟩:=lT e;rcases d with⟨_,rfl⟩|⟨_,rfl⟩
  ·trivial
  ·exact fG.carry (fun _ x=>x) (fun _ _=>rfl) CD (a.refs b o c) (fun _=>⟨rfl,rfl,rfl⟩) (fun _ _ h=>h) (a.cM b o c)
 ·obtain⟨i,c,d⟩:=lT e;obtain⟨p,j,k⟩:=lT n;rcases d with⟨_,rfl⟩|⟨_,rfl⟩
  ·exact f.elim
  rcases k with⟨_,rfl⟩|⟨_,rfl⟩
  ·exact g.elim
  exact a.inj b b' _ _ c j f g m l
 ·obtain⟨i,c,d⟩:=lT e;rcases d with⟨_,rfl⟩|⟨_,rfl⟩
  ·trivial
  ·exact Obj.wK (fun _ h=>Dz h) (a.refs b o c)
theorem bV.aJH(K:Nat->Bool)(a:bV P w ad β H ah):bV P w (BJ K ad β H) β (nK K H) ah:=by
 have hk:=a.kill K;have hi:∀k,ad k->BJ K ad β H k:=fun k h=>.inl h;refine⟨fun b o c=>?_,fun b b' o o' c r d p q n=>hk.inj b b' o o' c r d p (fun h=>q (hi _ h)) n,hk.refs,fun k h=>?_,a.eC,⟨fun g=>aD.mono hi (fun _ _=>rfl) _ _ (a.iT.val g),fun g cs h=>⟨hi _ (a.iT.raw g cs h).1,(a.iT.raw g cs h).2⟩⟩⟩
 ·have f:=c;obtain⟨t,j,l⟩:=lT c;rcases l with⟨_,rfl⟩|⟨s,rfl⟩
  ·trivial
  ·refine fG.carry hi (fun _ _=>rfl) (cz.refl β _) (hk.refs b o f) (fun _=>⟨rfl,rfl,rfl⟩) (fun d fz h=>?_) (hk.cM b o f);cases fz with
   |true=>exact hi _ h
   |false=>
    refine⟨?_,h.2⟩;rintro(m|⟨e,i,g1,g2,g3,g4⟩)
    ·exact h.1 m
    ·have:=a.inj e b i o g1 j g2 d (by rw[g4];exact h.1) g4;rw[this,s]at g3;cases g3
 ·rcases h with h|⟨e,i,g1,g2,g3,rfl⟩
  ·exact a.bQ k h
  ·exact a.ny g1 g2
theorem fG.held{b:Nat}{o:Obj}(h:fG P w ad β H ah b o)(a:o.live):ad (β.aq b)\/¬ah (β.aq b):=by
 by_cases hi:ad (β.aq b)
 ·exact .inl hi
 ·exact .inr (h.mut a hi)
theorem cS.pure{f:am}{args:List AV}{H':aj}{v:AV}{n:Nat}{p:PV}(K:Nat->Bool)(h:cS P f H args H' v)(C:eM (nK (fun i=>!K i) H') n v=some p)(B:∀b L,K b=true->H[b]?≠some (.loop L)):
 cS P f H args (nK K H') (.p p):=by
 refine⟨h.1,fun w ad ah β t E z F=>(h.2 w ad ah β t E z F).mono ?_⟩;rintro e w' ⟨j,aK,aF,rfl,d,G,r⟩;have q:=d.rel;have A:=q.kill (fun i=>!K i);have I:aB P w' aF aK (nK (fun i=>!K i) H') v j:=aB.mono (fun _ x=>x) (fun _ _=>rfl) CD _ _ r G;have D:=yY A n v p C (aE.mono (fun _ h=>Dz h) v r) j I;refine⟨j,aK,BJ K aF aK H',rfl,⟨fun k hk=>.inl (d.bQ k hk),?_,d.ext,?_,q.aJH K,fun x hx=>Dz (d.fy x hx),?_⟩,?_,trivial⟩
 ·rintro k (hk|⟨b,o,g1,g2,g3,rfl⟩)
  ·exact d.fresh k hk
  ·rcases(q.cM b o g1).held g2 with h|h
   ·exact d.fresh _ h
   ·exact .inr h
 ·have aM:=d.step;have hk:=CD (K:=K) (β:=aK) (H:=H');refine⟨fun b a c=>?_,fun b a c=>?_,fun b a c=>?_,fun b aA ai k es a c=>?_,fun b a c=>?_⟩
  ·exact aM.box b a (hk.box b (d.fy _ a) c).1
  ·exact aM.it b a (hk.it b (d.fy _ a) c).1
  ·exact aM.map b a (hk.map b (d.fy _ a) c).1
  ·have u:fI H' b aA ai k es:=by
    obtain⟨M,l,g⟩:=lT c;rcases g with⟨_,g⟩|⟨_,rfl⟩
    ·cases g
    ·exact l
   exact aM.arr b aA ai k es a u
  ·exact aM.loop b a (hk.loop b (d.fy _ a) c).1
 ·rintro b ⟨L,c⟩;obtain⟨s,y⟩:=d.loop b ⟨L,c⟩;have m:K b=false:=by
   cases m:K b with
   |false=>rfl
   |true=>exact(B b L m c).elim
  exact⟨s,by rw[C2,y];simp[m]⟩
 ·show aD P w' _ p j;refine aD.mono ?_ (fun _ _=>rfl) _ _ D;rintro k (hk|⟨b,o,g1,g2,rfl⟩)
  ·exact .inl hk
  ·obtain⟨M,l,g⟩:=lT g1;rcases g with⟨_,rfl⟩|⟨J,rfl⟩
   ·exact g2.elim
   ·exact .inr ⟨b,o,l,g2,by simpa using J,rfl⟩
end
section
variable{P:ao}{w:ax}{ad ah:Nat->Prop}{β:Bd}
theorem tU{t t':AV}{r:aj}:cz β (.box false t::r) β (.box false t'::r):=by
 refine⟨fun b _ h=>⟨?_,rfl⟩,fun b _ h=>⟨?_,rfl⟩,fun b _ h=>⟨?_,rfl⟩,fun b aA ai k a _ h=>⟨k,a,?_,bl _,Iff.rfl,fun _=>⟨rfl,rfl⟩⟩,fun b _ h=>⟨?_,rfl⟩⟩
 ·cases b with
  |zero=>exact⟨false,t,rfl⟩
  |succ b=>exact h
 ·obtain⟨s,q,h⟩:=h;cases b with
  |zero=>simp at h
  |succ b=>exact⟨s,q,h⟩
 ·obtain⟨s,q,h⟩:=h;cases b with
  |zero=>simp at h
  |succ b=>exact⟨s,q,h⟩
 ·cases b with
  |zero=>simp[fI]at h
  |succ b=>exact h
 ·obtain⟨L,h⟩:=h;cases b with
  |zero=>simp at h
  |succ b=>exact⟨L,h⟩
theorem rK{t t':AV}{r:aj}{x:Nat×Nat}(h:aJ (.box false t::r) x):aJ (.box false t'::r) x:=by
 obtain⟨o,a,c⟩:=h;obtain⟨b,v⟩:=x;cases b with
 |zero=>exact⟨_,rfl,trivial⟩
 |succ b=>exact⟨o,a,c⟩
theorem bV.swap{t d:AV}{r:aj}(c:bV P w ad β (.box false t::r) ah)(hc:∀cs,bu P w ad β (.box false t::r) t cs->bu P w ad β (.box false t::r) d cs)(l:∀T,jM T (aa d)=true)
 (g:∀n,aE n t->aE n d):bV P w ad β (.box false d::r) ah:=by
 refine⟨fun b o a=>?_,fun b b' o o' a s f p q m=>?_,fun b o a=>?_,c.bQ,c.eC,c.iT⟩
 ·cases b with
  |zero=>
   simp at a;subst a;obtain⟨cs,T,i,j,k,y,z⟩:=c.cM 0 _ rfl;have u:=c.refs 0 _ rfl;exact⟨cs,T,i,bu.mono (fun _ x=>x) (fun _ _=>rfl) tU _ _ (g _ u) (hc _ j),k,(fun h=>absurd h (by simp)),l T⟩
  |succ b=>exact fG.carry (fun _ x=>x) (fun _ _=>rfl) tU (c.refs (b+1) o a) (fun _=>⟨rfl,rfl,rfl⟩) (fun _ _ h=>h) (c.cM (b+1) o a)
 ·have key:∀{b:Nat}{o:Obj},(Obj.box false d::r)[b]?=some o->o.live->∃e,(Obj.box false t::r)[b]?=some e/\e.live:=by
   intro b o a f;cases b with
   |zero=>exact⟨_,rfl,trivial⟩
   |succ b=>exact⟨o,a,f⟩
  obtain⟨e,k1,k2⟩:=key a f;obtain⟨v,k3,k4⟩:=key s p;exact c.inj b b' e v k1 k3 k2 k4 q m
 ·cases b with
  |zero=>
   simp at a;subst a;exact aE.mono (fun _ h=>rK h) _ (g _ (c.refs 0 _ rfl))
  |succ b=>exact Obj.wK (fun _ h=>rK h) (c.refs (b+1) o a)
theorem MO{H:aj}{u:ac}{n:Nat}(f:dv P u=some [n]){t:AV}{cs:List Value}:bu P w ad β H (.st u [t]) cs↔bu P w ad β H t cs/\cs.length=n:=by
 simp only[bu,f,Option.some.injEq];constructor
 ·rintro⟨l,g,rfl,a,rfl⟩;simp only[bM]at a;obtain⟨c,d,rfl,b,e,rfl⟩:=a;simpa using⟨b,e⟩
 ·rintro⟨a,b⟩;exact⟨[n],[cs],rfl,by simp only[bM];exact⟨cs,[],rfl,a,b,rfl⟩,by simp⟩
theorem cS.wrap{f:am}{u:ac}{n:Nat}{t i:AV}{r j:aj}{args:List AV}{v:AV}(q:dv P u=some [n])(a:∀T,jM T (.agg u)=true)(F:∀T,jM T (aa t)=true)(G:∀(w:ax)(ad:Nat->Prop)(β:Bd)(H:aj)(cs:List Value),bu P w ad β H i cs->cs.length=n)
 (h:cS P f (.box false t::r) (.ptr 0 []::args) (.box false i::j) v):cS P f (.box false (.st u [t])::r) (.ptr 0 [(u,0)]::args) (.box false (.st u [i])::j) v:=by
 refine⟨h.1,fun w ad ah β O J D y=>?_⟩;have K:bV P w ad β (.box false t::r) ah:=J.swap (fun cs h=>((MO q).1 h).1) F (fun n h=>by simpa[aE,aS]using h);obtain⟨x,xs,rfl,h1,C⟩:=D;have E:bI P w ad β (.box false t::r) (.ptr 0 []::args) (x::xs):=by
  refine⟨x,xs,rfl,?_,bI.mono (fun _ x=>x) (fun _ _=>rfl) tU _ _ y.2 C⟩;obtain⟨q1,aq,off,o,s,N,q4⟩:=h1;refine⟨q1,aq,off,0,s,rfl,fun _=>?_⟩;have I:o=0:=by simpa[gI,q]using N.symm
  have:=q4 (.inl ⟨false,_,rfl⟩);rw[I]at this;exact this
 refine(h.2 w ad ah β (x::xs) K E ⟨⟨_,rfl,trivial⟩,aS.mono (fun _ h=>rK h) _ y.2⟩).mono ?_;rintro e w' ⟨B,aK,aF,rfl,g,M,z⟩;refine⟨B,aK,aF,rfl,⟨g.bQ,g.fresh,g.ext,?_,?_,fun x hx=>rK (g.fy x (rK hx)),?_⟩,aB.mono (fun _ x=>x) (fun _ _=>rfl) tU _ _ z M,aE.mono (fun _ h=>rK h) _ z⟩
 ·have aM:=g.step;have m:=tU (β:=β) (t:=.st u [t]) (t':=t) (r:=r);have p:=tU (β:=aK) (t:=i) (t':=.st u [i]) (r:=j);have d:∀x,aJ (.box false (.st u [t])::r) x->aJ (.box false t::r) x:=fun x h=>rK h;have l:∀x,aJ (.box false t::r) x->aJ (.box false i::j) x:=g.fy;refine⟨fun b a c=>?_,fun b a c=>?_,fun b a c=>?_,fun b aA ai k es a c=>?_,fun b a c=>?_⟩
  ·obtain⟨k1,k2⟩:=p.box b (l _ (d _ a)) c;obtain⟨k3,k4⟩:=aM.box b (d _ a) k1;exact⟨(m.box b a k3).1,k4⟩
  ·obtain⟨k1,k2⟩:=p.it b (l _ (d _ a)) c;obtain⟨k3,k4⟩:=aM.it b (d _ a) k1;exact⟨(m.it b a k3).1,k4⟩
  ·obtain⟨k1,k2⟩:=p.map b (l _ (d _ a)) c;obtain⟨k3,k4⟩:=aM.map b (d _ a) k1;exact⟨(m.map b a k3).1,k4⟩
  ·have k1:fI (.box false i::j) b aA ai k es:=by
    cases b with
    |zero=>simp[fI]at c
    |succ b=>exact c
   obtain⟨k0,ia,q1,s⟩:=aM.arr b aA ai k es (d _ a) k1;refine⟨k0,ia,?_,s⟩;cases b with
   |zero=>simp[fI]at q1
   |succ b=>exact q1
  ·obtain⟨k1,k2⟩:=p.loop b (l _ (d _ a)) c;obtain⟨k3,k4⟩:=aM.loop b (d _ a) k1;exact⟨(m.loop b a k3).1,k4⟩
 ·exact g.rel.swap (fun cs h=>(MO q).2 ⟨h,G _ _ _ _ _ h⟩) a (fun n h=>by simpa[aE,aS]using h)
 ·rintro b ⟨L,c⟩;have k1:iv (.box false t::r) b:=by
   cases b with
   |zero=>simp at c
   |succ b=>exact⟨L,c⟩
  obtain⟨A,k2⟩:=g.loop b k1;cases b with
  |zero=>simp at k2
  |succ b=>exact⟨A,k2⟩
end
section
variable{P:ao}{w:ax}{ad ah:Nat->Prop}{β:Bd}
def uR(n:Nat):aj:=bi n .dead
theorem oh{n b:Nat}{o:Obj}(h:(uR n)[b]?=some o):o=.dead:=by
 simp only[uR,a3]at h
 split at h
 ·injection h with h;exact h.symm
 ·cases h
theorem cS.cut{f:am}{H:aj}{args:List AV}{n:Nat}{p:PV}(h:cS P f H args (uR n) (.p p)):cS P f H args (uR H.length) (.p p):=by
 refine⟨h.1,fun w ad ah β g u q v=>(h.2 w ad ah β g u q v).mono ?_⟩;rintro e w' ⟨i,aK,aF,rfl,a,y,z⟩;have no:∀{m b:Nat}{o:Obj},(uR m)[b]?=some o->o.live->False:=fun h d=>by rw[oh h]at d;exact d
 refine⟨i,aK,aF,rfl,⟨a.bQ,a.fresh,a.ext,⟨?_,?_,?_,?_,?_⟩,⟨fun b o c=>by rw[oh c];trivial,fun b b' o o' c _ d=>(no c d).elim,fun b o c=>by rw[oh c];trivial,a.rel.bQ,a.rel.eC,a.rel.iT⟩,?_,?_⟩,y,trivial⟩
 ·rintro b _ ⟨fz,t,h⟩;cases oh h
 ·rintro b _ ⟨fz,t,h⟩;cases oh h
 ·rintro b _ ⟨fz,t,h⟩;cases oh h
 ·intro b aA ai k es _ h;cases oh h
 ·rintro b _ ⟨L,h⟩;cases oh h
 ·rintro x ⟨o,j,_⟩;have s:=(aT.1 j).1;exact⟨.dead,by rw[uR,a3,if_pos s],trivial⟩
 ·intro b r;obtain⟨L,l⟩:=a.loop b r;cases oh l
theorem cS.dd{f:am}{H H':aj}{args:List AV}{v v':PV}(h:cS P f H args H' (.p v))(k:Wk v v'):cS P f H args H' (.p v'):=by
 refine⟨h.1,fun w ad ah β a i d j=>(h.2 w ad ah β a i d j).mono ?_⟩;rintro e w' ⟨b,aK,aF,rfl,g,c,l⟩;exact⟨b,aK,aF,rfl,g,aD.dd _ _ _ k c,trivial⟩
end
section
variable{P:ao}
def AY(P:ao)(a:List av)(N:Nat)(Q:AV->aj->Prop)(e:Tg (a,N,Q) bA)(s:Tg (a,N,Q) St):Prop:=
 (match e with
  | .exit _=>False
  |_=>True)/\∃vs,fY P s a=some vs/\∃H',Q (oneOf vs) H'/\(H'=St.heap s\/(de N s ⟨[],H'⟩/\aE (aJ H') (oneOf vs)))
theorem Xx{a:List av}{N:Nat}{Q:AV->aj->Prop}{s:St}:AY P a N Q .ret s=∃vs,fY P s a=some vs/\∃H',Q (oneOf vs) H'/\(H'=s.heap\/(de N s ⟨[],H'⟩/\aE (aJ H') (oneOf vs))):=by simp[AY]
theorem Vg{a:List av}{N:Nat}{Q:AV->aj->Prop}{s:St}:AY P a N Q .normal s=∃vs,fY P s a=some vs/\∃H',Q (oneOf vs) H'/\(H'=s.heap\/(de N s ⟨[],H'⟩/\aE (aJ H') (oneOf vs))):=by simp[AY]
attribute [simp] Xx Vg
end
section
variable{P:ao}
theorem au.heap{f:am}{vs j:List PV}{v:PV}{H H1:aj}{args:List AV}(h:au P f vs v)(g:Enters P f)(o:mZ H args=some (j,H1))(l:bE j vs:=by first|exact bE.refl _|simp):cS P f H args H1 (.p v):=by
 refine⟨g,fun w ad ah β x u r q=>?_⟩;obtain⟨b,a,i⟩:=CR o u r q;rcases h.dd l (Wk.refl _)with m|n
 ·intro cs;obtain⟨e,w',k,⟨c,aF,he,m1,m2,m3,m4,m5,m6,m7⟩,aM,s,t⟩:=m.2 w b _ a.rel.bQ a.rel.iT i cs;subst he;exact⟨_,w',k,⟨c,β,aF,rfl,a.trans (a.rel.later m1 m2 m3 m4 m5 m6),by simpa[aB]using m7,by simp[aE]⟩,aM,s,t⟩
 ·obtain⟨c,d,_⟩:=n w b _ i;rw[g]at d;cases d
end
section
variable{P:ao}{ag:am->Bool}
theorem BW(H:aj):(fW H).map (·.1)=a8 H.length:=by
 rw[fW,List.map_fst_zip];simp
theorem S0{H a:aj}(f:a.length=H.length):bm H (fW a)=a:=by
 have d:((fW a).map (·.1)).Nodup:=by rw[BW];exact a0
 refine bb fun i=>?_
 by_cases hi:i<a.length
 ·have c:(i,a[i])∈fW a:=by
   rw[fW,a6];exact⟨i,by simp;exact hi,by rw[be];simp⟩
  rw[uF d _ c (by simp only;omega),ay hi]
 ·have b:(bm H (fW a))[i]?=H[i]?:=rS fun p e=>by
   have:p.1∈(fW a).map (·.1):=List.mem_map_of_mem e
   rw[BW,List.mem_range]at this;omega
  rw[b,a5 (by omega),a5 (by omega)]
end
section
variable{P:ao}{ag:am->Bool}
theorem fJ.az3{b:Nat}{H a:aj}{args:List AV}{v:AV}(h:fJ P b H args a v)(g:H.length<=a.length)(d:aS (aJ H) args)(j:dK H H):
 oU P b args H.length {v:=v,al:=fW H,aL:=fW (a.take H.length),aP:=a.drop H.length}:=by
 have hf:=h.frame (a8 H.length) H.length (by simp) a0 (fun b f=>by simpa using f) g d j.get;rw[AP]at hf;have e:dH (a8 H.length) H.length H a v={v:=v,al:=fW H,aL:=fW (a.take H.length),aP:=a.drop H.length}:=by
  have c:(a.take H.length).length=H.length:=by rw[a1];omega
  simp only[dH,AP,xy];rw[show(dc fun i=>i)=id from funext Qe,a7,a7,a7,fW,fW,c]
 rw[e,pT]at hf;exact hf
open Classical in
noncomputable def tf(H H2:aj):List (Nat×Obj):=(fW (H2.take H.length)).filter fun p=>decide (H[p.1]?≠some p.2)
open Classical in
theorem yp{H H2:aj}{p:Nat×Obj}:p∈tf H H2↔p∈fW (H2.take H.length)/\H[p.1]?≠some p.2:=by
 simp[tf,List.mem_filter]
theorem Ga{H:aj}{i:Nat}{o:Obj}(h:H[i]?=some o):(i,o)∈fW H:=by
 have hi:=(aT.1 h).1;rw[fW,a6];refine⟨i,by simp;exact hi,?_⟩;rw[be,List.getElem_range];rw[ay hi]at h;injection h with h
 rw[h]
theorem FU(H:aj):((fW H).map (·.1)).Nodup:=by rw[BW];exact a0
theorem SY(H a:aj):((tf H a).map (·.1)).Nodup:=by
 refine List.Nodup.sublist ?_ (FU (a.take H.length));exact List.Sublist.map _ List.filter_sublist
theorem FX{H a c:aj}(n:H.length<=a.length)(h:∀i,i<H.length->c[i]?=H[i]?):bm c (tf H a)=bm c (fW (a.take H.length)):=by
 refine bb fun i=>?_;have m:(a.take H.length).length=H.length:=by rw[a1];omega
 by_cases hi:i<H.length
 ·have j:i<c.length:=by
   have:=h i hi;rw[ay hi]at this;exact(aT.1 this).1
  have f:(a.take H.length)[i]?=some a[i]:=by rw[a9,if_pos hi,ay (by omega)]
  have k:=Ga f;rw[uF (FU _) _ k j]
  by_cases hc:H[i]?=some a[i]
  ·rw[rS (fun p b=>?_),h i hi,hc];rw[yp]at b;intro e;have d:=uW b.1;rw[e,f]at d;injection d with d
   have g:=b.2;rw[e,<-d]at g;exact g hc
  ·have l:(i,a[i])∈tf H a:=by
    rw[yp];exact⟨k,hc⟩
   rw[uF (SY _ _) _ l j]
 ·rw[rS (fun p b=>?_),rS (fun p b=>?_)]
  ·have:=(aT.1 (uW b)).1;omega
  ·rw[yp]at b;have:=(aT.1 (uW b.1)).1;omega
theorem fJ.az2{b:Nat}{H a:aj}{args:List AV}{v:AV}(h:fJ P b H args a v)(f:H.length<=a.length)(n:aS (aJ H) args)(q:dK H H):
 oU P b args H.length {v:=v,al:=fW H,aL:=tf H a,aP:=a.drop H.length}:=by
 have o:=h.az3 f n q;intro c w ad ah β g j k l d m;have p:∀i,i<H.length->c[i]?=H[i]?:=fun i hi=>by
  rw[ay hi];exact d _ (Ga (ay hi))
 have e:bm c (tf H a++newAt H.length (a.drop H.length))=bm c (fW (a.take H.length)++newAt H.length (a.drop H.length)):=by
  rw[vU,vU,FX f p]
 have:=o c w ad ah β g j k l d m;dsimp only at this⊢;rw[e];exact this
theorem yg{b:Nat}{H a:aj}{args:List PV}{as:List AV}{v:PV}{K:aR->Prop}(h:fJ P b H (args.map .p) a (.p v))(has:as=args.map .p)(k:H.length<=a.length)(o:dK H H)(n:∀i,i<H.length->a[i]?=some .hole->H[i]?=some .hole)
 (hk:∀e:aR,(∀dst env,aR.app e dst ⟨env,H⟩=⟨put dst (.p v) env,a⟩)->K e):xK P H K (.map b) as:=by
 subst has;have m:aS (aJ H) (args.map AV.p):=ju _ _;show∃e,oU P b (args.map .p) H.length e/\oZ H e/\K e;have g:(a.take H.length).length=H.length:=by rw[a1];omega
 refine⟨_,h.az2 k m o,⟨fun p c=>uW c,fun p c=>?_⟩,hk _ fun dst env=>?_⟩
 ·rw[yp]at c;have f:=uW c.1;have d:=(aT.1 f).1;rw[g]at d;refine⟨d,fun e=>?_⟩;rw[a9,if_pos d,e]at f;have l:=n _ d f;have j:=c.2;rw[e]at j;exact j l
 ·simp only[aR.app];rw[FX k (fun _ _=>rfl),S0 g,List.take_append_drop]
def GN(P:ao)(g:am)(fi ca:List PV)(h:List (List PV))(d:Nat->aj):Prop:=
 ∀(b k:Nat)(c f:Nat->aj)(H':aj),k<=h.length->(∀i,i<=k->dK (c i) (c i)/\aE (aJ (c i)) (.map b))->
  (∀i a,i<k->h[i]?=some a->fJ P b (c i++d i) (a.map .p) (f i) (.p (.bool true))/\(c i++d i).length<=(f i).length/\(∀j,j<(c i++d i).length->(f i)[j]?=some .hole->(c i++d i)[j]?=some .hole)/\
   (c (i+1)).take (c 0).length=(f i).take (c 0).length/\iB (c (i+1)) (f i) (c (i+1)))->
  (k=h.length/\H'=c k\/∃a e,h[k]?=some a/\fJ P b (c k++d k) (a.map .p) e (.p (.bool false))/\(c k++d k).length<=e.length/\(∀j,j<(c k++d k).length->e[j]?=some .hole->(c k++d k)[j]?=some .hole)/\
   H'.take (c 0).length=e.take (c 0).length/\iB H' e H'/\dK H' H')->
  cS P g (c 0) (fi.map .p++[.map b]++ca.map .p) H' (.p (.aC []))
theorem rfd{f:ab}{n:Array Tmp}{a c:Code}{Q:bA->St->Prop}{env:Env}{heap:aj}{q:Cx}{g:am}{fi ca:List PV}{r:List (List PV)}{h:Nat->aj}(aM:GN P g fi ca r h)(hf:ev env f= .p (.func g fi ca))(hq:q.2<=heap.length)
 (X Y:ek->Nat->aj)(k:Nat)(hk:k<=r.length)(u:∀L,X L 0=heap++[.loop L])
 (hx:∀L,L=⟨.ready,none,q.1,n.toList,a,c,env⟩->∀i,i<=k->(X L i)[heap.length]?=some (.loop L)/\iQ (X L i) env/\(iQ (X L i) env->(∀x,aE (aJ (X L i)) (aN L.env x))->dK (X L i) (X L i)))
 (w:∀L,L=⟨.ready,none,q.1,n.toList,a,c,env⟩->∀i x,i<k->r[i]?=some x->fJ P heap.length (X L i++h i) (x.map .p) (Y L i) (.p (.bool true))/\(X L i++h i).length<=(Y L i).length/\(∀j,j<(X L i++h i).length->(Y L i)[j]?=some .hole->(X L i++h i)[j]?=some .hole)/\
  (X L (i+1)).take (heap.length+1)=(Y L i).take (heap.length+1)/\iB (X L (i+1)) (Y L i) (X L (i+1)))
 (G:∀L,L=⟨.ready,none,q.1,n.toList,a,c,env⟩->(k=r.length/\Q .normal ⟨env,(X L k).set heap.length (.loop L.xh)⟩)\/
  ∃x j l b,r[k]?=some x/\b[heap.length]?=some (.loop (L.dn j))/\fJ P heap.length (X L k++h k) (x.map .p) l (.p (.bool false))/\(X L k++h k).length<=l.length/\(∀i,i<(X L k++h k).length->l[i]?=some .hole->(X L k++h k)[i]?=some .hole)/\
  b.take (heap.length+1)=l.take (heap.length+1)/\iB b l b/\dK b b/\jY Q (some j) ⟨env,b.set heap.length (.loop (L.dn j).xh)⟩):
 ff P ag q (.rangeFunc f n a c) Q ⟨env,heap⟩:=by
 obtain⟨L,d⟩:∃L:ek,L=⟨.ready,none,q.1,n.toList,a,c,env⟩:=⟨_,rfl⟩
 have t:=aM heap.length k (X L) (Y L);refine⟨hq,?_⟩;show jH P (ev env f) heap.length (heap++[.loop ⟨.ready,none,q.1,n.toList,a,c,env⟩]) (iO heap.length env Q);rw[hf];simp only[jH];rw[<-d,<-u L];have y:(X L 0).length=heap.length+1:=by rw[u L];simp
 have v:∀i,i<=k->dK (X L i) (X L i)/\aE (aJ (X L i)) (.map heap.length):=by
  intro i hi;obtain⟨o,m,s⟩:=hx L d i hi;have e5:L.env=env:=by rw[d]
  refine⟨s m (by rw[e5];exact m.get),?_⟩;simp only[aE,aJ,o];exact⟨_,rfl,by simp[Obj.has]⟩
 rw[y]at t;rcases G L d with⟨o,m⟩|⟨x,j,l,b,o,m,s,z,A,B,C,D,E⟩
 ·refine⟨_,_,t (X L k) hk v (w L d) (.inl ⟨o,rfl⟩),?_⟩;have F:=(hx L d k (bl k)).1;simp only[iO,F];refine⟨by rw[d];simp,?_⟩;have:L.pending=none:=by rw[d]
  simp only[this,jY];have e:L.xh={L with st:=.exhausted}:=rfl;rw[this]at e;rw[e]at m;exact m
 ·refine⟨_,_,t b hk v (w L d) (.inr ⟨x,l,o,s,z,A,B,C,D⟩),?_⟩;simp only[iO,m];exact⟨by simp[ek.dn],E⟩
theorem SF{H J:aj}{x:Nat×Nat}(h:aJ H x):aJ (H++J) x:=by
 obtain⟨o,a,b⟩:=h;exact⟨o,by rw[List.getElem?_append_left (aT.1 a).1];exact a,b⟩
theorem dK.up{S T:aj}(a:∀x,aJ S x->aJ T x):∀{h:aj},dK S h->dK T h
 |[],_=>trivial
 |_::_,h=>⟨Obj.wK a h.1,dK.up a h.2⟩
theorem dK.app{H J:aj}(h:dK H H)(a:dK (H++J) J):dK (H++J) (H++J):=by
 rw[DE];exact⟨h.up fun _=>SF,a⟩
theorem aLA{a:Array Oper}{b:List Touch}{i n:Nat}{e:aR}(h:iZ a b=true)(c:b.all (fun u=>reach a a.size u.i i)=true):iZ a (gC i n e b)=true:=by
 rw[gC]
 split
 ·exact h
 ·rw[iZ,h,Bool.and_true,bf];intro u d;rw[bf]at c;rw[show(iu i n e).i=i from rfl,c u d,Bool.or_true]
theorem yk{b:Nat}{H c:aj}{args:List PV}{as:List AV}{v:PV}{a:Array Oper}{r:List Oper}{i:Nat}{d:List Touch}{K:St->Prop}{dst:Option Tmp}{env:Env}(h:fJ P b H (args.map .p) c (.p v))(has:as=args.map .p)(l:H.length<=c.length)(hr:dK H H)(hh:∀i,i<H.length->c[i]?=some .hole->H[i]?=some .hole)
 (g:iZ a d=true)(j:d.all (fun u=>reach a a.size u.i i)=true)(hk:∀f,xA a f=true->o9 P ag a r (i+1) f K ⟨put dst (.p v) env,c⟩):xK P H (AF P ag a r i d K dst ⟨env,H⟩) (.map b) as:=by
 refine yg h has l hr hh fun e k=>?_;show o9 P ag a r (i+1) (gC i H.length e d) K (aR.app e dst ⟨env,H⟩);rw[k];exact hk _ (aLA g j)
end
end Go.ak
