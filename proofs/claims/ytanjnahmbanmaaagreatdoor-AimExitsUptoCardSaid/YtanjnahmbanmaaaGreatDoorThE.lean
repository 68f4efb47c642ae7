import Derived.Test.YtanjnahmbanmaaaGreatDoorThD
/- Parts of a proof. -/
set_option linter.unusedSimpArgs false
set_option linter.unusedVariables false
set_option linter.unusedSectionVars false
open Go renaming Operand->ab, TypeId->ac, FuncId->am, Program->ao, ResultVar->ap, World->av
open List renaming getElem?_eq_getElem->ax, getElem?_eq_some_iff->ay, nodup_range->aT, length_take->a0, map_cons->a1, getElem?_replicate->a2, mem_map->a3, getElem?_eq_none->a4, mem_iff_getElem->a5, map_id->a6, range->a7, getElem?_take->a8, ext_getElem?->a9, getElem_zip->bb, all_eq_true->bd, replicate->be
open Nat renaming le_refl->bi
namespace Go.az
set_option linter.unusedSectionVars false
variable[Gl]
@[reducible] def Tg{α:Type}(_:α)(β:Type):Type:=β
@[reducible] def Tg1{α:Type 1}(_:α)(β:Type):Type:=β
section
variable(P:ao)(ag:am->Bool)
def eD(q:Cx)(c:Code)(Q:bm->St->Prop)(s:Tg (q,c,Q) St):Prop:=cX P ag q c Q s
def oT(a:Array Oper)(l:List Oper)(K:St->Prop)(s:Tg (a,l,K) St):Prop:=fO P ag a l K s
def nD(b:Array Oper)(l:List Oper)(i:Nat)(a:List Touch)(K:St->Prop)(s:Tg (b,l,i,a,K) St):Prop:=fU P ag b l i a K s
def zg(K:St->Prop)(Q:bm->St->Prop)(e:Tg (K,Q) bm)(s:Tg (K,Q) St):Prop:=sZ K Q e s
def qd(id:Nat)(Q:bm->St->Prop)(e:Tg (id,Q) bm)(s:Tg (id,Q) St):Prop:=nj id Q e s
def Nq(a b:St->Prop)(s:St)(v:Tg (a,b,s) AV):Prop:=sA v a b s
def ym(b:Array Oper)(r:List Oper)(i:Nat)(a:List Touch)(K:St->Prop)(dst:Option Tmp)(s:St)(e:Tg (b,r,i,a,K,dst,s) aS):Prop:=u7 P ag b r i a K dst s e
def eA(dst:Option Tmp)(s:St)(K:St->Prop)(e:Tg (dst,s,K) aS):Prop:=eh dst s K e
def OY(dst:Option Tmp)(s:St)(K:St->Prop)(v:Tg (dst,s,K) AV)(H:Tg (dst,s,K) aj):Prop:=za dst s K v H
def CD(a:Array Oper)(o:Oper)(r:List Oper)(K:St->Prop)(b:Bool)(s:St)(g:Tg (a,o,r,K,b,s) AV):Prop:=xY P ag a o r K b s g
def BU(b:Array Oper)(o:Oper)(r:List Oper)(i:Nat)(a:List Touch)(K:St->Prop)(c:Bool)(s:St)(g:Tg (b,o,r,i,a,K,c,s) AV):Prop:=xN P ag b o r i a K c s g
def dU(o:Oper)(K:St->Prop)(s:St)(_:Tg (o,K,s) Unit):Prop:=cZ P ag o K s
def dS(o:Oper)(s:St)(K:aS->Prop)(_:Tg (o,K,s) Unit):Prop:=c7 P ag o s K
def cg(K:aS->Prop)(r:Tg K eC):Prop:=ba r K
def yI(H:aj)(K:AV->aj->Prop)(f:Tg (H,K) AV)(args:Tg (H,K) (List AV)):Prop:=qo P f args H K
def vg(H:aj)(K:aS->Prop)(f:Tg (H,K) AV)(args:Tg (H,K) (List AV)):Prop:=p0 P f args H K
def jW(d:Bool)(f:am)(K:AV->aj->Prop)(args:Tg K (List AV))(H:Tg K aj):Prop:=gF P d f args H K
def nq(f:am)(K:aS->Prop)(args:Tg K (List AV))(H:Tg K aj):Prop:=gL P f args H K
def qE(R:AV->PV->Prop):List AV->List PV->Prop
 |[],vs=>vs=[]
 |x::xs,vs=>match vs with
  |v::vs=>R x v/\qE R xs vs
  |[]=>False
def fR(H:aj):Nat->AV->PV->Prop
 |0=>fun x v=>match x with
  | .p a=>Wk a v
  |_=>False
 |n+1=>fun x v=>match x with
  | .p a=>Wk a v
  | .sl b ar z off len=>match v with
   | .seq fs=>match H[b]? with
    |some (.arr _ e h es)=>ar=e/\z=h/\off+len<=es.length/\qE (fR H n) ((es.drop off).take len) fs
    |_=>False
   |_=>False
  | .st u xs=>match v with
   | .st u' vs=>u=u'/\qE (fR H n) xs vs
   |_=>False
  | .aA xs=>match v with
   | .aA vs=>qE (fR H n) xs vs
   |_=>False
  | .ptr b path=>match v with
   | .bZ t=>match H[b]? with
    |some (.box _ y)=>match eL y path with
     |some s=>fR H n s t
     |none=>False
    |_=>False
   |_=>False
  | .map b=>match v with
   | .eH es=>match H[b]? with
    |some (.map _ c)=>c=es
    |_=>False
   |_=>False
  | .func f xs g=>match v with
   | .func d vs us=>f=d/\qE (fR H n) xs vs/\qE (fR H n) g us
   |_=>False
  |_=>False
def lU(H:aj)(n:Nat):List AV->List PV->Prop:=qE (fR H n)
def qJ(a:List ap)(v:PV)(e:Tg (a,v) bm)(s:Tg (a,v) St):Prop:=
 (match e with
  | .exit _=>False
  |_=>True)/\∃vs,fC P s a=some vs/\fR (St.heap s) 9 (oneOf vs) v
def uW(a:Array Oper)(l:Tg a (List Touch)):Bool:=gZ a l
def aFY(a:Array Oper)(i j:Tg a Nat):Bool:=reach a a.size i j
end
section
variable{P:ao}{ag:am->Bool}{q:Cx}
theorem aG1{Q:bm->St->Prop}{s:St}:eD P ag q .skip Q s=Q .normal s:=KR
theorem Uw{l:Nat}{Q:bm->St->Prop}{s:St}:eD P ag q (.label l) Q s=Q .normal s:=JF
theorem aGZ{id:Nat}{Q:bm->St->Prop}{s:St}:eD P ag q (.exit id) Q s=Q (.exit id) s:=KS
theorem aG0{Q:bm->St->Prop}{s:St}:eD P ag q .ret Q s=Q .ret s:=Pm
theorem Uu{b:Code}{Q:bm->St->Prop}{s:St}:eD P ag q (.scope b) Q s=eD P ag q b Q s:=JD
theorem aGY{id:Nat}{l:List Oper}{Q:bm->St->Prop}{s:St}:eD P ag q (.region id l.toArray true) Q s=nD P ag l.toArray l 0 [] (Q .normal) s:=KU
theorem Uv{id:Nat}{l:List Oper}{Q:bm->St->Prop}{s:St}:eD P ag q (.region id l.toArray false) Q s=oT P ag l.toArray l (Q .normal) s:=JE
theorem aH{a b:Code}{Q:bm->St->Prop}{s:St}:eD P ag q (.seq a b) Q s=eD P ag q a (zg (eD P ag q b Q) Q) s:=Pn
theorem Ip{id:Nat}{b:Code}{Q:bm->St->Prop}{s:St}:eD P ag q (.block id b) Q s=eD P ag q b (qd id Q) s:=JG
theorem aGX{c:ab}{a b:Code}{Q:bm->St->Prop}{s:St}:eD P ag q (.cond c a b) Q s=Nq (eD P ag q a Q) (eD P ag q b Q) s (ev s.env c):=KW
theorem Rf{K:St->Prop}{Q:bm->St->Prop}{s:St}:zg K Q .normal s=K s:=FR
theorem SZ{id:Nat}{K:St->Prop}{Q:bm->St->Prop}{s:St}:zg K Q (.exit id) s=Q (.exit id) s:=Hf
theorem S6{K:St->Prop}{Q:bm->St->Prop}{s:St}:zg K Q .ret s=Q .ret s:=Ih
theorem RO{t:Bool}{a b:St->Prop}{s:St}:Nq a b s (.p (.bool t))=if t then a s else b s:=Gd
theorem TU{b:Array Oper}{r:List Oper}{i:Nat}{a:List Touch}{K:St->Prop}{dst:Option Tmp}{env:Env}{heap:aj}{v:AV}{ak aI:List (Nat×Obj)}{aQ:List Obj}:ym P ag b r i a K dst ⟨env,heap⟩ ⟨v,ak,aI,aQ⟩=nD P ag b r (i+1) (fN i heap.length ⟨v,ak,aI,aQ⟩ a) K ⟨put dst v env,bk heap aI++aQ⟩:=IL
theorem VL{dst:Option Tmp}{env:Env}{heap:aj}{K:St->Prop}{v:AV}{ak aI:List (Nat×Obj)}{aQ:List Obj}:eA dst ⟨env,heap⟩ K ⟨v,ak,aI,aQ⟩=K ⟨put dst v env,bk heap aI++aQ⟩:=Kq
theorem Vr{dst:Option Tmp}{env:Env}{heap H:aj}{K:St->Prop}{v:AV}:OY dst ⟨env,heap⟩ K v H=K ⟨put dst v env,H⟩:=J0
theorem aG2{b:Array Oper}{i:Nat}{a:List Touch}{K:St->Prop}{s:St}:nD P ag b [] i a K s=(uW b a=true/\K s):=KQ
theorem Ut{b:Array Oper}{i c:Nat}{pos:String}{a:List Touch}{K:St->Prop}{s:St}{dst:Option Tmp}{op:Op}{af:Array Edge}{r:List Oper}:nD P ag b ({dst,op,type:=c,pos,after:=af,guard:=none}::r) i a K s=dS P ag {dst,op,type:=c,pos,after:=af,guard:=none} s (ym P ag b r i a K dst s) ():=JC
theorem Tw{a:Array Oper}{i d j:Nat}{b:Bool}{pos:String}{c:List Touch}{K:St->Prop}{s:St}{dst:Option Tmp}{op:Op}{af:Array Edge}{r:List Oper}:nD P ag a ({dst,op,type:=d,pos,after:=af,guard:=some (j,b)}::r) i c K s=BU P ag a {dst,op,type:=d,pos,after:=af,guard:=some (j,b)} r i c K b s (guardOf a j s.env):=Io
theorem aG8{a:Array Oper}{K:St->Prop}{s:St}:oT P ag a [] K s=K s:=KM
theorem Us{a:Array Oper}{b:Nat}{pos:String}{K:St->Prop}{s:St}{dst:Option Tmp}{op:Op}{af:Array Edge}{r:List Oper}:oT P ag a ({dst,op,type:=b,pos,after:=af,guard:=none}::r) K s=dU P ag {dst,op,type:=b,pos,after:=af,guard:=none} (oT P ag a r K) s ():=JA
theorem Tv{a:Array Oper}{c j:Nat}{b:Bool}{pos:String}{K:St->Prop}{s:St}{dst:Option Tmp}{op:Op}{af:Array Edge}{r:List Oper}:oT P ag a ({dst,op,type:=c,pos,after:=af,guard:=some (j,b)}::r) K s=CD P ag a {dst,op,type:=c,pos,after:=af,guard:=some (j,b)} r K b s (guardOf a j s.env):=Im
section ops
variable{dst:Option Tmp}{ty:Nat}{pos:String}{af:Array Edge}{g:Option (Nat×Bool)}{env:Env}{heap:aj}{K:aS->Prop}{L:St->Prop}
theorem XC{x:ab}:dS P ag ⟨dst,.move x,ty,pos,af,g⟩ ⟨env,heap⟩ K ()=K {v:=ev env x}:=Mz
theorem T6{x:ab}:dS P ag ⟨dst,.assign x,ty,pos,af,g⟩ ⟨env,heap⟩ K ()=K {v:=ev env x}:=IJ
theorem XF{c a b:ab}:dS P ag ⟨dst,.pick c a b,ty,pos,af,g⟩ ⟨env,heap⟩ K ()=cg K (qy (ev env c) (ev env a) (ev env b)):=Mx
theorem VW{T:ac}:dS P ag ⟨dst,.alloc T,ty,pos,af,g⟩ ⟨env,heap⟩ K ()=cg K (qe P T heap.length):=Kg
theorem Xu{T:ac}{x:ab}:dS P ag ⟨dst,.box T x,ty,pos,af,g⟩ ⟨env,heap⟩ K ()=cg K (sM P T heap.length (ev env x)):=Nv
theorem VV{T:ac}{a:Array (Nat×ab)}:dS P ag ⟨dst,.build T a,ty,pos,af,g⟩ ⟨env,heap⟩ K ()=cg K (qc P T (a.toList.map fun(i,x)=>(i,ev env x))):=Kf
theorem QN{T:ac}{n:Nat}{a:Array (Nat×ab)}:dS P ag ⟨dst,.buildSlice T n a,ty,pos,af,g⟩ ⟨env,heap⟩ K ()=cg K (pg P T n (a.toList.map fun(i,x)=>(i,ev env x)) heap.length):=Fu
theorem Xz{T:ac}{a:ab}:dS P ag ⟨dst,.load T a,ty,pos,af,g⟩ ⟨env,heap⟩ K ()=cg K (oI P T heap (ev env a)):=L4
theorem VQ{T:ac}{a x:ab}:dS P ag ⟨dst,.store T a x,ty,pos,af,g⟩ ⟨env,heap⟩ K ()=cg K (ow P T heap (ev env a) (ev env x)):=Kb
theorem Xt{op:BinOp}{T a:ac}{x y:ab}:dS P ag ⟨dst,.binOp op T x y a,ty,pos,af,g⟩ ⟨env,heap⟩ K ()=cg K (iX P op T (lO y) heap (ev env x) (ev env y)):=Nu
theorem XH{op:UnOp}{T:ac}{x:ab}:dS P ag ⟨dst,.unOp op T x,ty,pos,af,g⟩ ⟨env,heap⟩ K ()=cg K (q9 op (ev env x)):=Nz
theorem Xw{S D:ac}{x:ab}:dS P ag ⟨dst,.convert S D x,ty,pos,af,g⟩ ⟨env,heap⟩ K ()=cg K (qm P S D heap (ev env x)):=L6
theorem Sk{t:ab}{i:Nat}:dS P ag ⟨dst,.extract t i,ty,pos,af,g⟩ ⟨env,heap⟩ K ()=cg K (pI (ev env t) i):=HK
theorem RI{T:ac}{a:ab}{f:Nat}:dS P ag ⟨dst,.fieldAddr T a f,ty,pos,af,g⟩ ⟨env,heap⟩ K ()=cg K (nU P T (ev env a) f):=FU
theorem RH{T:ac}{x i:ab}:dS P ag ⟨dst,.indexAddr T x i,ty,pos,af,g⟩ ⟨env,heap⟩ K ()=cg K (nT P T heap (ev env x) (ev env i)):=FT
theorem VT{T:ac}{x i:ab}:dS P ag ⟨dst,.index T x i,ty,pos,af,g⟩ ⟨env,heap⟩ K ()=cg K (qg P T (ev env x) (ev env i)):=Ke
theorem Xy{x:ab}{a:Array ac}:dS P ag ⟨dst,.call {callee:=.builtin .len,args:=#[x],argTypes:=a},ty,pos,af,g⟩ ⟨env,heap⟩ K ()=cg K (qW P (a.getD 0 0) a.size heap (ev env x)):=Nw
theorem Xv{f:ab}{args:List ab}{a:Array ac}:dS P ag ⟨dst,.call {callee:=.value f,args:=args.toArray,argTypes:=a},ty,pos,af,g⟩ ⟨env,heap⟩ K ()=vg P heap K (ev env f) (args.map (ev env)):=L7
theorem aFD{x:ab}:dU P ag ⟨dst,.move x,ty,pos,af,g⟩ L ⟨env,heap⟩ ()=eA dst ⟨env,heap⟩ L {v:=ev env x}:=LB
theorem TF{x:ab}:dU P ag ⟨dst,.assign x,ty,pos,af,g⟩ L ⟨env,heap⟩ ()=eA dst ⟨env,heap⟩ L {v:=ev env x}:=HU
theorem aFG{c a b:ab}:dU P ag ⟨dst,.pick c a b,ty,pos,af,g⟩ L ⟨env,heap⟩ ()=cg (eA dst ⟨env,heap⟩ L) (qy (ev env c) (ev env a) (ev env b)):=Lz
theorem VA{T:ac}:dU P ag ⟨dst,.alloc T,ty,pos,af,g⟩ L ⟨env,heap⟩ ()=cg (eA dst ⟨env,heap⟩ L) (qe P T heap.length):=JP
theorem aFq{T:ac}{x:ab}:dU P ag ⟨dst,.box T x,ty,pos,af,g⟩ L ⟨env,heap⟩ ()=cg (eA dst ⟨env,heap⟩ L) (sM P T heap.length (ev env x)):=OR
theorem Vz{T:ac}{a:Array (Nat×ab)}:dU P ag ⟨dst,.build T a,ty,pos,af,g⟩ L ⟨env,heap⟩ ()=cg (eA dst ⟨env,heap⟩ L) (qc P T (a.toList.map fun(i,x)=>(i,ev env x))):=JO
theorem QU{T:ac}{n:Nat}{a:Array (Nat×ab)}:dU P ag ⟨dst,.buildSlice T n a,ty,pos,af,g⟩ L ⟨env,heap⟩ ()=cg (eA dst ⟨env,heap⟩ L) (pg P T n (a.toList.map fun(i,x)=>(i,ev env x)) heap.length):=Fm
theorem aFx{T:ac}{a:ab}:dU P ag ⟨dst,.load T a,ty,pos,af,g⟩ L ⟨env,heap⟩ ()=cg (eA dst ⟨env,heap⟩ L) (oI P T heap (ev env a)):=LC
theorem Vu{T:ac}{a x:ab}:dU P ag ⟨dst,.store T a x,ty,pos,af,g⟩ L ⟨env,heap⟩ ()=cg (eA dst ⟨env,heap⟩ L) (ow P T heap (ev env a) (ev env x)):=J4
theorem aFp{op:BinOp}{T a:ac}{x y:ab}:dU P ag ⟨dst,.binOp op T x y a,ty,pos,af,g⟩ L ⟨env,heap⟩ ()=cg (eA dst ⟨env,heap⟩ L) (iX P op T (lO y) heap (ev env x) (ev env y)):=OQ
theorem aFI{op:UnOp}{T:ac}{x:ab}:dU P ag ⟨dst,.unOp op T x,ty,pos,af,g⟩ L ⟨env,heap⟩ ()=cg (eA dst ⟨env,heap⟩ L) (q9 op (ev env x)):=OV
theorem aFs{S D:ac}{x:ab}:dU P ag ⟨dst,.convert S D x,ty,pos,af,g⟩ L ⟨env,heap⟩ ()=cg (eA dst ⟨env,heap⟩ L) (qm P S D heap (ev env x)):=LF
theorem Sv{t:ab}{i:Nat}:dU P ag ⟨dst,.extract t i,ty,pos,af,g⟩ L ⟨env,heap⟩ ()=cg (eA dst ⟨env,heap⟩ L) (pI (ev env t) i):=GS
theorem Q5{T:ac}{a:ab}{f:Nat}:dU P ag ⟨dst,.fieldAddr T a f,ty,pos,af,g⟩ L ⟨env,heap⟩ ()=cg (eA dst ⟨env,heap⟩ L) (nU P T (ev env a) f):=FK
theorem Rk{T:ac}{x i:ab}:dU P ag ⟨dst,.indexAddr T x i,ty,pos,af,g⟩ L ⟨env,heap⟩ ()=cg (eA dst ⟨env,heap⟩ L) (nT P T heap (ev env x) (ev env i)):=FJ
theorem Vx{T:ac}{x i:ab}:dU P ag ⟨dst,.index T x i,ty,pos,af,g⟩ L ⟨env,heap⟩ ()=cg (eA dst ⟨env,heap⟩ L) (qg P T (ev env x) (ev env i)):=JN
theorem aFv{x:ab}{a:Array ac}:dU P ag ⟨dst,.call {callee:=.builtin .len,args:=#[x],argTypes:=a},ty,pos,af,g⟩ L ⟨env,heap⟩ ()=cg (eA dst ⟨env,heap⟩ L) (qW P (a.getD 0 0) a.size heap (ev env x)):=OS
theorem aFr{f:ab}{args:List ab}{a:Array ac}:dU P ag ⟨dst,.call {callee:=.value f,args:=args.toArray,argTypes:=a},ty,pos,af,g⟩ L ⟨env,heap⟩ ()=yI P heap (OY dst ⟨env,heap⟩ L) (ev env f) (args.map (ev env)):=LG
theorem VR{T:ac}{x:ab}{lo hi:Option ab}:dS P ag ⟨dst,.slice T x lo hi none,ty,pos,af,g⟩ ⟨env,heap⟩ K ()=cg K (oA P T heap (ev env x) (lo.map (ev env)) (hi.map (ev env))):=Kc
theorem Vv{T:ac}{x:ab}{lo hi:Option ab}:dU P ag ⟨dst,.slice T x lo hi none,ty,pos,af,g⟩ L ⟨env,heap⟩ ()=cg (eA dst ⟨env,heap⟩ L) (oA P T heap (ev env x) (lo.map (ev env)) (hi.map (ev env))):=JL
theorem T4{T:ac}{x i:ab}{ok:Bool}:dS P ag ⟨dst,.lookup T x i ok,ty,pos,af,g⟩ ⟨env,heap⟩ K ()=cg K (qt P T heap (ev env x) (ev env i) ok):=IH
theorem TD{T:ac}{x i:ab}{ok:Bool}:dU P ag ⟨dst,.lookup T x i ok,ty,pos,af,g⟩ L ⟨env,heap⟩ ()=cg (eA dst ⟨env,heap⟩ L) (qt P T heap (ev env x) (ev env i) ok):=HR
theorem RF{T:ac}{m k x:ab}:dS P ag ⟨dst,.mapUpdate T m k x,ty,pos,af,g⟩ ⟨env,heap⟩ K ()=cg K (lN P T heap (ev env m) (ev env k) (ev env x)):=F6
theorem Ri{T:ac}{m k x:ab}:dU P ag ⟨dst,.mapUpdate T m k x,ty,pos,af,g⟩ L ⟨env,heap⟩ ()=cg (eA dst ⟨env,heap⟩ L) (lN P T heap (ev env m) (ev env k) (ev env x)):=FH
theorem T5{T:ac}{m k x:ab}:dS P ag ⟨dst,.insert T m k x,ty,pos,af,g⟩ ⟨env,heap⟩ K ()=cg K (lN P T heap (ev env m) (ev env k) (ev env x)):=II
theorem TE{T:ac}{m k x:ab}:dU P ag ⟨dst,.insert T m k x,ty,pos,af,g⟩ L ⟨env,heap⟩ ()=cg (eA dst ⟨env,heap⟩ L) (lN P T heap (ev env m) (ev env k) (ev env x)):=HT
theorem VS{T:ac}{x:ab}:dS P ag ⟨dst,.range T x,ty,pos,af,g⟩ ⟨env,heap⟩ K ()=cg K (pW P T heap.length (ev env x)):=Kd
theorem Vw{T:ac}{x:ab}:dU P ag ⟨dst,.range T x,ty,pos,af,g⟩ L ⟨env,heap⟩ ()=cg (eA dst ⟨env,heap⟩ L) (pW P T heap.length (ev env x)):=JM
theorem XE{it:ab}:dS P ag ⟨dst,.next it true,ty,pos,af,g⟩ ⟨env,heap⟩ K ()=cg K (qA heap (ev env it)):=My
theorem aFE{it:ab}:dU P ag ⟨dst,.next it true,ty,pos,af,g⟩ L ⟨env,heap⟩ ()=cg (eA dst ⟨env,heap⟩ L) (qA heap (ev env it)):=LA
theorem RG{T:ac}{l c:ab}:dS P ag ⟨dst,.makeSlice T l c,ty,pos,af,g⟩ ⟨env,heap⟩ K ()=cg K (qC P T heap.length (ev env l) (ev env c)):=F7
theorem Rj{T:ac}{l c:ab}:dU P ag ⟨dst,.makeSlice T l c,ty,pos,af,g⟩ L ⟨env,heap⟩ ()=cg (eA dst ⟨env,heap⟩ L) (qC P T heap.length (ev env l) (ev env c)):=FI
theorem RM{x:ab}:dS P ag ⟨dst,.nilCheck x,ty,pos,af,g⟩ ⟨env,heap⟩ K ()=cg K (pR (ev env x)):=Ga
theorem R8{x:ab}:dU P ag ⟨dst,.nilCheck x,ty,pos,af,g⟩ L ⟨env,heap⟩ ()=cg (eA dst ⟨env,heap⟩ L) (pR (ev env x)):=GA
theorem XB{args:Array ab}{a:Array ac}:dS P ag ⟨dst,.call {callee:=.builtin .min,args,argTypes:=a},ty,pos,af,g⟩ ⟨env,heap⟩ K ()=cg K (kg false (args.toList.map (ev env))):=Ny
theorem aFC{args:Array ab}{a:Array ac}:dU P ag ⟨dst,.call {callee:=.builtin .min,args,argTypes:=a},ty,pos,af,g⟩ L ⟨env,heap⟩ ()=cg (eA dst ⟨env,heap⟩ L) (kg false (args.toList.map (ev env))):=OU
theorem XA{args:Array ab}{a:Array ac}:dS P ag ⟨dst,.call {callee:=.builtin .max,args,argTypes:=a},ty,pos,af,g⟩ ⟨env,heap⟩ K ()=cg K (kg true (args.toList.map (ev env))):=Nx
theorem aFB{args:Array ab}{a:Array ac}:dU P ag ⟨dst,.call {callee:=.builtin .max,args,argTypes:=a},ty,pos,af,g⟩ L ⟨env,heap⟩ ()=cg (eA dst ⟨env,heap⟩ L) (kg true (args.toList.map (ev env))):=OT
theorem Sj{T:ac}:dS P ag ⟨dst,.makeMap T none,ty,pos,af,g⟩ ⟨env,heap⟩ K ()=K {v:=.map heap.length,aQ:=[.map false []]}:=HJ
theorem Su{T:ac}:dU P ag ⟨dst,.makeMap T none,ty,pos,af,g⟩ L ⟨env,heap⟩ ()=eA dst ⟨env,heap⟩ L {v:=.map heap.length,aQ:=[.map false []]}:=Ht
theorem T7{s x:ab}{T X:ac}:dS P ag ⟨dst,.call {callee:=.builtin .append,args:=#[s,x],argTypes:=#[T,X]},ty,pos,af,g⟩ ⟨env,heap⟩ K ()=cg K (ov P T X heap (ev env s) (ev env x)):=IK
theorem TG{s x:ab}{T X:ac}:dU P ag ⟨dst,.call {callee:=.builtin .append,args:=#[s,x],argTypes:=#[T,X]},ty,pos,af,g⟩ L ⟨env,heap⟩ ()=cg (eA dst ⟨env,heap⟩ L) (ov P T X heap (ev env s) (ev env x)):=HV
theorem Xx{s x:ab}{T X:ac}:dS P ag ⟨dst,.call {callee:=.builtin .copy,args:=#[s,x],argTypes:=#[T,X]},ty,pos,af,g⟩ ⟨env,heap⟩ K ()=cg K (copyV P T heap (ev env s) (ev env x)):=L5
theorem aFt{s x:ab}{T X:ac}:dU P ag ⟨dst,.call {callee:=.builtin .copy,args:=#[s,x],argTypes:=#[T,X]},ty,pos,af,g⟩ L ⟨env,heap⟩ ()=cg (eA dst ⟨env,heap⟩ L) (copyV P T heap (ev env s) (ev env x)):=LD
theorem Xh{f:am}{fi ca:List AV}{args:List AV}{M:AV->aj->Prop}:yI P heap M (.func f fi ca) args=jW P false f M (fi++args++ca) heap:=Nr
theorem Xk{f:am}{fi ca:List AV}{args:List AV}:vg P heap K (.func f fi ca) args=nq P f K (fi++args++ca) heap:=L8
theorem Xj{f:am}{fi ca:List PV}{args:List AV}{M:AV->aj->Prop}:yI P heap M (.p (.func f fi ca)) args=jW P false f M (fi.map .p++args++ca.map .p) heap:=Ns
theorem Xl{f:am}{fi ca:List PV}{args:List AV}:vg P heap K (.p (.func f fi ca)) args=nq P f K (fi.map .p++args++ca.map .p) heap:=Nt
end ops
section guards
variable{ops:Array Oper}{o:Oper}{r:List Oper}{K:St->Prop}{want t:Bool}{s:St}{i:Nat}{acc:List Touch}
theorem Rx:CD P ag ops o r K want s (.p (.bool t))=if t=want then dU P ag o (oT P ag ops r K) s ()else oT P ag ops r K ⟨put o.dst (.p (.aA [])) s.env,s.heap⟩:=F0
theorem R4:CD P ag ops o r K want s (.p (.aA []))=oT P ag ops r K ⟨put o.dst (.p (.aA [])) s.env,s.heap⟩:=GG
theorem QY:BU P ag ops o r i acc K want s (.p (.bool t))=if t=want then dS P ag o s (ym P ag ops r i acc K o.dst s) ()else nD P ag ops r (i+1) acc K ⟨put o.dst (.p (.aA [])) s.env,s.heap⟩:=Fs
theorem Rw:BU P ag ops o r i acc K want s (.p (.aA []))=nD P ag ops r (i+1) acc K ⟨put o.dst (.p (.aA [])) s.env,s.heap⟩:=FZ
end guards
theorem QR{id:Nat}{Q:bm->St->Prop}{s:St}:qd id Q .normal s=Q .normal s:=(rfl)
theorem Sg{id i:Nat}{Q:bm->St->Prop}{s:St}:qd id Q (.exit i) s=if i=id then Q .normal s else Q (.exit i) s:=(rfl)
theorem Tn{id:Nat}{Q:bm->St->Prop}{s:St}:qd id Q .ret s=Q .ret s:=(rfl)
section makeFunc
variable{dst:Option Tmp}{ty:Nat}{pos:String}{af:Array Edge}{g:Option (Nat×Bool)}{env:Env}{heap:aj}{L:St->Prop}{K:aS->Prop}{f:am}{fi ca:Array ab}
theorem R9(hf:ag f=false):dU P ag ⟨dst,.makeFunc (.func f) fi ca,ty,pos,af,g⟩ L ⟨env,heap⟩ ()=cg (eA dst ⟨env,heap⟩ L) (qp f (fi.toList.map (ev env)) (ca.toList.map (ev env))):=GB hf
theorem RN(hf:ag f=false):dS P ag ⟨dst,.makeFunc (.func f) fi ca,ty,pos,af,g⟩ ⟨env,heap⟩ K ()=cg K (qp f (fi.toList.map (ev env)) (ca.toList.map (ev env))):=Gb hf
end makeFunc
theorem S8{p:Prop}{e:aS}{K:aS->Prop}:cg K (some (p,e))=(p/\K e):=(rfl)
theorem S9{K:aS->Prop}:cg K none=False:=(rfl)
theorem SP{a:Array Oper}:uW a []=true:=(rfl)
theorem Ru{a:Array Oper}{t:Touch}{r:List Touch}:uW a (t::r)=(r.all (fun u=>!iU u t||aFY a u.i t.i)&&uW a r):=(rfl)
theorem TY{a:List ap}{v:PV}{s:St}:qJ P a v .ret s=∃vs,fC P s a=some vs/\fR s.heap 9 (oneOf vs) v:=by simp[qJ]
theorem RC{a:List ap}{v:PV}{s:St}:qJ P a v .normal s=∃vs,fC P s a=some vs/\fR s.heap 9 (oneOf vs) v:=by simp[qJ]
section pur
variable{H:aj}
theorem vX{n:Nat}{a v:PV}:fR H n (.p a) v=Wk a v:=by cases n<;>rfl
theorem KL{n b ar z off len:Nat}{fs:List PV}:fR H (n+1) (.sl b ar z off len) (.seq fs)=match H[b]? with
 |some (.arr _ a c es)=>ar=a/\z=c/\off+len<=es.length/\lU H n ((es.drop off).take len) fs
 |_=>False:=(rfl)
theorem aFT{n:Nat}{u u':ac}{a:List AV}{vs:List PV}:fR H (n+1) (.st u a) (.st u' vs)=(u=u'/\lU H n a vs):=(rfl)
theorem aFU{n:Nat}{a:List AV}{vs:List PV}:fR H (n+1) (.aA a) (.aA vs)=lU H n a vs:=(rfl)
theorem J3{n b:Nat}{a:List (PV×PV)}:fR H (n+1) (.map b) (.eH a)=match H[b]? with
 |some (.map _ c)=>c=a
 |_=>False:=(rfl)
theorem aFS{n:Nat}{f a:am}{c d:List AV}{vs b:List PV}:fR H (n+1) (.func f c d) (.func a vs b)=(f=a/\lU H n c vs/\lU H n d b):=(rfl)
theorem xb{n:Nat}{vs:List PV}:lU H n [] vs=(vs=[]):=(rfl)
theorem AN{n:Nat}{x:AV}{a:List AV}{v:PV}{vs:List PV}:lU H n (x::a) (v::vs)=(fR H n x v/\lU H n a vs):=(rfl)
theorem HO{α:Type}{n:Nat}{g:α->AV}{f:α->PV}:∀{l:List α},lU H n (l.map g) (l.map f)=∀x∈l,fR H n (g x) (f x)
 |[]=>by simp[xb]
 |a::l=>by simp[AN,HO (l:=l)]
theorem rQ(n:Nat)(c:∀(x:AV)(v:PV),fR H n x v->∃v',er H n x=some v'/\Wk v' v):∀(b:List AV)(vs:List PV),lU H n b vs->∃a,jD (er H n) b=some a/\bw a vs
 |[],vs,h=>by rw[xb]at h;subst h;exact⟨[],rfl,by simp[bw]⟩
 |x::b,vs,h=>by
  cases vs with
  |nil=>exact h.elim
  |cons v vs=>
   rw[AN]at h;obtain⟨p,d,e⟩:=c x v h.1;obtain⟨a,f,g⟩:=rQ n c b vs h.2;exact⟨p::a,by simp[jD,d,f],by simp only[bw];exact⟨e,g⟩⟩
theorem pY:∀(n:Nat)(x:AV)(v:PV),fR H n x v->∃v',er H n x=some v'/\Wk v' v
 |0,x,v,h=>by
  cases x with
  |p a=>exact⟨_,rfl,h⟩
  |_=>exact h.elim
 |n+1,x,v,h=>by
  cases x with
  |p a=>rw[vX]at h;exact⟨_,rfl,h⟩
  |sl b ar z off len=>
   cases v with
   |seq fs=>
    rw[KL]at h
    split at h
    case h_2=>exact h.elim
    rename_i k C E j e;obtain⟨rfl,rfl,m,g⟩:=h;obtain⟨i,c,d⟩:=rQ n (pY n) _ _ g;simp only[er,e,m,and_self,if_true]
    split
    ·rename_i r;rw[r.2]at g;simp only[List.drop_nil,List.take_nil,xb]at g;exact⟨_,rfl,by rw[g];simp[Wk]⟩
    ·rw[c];exact⟨_,rfl,by simp only[Wk];exact d⟩
   |_=>exact h.elim
  |st u xs=>
   cases v with
   |st u' vs=>
    obtain⟨rfl,h⟩:=h;obtain⟨i,c,d⟩:=rQ n (pY n) _ _ h;simp only[er,c];exact⟨_,rfl,by simp only[Wk];exact⟨trivial,d⟩⟩
   |_=>exact h.elim
  |aA xs=>
   cases v with
   |aA vs=>
    obtain⟨i,c,d⟩:=rQ n (pY n) _ _ h;simp only[er,c];exact⟨_,rfl,by simp only[Wk];exact d⟩
   |_=>exact h.elim
  |ptr b path=>
   cases v with
   |bZ t=>
    change (match H[b]? with
     |some (.box _ y)=>match eL y path with
      |some s=>fR H n s t
      |none=>False
     |_=>False)at h
    split at h
    case h_2=>exact h.elim
    rename_i e
    split at h
    case h_2=>exact h.elim
    rename_i s hs;obtain⟨p,c,d⟩:=pY n _ _ h;simp only[er,e,hs,c];exact⟨_,rfl,by simp only[Wk];exact d⟩
   |_=>exact h.elim
  |bQ _ _ _ _ _=>exact h.elim
  |map b=>
   cases v with
   |eH j=>
    rw[J3]at h
    split at h
    case h_2=>exact h.elim
    rename_i fz w e;subst h;simp only[er,e];exact⟨_,rfl,Wk.refl _⟩
   |_=>exact h.elim
  |func f xs D=>
   cases v with
   |func A vs us=>
    obtain⟨rfl,h,l⟩:=h;obtain⟨i,c,d⟩:=rQ n (pY n) _ _ h;obtain⟨B,o,q⟩:=rQ n (pY n) _ _ l;simp only[er,c,o];exact⟨_,rfl,by simp only[Wk];exact⟨trivial,d,q⟩⟩
   |_=>exact h.elim
end pur
theorem UO{f:am}{fn:Func}(ag:am->Bool)(h:an P f fn)(n:P.follows .mixedOrders=true){args:List PV}{v:PV}(o:args.length<=fn.ntmps)
 (d:eD P ag (fn.ntmps,0) (fn.body.getD .skip) (qJ P fn.results.toList v) ⟨iw 0 (args.map .p),[]⟩):qH P f args v:=by
 have hs:=h.stat;simp only[Bool.and_eq_true,bne_iff_ne]at hs;have k:fn.body=some (fn.body.getD .skip):=by
  have a:=hs.1.1;clear d hs;cases l:fn.body with
  |none=>rw[l]at a;simp at a
  |some c=>rfl
 obtain⟨e,s,⟨a,vs,g,b⟩,j⟩:=mL _ _ _ (kW (Q':=qJ P fn.results.toList v) _ (fun _ _ h=>h) d);obtain⟨v',b,i⟩:=pY _ _ _ b;have m:qH P f args v':=Iz (nS ag) (wN (nS ag) n) h.enters h.func k hs.2 o (j (Ends P fn.results.toList v') ⟨by cases e<;>exact a,vs,g,b⟩);exact m.cL (bw.refl _) i
theorem aM{f:am}{fn:Func}(ag:am->Bool)(h:an P f fn)(a:P.follows .mixedOrders=true){args:List PV}{v:PV}(b:args.length<=fn.ntmps)
 (c:eD P ag (fn.ntmps,0) (fn.body.getD .skip) (qJ P fn.results.toList v) ⟨iw 0 (args.map .p),[]⟩):au P f args v:=.inl (UO ag h a b c)
theorem O3{α:Type}{N:Nat×Nat->Prop}{f:α->PV}{l:List α}:aU N (l.map fun x=>.p (f x))=True:=by
 rw[cK,eq_iff_iff,iff_true];intro v a;simp only[a3]at a;obtain⟨x,_,rfl⟩:=a;trivial
theorem aF4{α:Type}{N:Nat×Nat->Prop}{f:α->PV}{l:List α}{i:Nat}:aU N ((l.map fun x=>.p (f x)).take i)=True:=by
 rw[cK,eq_iff_iff,iff_true];intro v a;have a:=List.mem_of_mem_take a;simp only[a3]at a;obtain⟨x,_,rfl⟩:=a;trivial
theorem TP{N:Nat×Nat->Prop}{a b:List AV}:aU N (a++b)=(aU N a/\aU N b):=by
 simp only[cK,List.mem_append,eq_iff_iff];exact⟨fun h=>⟨fun v c=>h v (.inl c),fun v c=>h v (.inr c)⟩,fun h v c=>c.elim (h.1 v) (h.2 v)⟩
theorem QA{α:Type}{l:List α}{i:Nat}:(l.take i).take i=l.take i:=by simp[List.take_take]
theorem Qz{α β:Type}{f:α->β}{l:List α}:(l.map f).take l.length=l.map f:=List.take_of_length_le (by simp)
section loops
variable{α:Type}(N:Nat)(mk:α->St)(ok:α->Prop)(m:α->Nat)(n:Nat)(Q:bm->St->Prop)
def Dw(s:Tg (N,mk,ok,m,n) St):Prop:=tq N mk ok m n s
def yp(e:Tg (N,mk,ok,m,n,Q) bm)(s:Tg (N,mk,ok,m,n,Q) St):Prop:=qq N mk ok m n Q e s
variable{N}{mk}{ok}{m}{n}{Q}{s s':St}
theorem Rb:yp N mk ok m n Q .normal s=Dw N mk ok m n s:=(rfl)
theorem SC{id:Nat}:yp N mk ok m n Q (.exit id) s=Q (.exit id) s:=(rfl)
theorem TA:yp N mk ok m n Q .ret s=Q .ret s:=(rfl)
theorem lp{d:Nat}{b:Code}(mk:α->St)(ok:α->Prop)(m:α->Nat)(c:α)(e:ok c)(gJ:∀a,ok a->eD P ag (d,N) b (yp N mk ok m (m a) Q) (mk a))
 (hn:(mk c).heap.take N=s.heap.take N:=by simp)(he:lC (mk c).heap s.env (mk c).env:=by simp)(hh:gH (mk c).heap s.heap (mk c).heap:=by simp)(hr:gM (mk c).heap (mk c).env:=by simp)(hr2:dv (mk c).heap (mk c).heap:=by simp):
 eD P ag (d,N) (.loop b) Q s:=wl (q:=(d,N)) mk ok m c e gJ hn he hh hr hr2
theorem rd(a':α)(a:ok a')(h1:m a'<n:=by omega)(hn:(mk a').heap.take N=s.heap.take N:=by simp)(he:lC (mk a').heap s.env (mk a').env:=by simp)(hh:gH (mk a').heap s.heap (mk a').heap:=by simp)(hr:gM (mk a').heap (mk a').env:=by simp)(hr2:dv (mk a').heap (mk a').heap:=by simp):
 Dw N mk ok m n s:=rnd a' a h1 hn he hh hr hr2
end loops
section calls
variable{f:am}{H H1:aj}{K:AV->aj->Prop}{L:aS->Prop}{v a b c d e a' b' c' d' e':PV}
theorem c0(h:au P f [] v)(hk:K (.p v) H):jW P false f K [] H:=Xm h hk
theorem c1(h:au P f [a'] v)(hk:K (.p v) H)(h1:Wk a a':=by first|exact Wk.refl _|simp):jW P false f K [.p a] H:=Xn h hk h1
theorem c2(h:au P f [a',b'] v)(hk:K (.p v) H)(h1:Wk a a':=by first|exact Wk.refl _|simp)(c:Wk b b':=by first|exact Wk.refl _|simp):jW P false f K [.p a,.p b] H:=Xo h hk h1 c
theorem c3(h:au P f [a',b',c'] v)(hk:K (.p v) H)(h1:Wk a a':=by first|exact Wk.refl _|simp)(d:Wk b b':=by first|exact Wk.refl _|simp)(e:Wk c c':=by first|exact Wk.refl _|simp):jW P false f K [.p a,.p b,.p c] H:=Xp h hk h1 d e
theorem c4(h:au P f [a',b',c',d'] v)(hk:K (.p v) H)(e:Wk a a':=by first|exact Wk.refl _|simp)(g:Wk b b':=by first|exact Wk.refl _|simp)(i:Wk c c':=by first|exact Wk.refl _|simp)(j:Wk d d':=by first|exact Wk.refl _|simp):jW P false f K [.p a,.p b,.p c,.p d] H:=Xq h hk e g i j
theorem c5(h:au P f [a',b',c',d',e'] v)(hk:K (.p v) H)(g:Wk a a':=by first|exact Wk.refl _|simp)(i:Wk b b':=by first|exact Wk.refl _|simp)(j:Wk c c':=by first|exact Wk.refl _|simp)(k:Wk d d':=by first|exact Wk.refl _|simp)(l:Wk e e':=by first|exact Wk.refl _|simp):jW P false f K [.p a,.p b,.p c,.p d,.p e] H:=Xr h hk g i j k l
theorem e0(h:au P f [] v)(hk:L {v:=.p v}):nq P f L [] H:=W5 h hk
theorem e1(h:au P f [a'] v)(hk:L {v:=.p v})(h1:Wk a a':=by first|exact Wk.refl _|simp):nq P f L [.p a] H:=W6 h hk h1
theorem e2(h:au P f [a',b'] v)(hk:L {v:=.p v})(h1:Wk a a':=by first|exact Wk.refl _|simp)(c:Wk b b':=by first|exact Wk.refl _|simp):nq P f L [.p a,.p b] H:=W7 h hk h1 c
theorem e3(h:au P f [a',b',c'] v)(hk:L {v:=.p v})(h1:Wk a a':=by first|exact Wk.refl _|simp)(d:Wk b b':=by first|exact Wk.refl _|simp)(e:Wk c c':=by first|exact Wk.refl _|simp):nq P f L [.p a,.p b,.p c] H:=W8 h hk h1 d e
theorem e4(h:au P f [a',b',c',d'] v)(hk:L {v:=.p v})(e:Wk a a':=by first|exact Wk.refl _|simp)(g:Wk b b':=by first|exact Wk.refl _|simp)(i:Wk c c':=by first|exact Wk.refl _|simp)(j:Wk d d':=by first|exact Wk.refl _|simp):nq P f L [.p a,.p b,.p c,.p d] H:=W9 h hk e g i j
theorem e5(h:au P f [a',b',c',d',e'] v)(hk:L {v:=.p v})(g:Wk a a':=by first|exact Wk.refl _|simp)(i:Wk b b':=by first|exact Wk.refl _|simp)(j:Wk c c':=by first|exact Wk.refl _|simp)(k:Wk d d':=by first|exact Wk.refl _|simp)(l:Wk e e':=by first|exact Wk.refl _|simp):nq P f L [.p a,.p b,.p c,.p d,.p e] H:=Xa h hk g i j k l
theorem cp{args:List AV}{vs a:List PV}(h:au P f a v)(b:jH H args=some (vs,H1))(hk:K (.p v) H1)(h1:bw vs a:=by first|exact bw.refl _|simp):jW P false f K args H:=Xs h b hk h1
theorem ep{args:List AV}{vs a:List PV}{bs:List Nat}{ak aI:List (Nat×Obj)}(h:au P f a v)(b:nv H args=some (vs,bs))(hf:kG H bs=some (ak,aI))(hk:L {v:=.p v,ak,aI})(h1:bw vs a:=by first|exact bw.refl _|simp):nq P f L args H:=Xc h b hf hk h1
theorem ci{args:List AV}{H':aj}{v:AV}(h:de P f H args H' v)(hk:K v H'):jW P false f K args H:=.inr ⟨rfl,.inr (.inl ⟨H',v,h,hk⟩)⟩
end calls
attribute [simp] O3 aF4 TP QA vX KL aFT aFU J3 aFS xb AN HO Qz aU QR Sg Tn Rx R4 QY Rw R9 RN S8 S9 SP Ru TY RC Rb SC TA jH iL nv lS kG lK
 aG1 Uw aGZ aG0 Uu aGY Uv aH Ip aGX Rf SZ S6 RO TU VL Vr aG2 Ut Tw aG8 Us Tv XC T6 XF VW Xu VV QN Xz VQ Xt XH Xw Sk RI RH VT Xy Xv aFD TF aFG VA aFq Vz QU aFx Vu aFp aFI aFs Sv Q5 Rk Vx aFv aFr VR Vv T4 TD RF Ri T5 TE VS Vw XE aFE RG Rj RM R8 XB aFC XA aFB Sj Su T7 TG Xx aFt Xh Xk Xj Xl
end
section
variable{P:ao}{ag:am->Bool}{q:Cx}
theorem Hg{r:eC}{K a:aS->Prop}(hk:∀e,K e->a e)(h:ba r K):ba r a:=by
 unfold ba at h⊢
 split at h
 ·exact⟨h.1,hk _ h.2⟩
 ·exact h.elim
theorem SA{o:Oper}{e:Env}{H:aj}{K a:aS->Prop}(hk:∀e,K e->a e)(h:fu P ag o (ev e) H K):fu P ag o (ev e) H a:=by
 obtain⟨x,b,c⟩:=BI (ag:=ag) o (ev e) H K h;exact c a (hk x b)
theorem IV{o:Oper}{e:Env}{H:aj}{K a:aS->Prop}(hk:∀e,K e->a e)(h:ki P ag o e H K):ki P ag o e H a:=by
 unfold ki at h⊢
 repeat' split at h
 all_goals first|exact hk _ h|exact Hg hk h|exact⟨h.1,Hg hk h.2⟩|exact SA hk h|exact h.elim
theorem FW{d:Bool}{f:am}{args:List AV}{H:aj}{K i:AV->aj->Prop}(hk:∀v H,K v H->i v H)(h:gF P d f args H K):gF P d f args H i:=by
 rcases h with⟨vs,v,a,b,c⟩|⟨g,⟨vs,H1,v,a,b,c⟩|⟨H',v,a,b⟩|⟨e,a,b,c⟩|⟨ak,v,a,b,c⟩⟩
 ·exact .inl ⟨vs,v,a,b,hk _ _ c⟩
 ·exact .inr ⟨g,.inl ⟨vs,H1,v,a,b,hk _ _ c⟩⟩
 ·exact .inr ⟨g,.inr (.inl ⟨H',v,a,hk _ _ b⟩)⟩
 ·exact .inr ⟨g,.inr (.inr (.inl ⟨e,a,b,hk _ _ c⟩))⟩
 ·exact .inr ⟨g,.inr (.inr (.inr ⟨ak,v,a,b,hk _ _ c⟩))⟩
theorem Gi{f:am}{args:List AV}{H:aj}{K d:aS->Prop}(hk:∀e,K e->d e)(h:gL P f args H K):gL P f args H d:=by
 rcases h with⟨vs,v,a,b,c⟩|⟨vs,bs,ak,aI,v,a,b,c,g⟩|⟨e,a,b,c⟩|⟨ak,v,a,b,c⟩
 ·exact .inl ⟨vs,v,a,b,hk _ c⟩
 ·exact .inr (.inl ⟨vs,bs,ak,aI,v,a,b,c,hk _ g⟩)
 ·exact .inr (.inr (.inl ⟨e,a,b,hk _ c⟩))
 ·exact .inr (.inr (.inr ⟨ak,v,a,b,hk _ c⟩))
theorem FE{o:Oper}{K b:St->Prop}{s:St}(hk:∀s,K s->b s)(h:cZ P ag o K s):cZ P ag o b s:=by
 unfold cZ at h⊢
 split at h
 ·rename_i f args g i;unfold qo at h⊢
  split at h
  ·exact FW (fun v H a=>hk _ a) h
  ·exact FW (fun v H a=>hk _ a) h
  ·obtain⟨H',v,c,d⟩:=h;exact⟨H',v,c,hk _ d⟩
  ·exact h.elim
 ·exact IV (fun e a=>hk _ a) h
theorem F2{o:Oper}{s:St}{K a:aS->Prop}(hk:∀e,K e->a e)(h:c7 P ag o s K):c7 P ag o s a:=by
 unfold c7 at h⊢
 split at h
 ·rename_i f args g i;unfold p0 at h⊢
  split at h
  ·exact Gi hk h
  ·exact Gi hk h
  ·obtain⟨e,b,c,d⟩:=h;exact⟨e,b,c,hk _ d⟩
  ·exact h.elim
 ·exact IV hk h
theorem tO{c:Array Oper}:∀(l:List Oper){K a:St->Prop}{s:St},(∀s,K s->a s)->fO P ag c l K s->fO P ag c l a s
 |[],K,a,s,hk,h=>hk s h
 |o::l,K,a,s,hk,h=>by
  simp only[fO]at h⊢
  split at h
  ·exact FE (fun s hs=>tO l hk hs) h
  ·split at h
   ·split at h
    ·rename_i b;rw[if_pos b];exact FE (fun s hs=>tO l hk hs) h
    ·rename_i b;rw[if_neg b];exact tO l hk h
   ·exact tO l hk h
   ·exact h.elim
theorem tL{d:Array Oper}:∀(l:List Oper){i:Nat}{b:List Touch}{K a:St->Prop}{s:St},(∀s,K s->a s)->fU P ag d l i b K s->fU P ag d l i b a s
 |[],i,b,K,a,s,hk,h=>⟨h.1,hk s h.2⟩
 |o::l,i,b,K,a,s,hk,h=>by
  simp only[fU]at h⊢
  split at h
  ·exact F2 (fun e hs=>tL l hk hs) h
  ·split at h
   ·split at h
    ·rename_i c;rw[if_pos c];exact F2 (fun e hs=>tL l hk hs) h
    ·rename_i c;rw[if_neg c];exact tL l hk h
   ·exact tL l hk h
   ·exact h.elim
theorem mK:∀(c:Code){Q g:bm->St->Prop}{s:St},(∀e s,Q e s->g e s)->cX P ag q c Q s->cX P ag q c g s
 | .skip,Q,g,s,hq,h=>hq _ _ h
 | .label _,Q,g,s,hq,h=>hq _ _ h
 | .exit _,Q,g,s,hq,h=>hq _ _ h
 | .ret,Q,g,s,hq,h=>hq _ _ h
 | .region _ ops draw,Q,g,s,hq,h=>by
  simp only[cX]at h⊢
  split at h
  ·rename_i j;rw[if_pos j];exact tL _ (fun s hs=>hq _ _ hs) h
  ·rename_i j;rw[if_neg j];exact tO _ (fun s hs=>hq _ _ hs) h
 | .seq a b,Q,g,s,hq,h=>by
  simp only[cX]at h⊢;refine mK a (fun e s d=>?_) h;cases e with
  |normal=>exact mK b hq d
  |exit i=>exact hq _ _ d
  |ret=>exact hq _ _ d
 | .cond c a b,Q,g,s,hq,h=>by
  simp only[cX]at h⊢;unfold sA at h⊢
  split at h
  ·split at h
   ·rename_i k;rw[if_pos k];exact mK a hq h
   ·rename_i k;rw[if_neg k];exact mK b hq h
  ·exact h.elim
 | .block id b,Q,g,s,hq,h=>by
  simp only[cX]at h⊢;refine mK b (fun e s d=>?_) h;cases e with
  |normal=>exact hq _ _ d
  |exit i=>
   simp only[nj]at d⊢
   by_cases hi:i=id
   ·simp only[hi,if_true]at d⊢;exact hq _ _ d
   ·simp only[hi,if_false]at d⊢;exact hq _ _ d
  |ret=>exact hq _ _ d
 | .scope b,Q,g,s,hq,h=>mK b hq h
 | .loop b,Q,g,s,hq,h=>by
  simp only[cX]at h⊢;obtain⟨I,l,m⟩:=h;refine⟨I,l,fun n t hI=>mK b (fun e s d=>?_) (m n t hI)⟩;cases e with
  |normal=>exact d
  |exit id=>exact hq _ _ d
  |ret=>exact hq _ _ d
 | .rangeFunc f o a b,Q,g,s,hq,h=>by
  simp only[cX]at h⊢;exact⟨h.1,GQ (fun H=>GU hq) h.2⟩
 | .goto _,_,_,_,_,h=>h.elim
 | .refuse _,_,_,_,_,h=>h.elim
def qu(R:St->Prop)(Q:bm->St->Prop)(e:Tg (R,Q) bm)(s:Tg (R,Q) St):Prop:=match e with
 | .normal=>R s
 |e=>Q e s
theorem Q2{R:St->Prop}{Q:bm->St->Prop}{s:St}:qu R Q .normal s=R s:=(rfl)
theorem SH{R:St->Prop}{Q:bm->St->Prop}{id:Nat}{s:St}:qu R Q (.exit id) s=Q (.exit id) s:=(rfl)
theorem Uc{R:St->Prop}{Q:bm->St->Prop}{s:St}:qu R Q .ret s=Q .ret s:=(rfl)
theorem join{a b:Code}{Q:bm->St->Prop}{s:St}(R:St->Prop)(d:eD P ag q a (qu R Q) s)(f:∀s',R s'->eD P ag q b Q s'):eD P ag q (.seq a b) Q s:=by
 rw[aH];refine mK a (fun e s c=>?_) d;cases e with
 |normal=>exact f s c
 |exit i=>exact c
 |ret=>exact c
theorem O4{α:Type}{N:Nat×Nat->Prop}{f:α->PV}{l:List α}:aU N (l.map (AV.p∘f))=True:=O3
attribute [simp] Q2 SH Uc O4
end
section
variable{P:ao}{ag:am->Bool}
def uS(P:ao)(a:List ap)(N:Nat)(H':aj)(v:AV)(e:Tg (a,N,H',v) bm)(s:Tg (a,N,H',v) St):Prop:=sH P a N H' v e s
theorem SL{a:List ap}{N:Nat}{H':aj}{v:AV}{s:St}:uS P a N H' v .ret s=∃vs,fC P s a=some vs/\oneOf vs=v/\(H'=s.heap\/(dd N s ⟨[],H'⟩/\aD (aF H') v)):=by simp[uS,sH]
theorem QM{a:List ap}{N:Nat}{H':aj}{v:AV}{s:St}:uS P a N H' v .normal s=∃vs,fC P s a=some vs/\oneOf vs=v/\(H'=s.heap\/(dd N s ⟨[],H'⟩/\aD (aF H') v)):=by simp[uS,sH]
theorem jk{f:am}{fn:Func}(ag:am->Bool)(h:an P f fn)(a:P.follows .mixedOrders=true){args:List AV}{H H':aj}{v:AV}(b:args.length<=fn.ntmps)
 (c:eD P ag (fn.ntmps,H.length) (fn.body.getD .skip) (uS P fn.results.toList H.length H' v) ⟨iw 0 args,H⟩):de P f H args H' v:=
 NQ ag h a b (kW (Q':=sH P fn.results.toList H.length H' v) _ (fun _ _ h=>h) c)
theorem aGf{n i:Nat}:sig [] n i=n+i:=by simp[sig]
theorem cn{f:am}{H H':aj}{K:AV->aj->Prop}{v:AV}{args:List PV}(h:de P f [] (args.map .p) H' v)(hk:K (ct (sig [] H.length) v) (H++H'.map (dh (sig [] H.length)))):jW P false f K (args.map .p) H:=by
 refine .inr ⟨rfl,.inr (.inr (.inl ⟨df [] H.length [] H' v,?_,⟨by simp[df],by simp[df]⟩,?_⟩))⟩
 ·have b:aU (aF ([]:aj)) (args.map .p):=by rw[cK];intro v c;obtain⟨x,_,rfl⟩:=a3.1 c;trivial
  have:=h.frame [] H.length rfl List.nodup_nil (by simp) (by simp) b (by simp);have e:cG (sig [] H.length) (args.map .p)=args.map .p:=by
   clear h b this hk
   induction args with
   |nil=>rfl
   |cons a r d=>simp only[a1,cG,ct,d]
  rwa [e]at this
 ·simpa[df,bk]using hk
theorem Np{f:am}{H H':aj}{K:AV->aj->Prop}{v:AV}{a b:PV}(h:de P f [] [.p a,.p b] H' v)(hk:K (ct (sig [] H.length) v) (H++H'.map (dh (sig [] H.length)))):jW P false f K [.p a,.p b] H:=cn (args:=[a,b]) h hk
def CM(P:ao)(T:ac)(f:Nat):Option (ac×jd):=match kindOf P T,P.underlying T with
 | .agg u,some (.struct _)=>((jg P u)[f]?).map fun F=>(u,kindOf P F)
 |_,_=>none
def sy(P:ao)(T:ac)(f:Nat)(x:AV):eC:=match CM P T f,x with
 |some (u,k),.p t=>match(bV t)[f]? with
  |some g=>some (aJ t=.agg u/\k=aJ g,{v:=.p g})
  |none=>none
 |_,_=>none
theorem IC{T:ac}{x:AV}{f:Nat}{K:aS->Prop}:(match kindOf P T,P.underlying T,x with
 | .agg u,some (.struct _),.p t=>aJ t=.agg u/\(match(bV t)[f]?,(jg P u)[f]? with
  |some g,some F=>kindOf P F=aJ g/\K {v:=.p g}
  |_,_=>False)
 |_,_,_=>False)=ba (sy P T f x) K:=by
 unfold sy CM;cases b:kindOf P T with
 |agg u=>cases c:P.underlying T with
  |none=>simp[ba]
  |some d=>cases d with
   |struct fs=>cases x with
    |p t=>cases hc:(jg P u)[f]?<;>cases a:(bV t)[f]?<;>simp[ba,a,hc,and_assoc]
    |_=>cases hc:(jg P u)[f]?<;>simp[ba,hc]
   |_=>simp[ba]
 |_=>simp[ba]
section fields
variable{dst:Option Tmp}{ty:Nat}{pos:String}{af:Array Edge}{g:Option (Nat×Bool)}{env:Env}{heap:aj}{L:St->Prop}{K:aS->Prop}{T:ac}{x:ab}{f:Nat}
theorem Vy:dU P ag ⟨dst,.field T x f,ty,pos,af,g⟩ L ⟨env,heap⟩ ()=cg (eA dst ⟨env,heap⟩ L) (sy P T f (ev env x)):=IC
theorem VU:dS P ag ⟨dst,.field T x f,ty,pos,af,g⟩ ⟨env,heap⟩ K ()=cg K (sy P T f (ev env x)):=IC
end fields
theorem xa{σ:Nat->Nat}{α:Type}{f:α->PV}:∀{l:List α},cG σ (l.map (AV.p∘f))=l.map (AV.p∘f)
 |[]=>rfl
 |a::l=>by simp only[a1,cG,xa (l:=l)];rfl
theorem TQ{σ:Nat->Nat}{α β:Type}{f:β->PV}{g:α->β}{l:List α}:cG σ (l.map ((AV.p∘f)∘g))=l.map ((AV.p∘f)∘g):=xa (f:=f∘g)
theorem aF2{α β:Type}{N:Nat×Nat->Prop}{f:β->PV}{g:α->β}{l:List α}:aU N (l.map ((AV.p∘f)∘g))=True:=O4 (f:=f∘g)
attribute [simp] Vy VU TQ aF2 SL QM aGf ct cG dh xa
end
section
variable{P:ao}{ag:am->Bool}
theorem I8{T:aj}:∀{h:aj},gH T h h=True
 |[]=>by simp[gH]
 |o::h=>by simp[gH,Kt,I8 (h:=h)]
theorem BG{T:aj}:∀{h k:aj},dv T (h++k)=(dv T h/\dv T k)
 |[],k=>by simp[dv]
 |o::h,k=>by simp[dv,BG (h:=h),and_assoc]
theorem aF3{N:Nat×Nat->Prop}{n:Nat}{v:PV}:aU N (be n (.p v))=True:=by
 rw[cK,eq_iff_iff,iff_true];intro x hx;rw[(List.mem_replicate.1 hx).2];trivial
theorem Vo{σ:Nat->Nat}{α:Type}{f:α->PV}{l:List α}:cG σ (l.map fun x=>.p (f x))=l.map fun x=>.p (f x):=xa (f:=f)
theorem o5{L:dD}{e:Env}{H:aj}(h:L.env=e)(a:gM H e):∀x,aD (aF H) (aN L.env x):=by rw[h];exact a.get
def dD.bz(L:dD):dD:={L with st:=.busy}
def dD.dn(L:dD)(j:Code):dD:={L with st:=.done,pending:=some j}
def dD.xh(L:dD):dD:={L with st:=.exhausted}
theorem Ef{L:dD}{e:Env}{H:aj}{j:Code}(h:L.env=e)(a:gM H e):∀x,aD (aF H) (aN (L.dn j).env x):=o5 h a
def Stream(P:ao)(g:am)(fi ca:List PV)(d:List (List PV)):Prop:=
 ∀(b k:Nat)(c:Nat->aj)(H':aj),k<=d.length->(∀i,i<=k->dv (c i) (c i)/\aD (aF (c i)) (.map b))->
  (∀i a,i<k->d[i]?=some a->fh P b (c i) (a.map .p) (c (i+1)) (.p (.bool true)))->
  (k=d.length/\H'=c k\/∃a,d[k]?=some a/\fh P b (c k) (a.map .p) H' (.p (.bool false)))->
  de P g (c 0) (fi.map .p++[.map b]++ca.map .p) H' (.p (.aA []))
theorem Xi{b:Nat}{args:List AV}{M:AV->aj->Prop}{heap:aj}:yI P heap M (.map b) args=∃H' v,fh P b heap args H' v/\M v H':=(rfl)
def sX(b:Nat)(L:dD)(N:Nat)(H':aj)(v:Bool)(e:Tg (b,L,N,H',v) bm)(s:Tg (b,L,N,H',v) St):Prop:=
 match e with
 | .normal=>v=true/\(St.heap s)[b]?=some (.loop L.bz)/\dd N ⟨[],(St.heap s).set b (.loop L)⟩ ⟨[],H'⟩
 | .exit id=>v=false/\(St.heap s)[b]?=some (.loop L.bz)/\dd N ⟨[],(St.heap s).set b (.loop (L.dn (.exit id)))⟩ ⟨[],H'⟩
 | .ret=>v=false/\(St.heap s)[b]?=some (.loop L.bz)/\dd N ⟨[],(St.heap s).set b (.loop (L.dn .ret))⟩ ⟨[],H'⟩
section
variable{b N:Nat}{L:dD}{H':aj}{v:Bool}{s:St}
theorem S2:sX b L N H' v .normal s=(v=true/\s.heap[b]?=some (.loop L.bz)/\dd N ⟨[],s.heap.set b (.loop L)⟩ ⟨[],H'⟩):=(rfl)
theorem Vq{id:Nat}:sX b L N H' v (.exit id) s=(v=false/\s.heap[b]?=some (.loop L.bz)/\dd N ⟨[],s.heap.set b (.loop (L.dn (.exit id)))⟩ ⟨[],H'⟩):=(rfl)
theorem aFX:sX b L N H' v .ret s=(v=false/\s.heap[b]?=some (.loop L.bz)/\dd N ⟨[],s.heap.set b (.loop (L.dn .ret))⟩ ⟨[],H'⟩):=(rfl)
end
def Dl(P:ao)(ag:am->Bool)(q:Cx)(b:Nat)(c:Code)(L:dD)(H':aj)(v:Bool)(e:Tg (q,b,c,L,H',v) bm)(s:Tg (q,b,c,L,H',v) St):Prop:=
 match e with
 | .normal=>(St.heap s)[b]?=some (.loop L)/\eD P ag q c (sX b L q.2 H' v) ⟨St.env s,(St.heap s).set b (.loop L.bz)⟩
 |_=>False
theorem S4{q:Cx}{b:Nat}{c:Code}{L:dD}{H':aj}{v:Bool}{s:St}:Dl P ag q b c L H' v .normal s=(s.heap[b]?=some (.loop L)/\eD P ag q c (sX b L q.2 H' v) ⟨s.env,s.heap.set b (.loop L.bz)⟩):=(rfl)
theorem nN(ag:am->Bool)(r:P.follows .mixedOrders=true){b n:Nat}{L:dD}{H H':aj}{args:List AV}{v:Bool}{j:List Tmp}{a c:Code}{env:Env}
 (d:L=⟨.ready,none,n,j,a,c,env⟩)(o:H[b]?=some (.loop L))(q:args.length=j.length)
 (t:(j.all (fun x=>decide (x<n))&&codeOk fit n a&&codeOk fit n c)=true)
 (u:eD P ag (n,H.length) a (Dl P ag (n,H.length) b c L H' v) ⟨pX j args env,H⟩):fh P b H args H' (.p (.bool v)):=by
 refine NR ag r o (by rw[d];exact q) (by rw[d];exact t) ?_;unfold xA;have e1:L.n=n:=by rw[d]
 have e2:L.assign=a:=by rw[d]
 have e3:L.body=c:=by rw[d]
 have e4:L.params=j:=by rw[d]
 have e5:L.env=env:=by rw[d]
 have k:L.st=.ready:=by rw[d]
 rw[e1,e2,e3,e4,e5];refine kW (Q:=Dl P ag (n,H.length) b c L H' v) _ (fun e s h=>?_) u;cases e with
 |normal=>
  obtain⟨l,m⟩:=h;simp only[wL,l];refine⟨k,kW (Q:=sX b L H.length H' v) _ (fun e s h=>?_) m⟩;cases e with
  |normal=>
   obtain⟨rfl,f,g⟩:=h;have i:s.heap[b]?=some (.loop L.bz):=f;simp only[rG,i,gE];refine⟨rfl,?_⟩;have:({L.bz with st:=LoopState.ready,pending:=none}:dD)=L:=by subst d;rfl
   simpa[this]using g
  |exit id=>
   obtain⟨rfl,f,g⟩:=h;have i:s.heap[b]?=some (.loop L.bz):=f;simp only[rG,i,gE];exact⟨rfl,g⟩
  |ret=>
   obtain⟨rfl,f,g⟩:=h;have i:s.heap[b]?=some (.loop L.bz):=f;simp only[rG,i,gE];exact⟨rfl,g⟩
 |exit id=>exact h.elim
 |ret=>exact h.elim
theorem rf{f:ab}{h:Array Tmp}{a c:Code}{Q:bm->St->Prop}{env:Env}{heap:aj}{q:Cx}{g:am}{fi ca:List PV}{n:List (List PV)}(aK:Stream P g fi ca n)(hf:ev env f= .p (.func g fi ca))(hq:q.2<=heap.length)
 (X:dD->Nat->aj)(k:Nat)(hk:k<=n.length)(u:∀L,X L 0=heap++[.loop L])
 (hx:∀L,L=⟨.ready,none,q.1,h.toList,a,c,env⟩->∀i,i<=k->(X L i)[heap.length]?=some (.loop L)/\gM (X L i) env/\(gM (X L i) env->(∀x,aD (aF (X L i)) (aN L.env x))->dv (X L i) (X L i)))
 (t:∀L,L=⟨.ready,none,q.1,h.toList,a,c,env⟩->∀i x,i<k->n[i]?=some x->fh P heap.length (X L i) (x.map .p) (X L (i+1)) (.p (.bool true)))
 (y:∀L,L=⟨.ready,none,q.1,h.toList,a,c,env⟩->(k=n.length/\Q .normal ⟨env,(X L k).set heap.length (.loop L.xh)⟩)\/
  ∃x j l,n[k]?=some x/\l[heap.length]?=some (.loop (L.dn j))/\fh P heap.length (X L k) (x.map .p) l (.p (.bool false))/\iW Q (some j) ⟨env,l.set heap.length (.loop (L.dn j).xh)⟩):
 eD P ag q (.rangeFunc f h a c) Q ⟨env,heap⟩:=by
 obtain⟨L,b⟩:∃L:dD,L=⟨.ready,none,q.1,h.toList,a,c,env⟩:=⟨_,rfl⟩
 have s:=aK heap.length k (X L);refine⟨hq,?_⟩;show iR P (ev env f) heap.length (heap++[.loop ⟨.ready,none,q.1,h.toList,a,c,env⟩]) (gS heap.length env Q);rw[hf];simp only[iR];rw[<-b,<-u L];have r:∀i,i<=k->dv (X L i) (X L i)/\aD (aF (X L i)) (.map heap.length):=by
  intro i hi;obtain⟨m,d,o⟩:=hx L b i hi;have e5:L.env=env:=by rw[b]
  refine⟨o d (by rw[e5];exact d.get),?_⟩;simp only[aD,aF,m];exact⟨_,rfl,by simp[Obj.has]⟩
 rcases y L b with⟨m,d⟩|⟨x,j,l,m,d,o,v⟩
 ·refine⟨_,_,s (X L k) hk r (t L b) (.inl ⟨m,rfl⟩),?_⟩;have w:=(hx L b k (bi k)).1;simp only[gS,w];refine⟨by rw[b];simp,?_⟩;have:L.pending=none:=by rw[b]
  simp only[this,iW];have e:L.xh={L with st:=.exhausted}:=rfl;rw[this]at e;rw[e]at d;exact d
 ·refine⟨_,_,s l hk r (t L b) (.inr ⟨x,m,o⟩),?_⟩;simp only[gS,d];exact⟨by simp[dD.dn],v⟩
section Ya
variable{f:am}{H0 bR H:aj}{fV args:List AV}{v0:AV}{K:AV->aj->Prop}{L:aS->Prop}
theorem X9(h:de P f H0 fV bR v0)(bs:List Nat)(e:bs.length=H0.length)(i:bs.Nodup)(g:∀b∈bs,b<H.length)(d:H0.length<=bR.length)(a:aU (aF H0) fV)(j:dv H0 H0)(c:cG (sig bs H.length) fV=args):
 qI P f args H.length (df bs H.length H0 bR v0):=by
 have:=h.frame bs H.length e i g d a j.get
 rwa [c]at this
theorem cf(h:de P f H0 fV bR v0)(bs:List Nat)(hk:K (ct (sig bs H.length) v0) (bk H (bs.zip ((bR.take H0.length).map (dh (sig bs H.length))))++(bR.drop H0.length).map (dh (sig bs H.length))))(ak:∀p∈bs.zip (H0.map (dh (sig bs H.length))),H[p.1]?=some p.2:=by simp[sig])(aI:∀p∈bs.zip ((bR.take H0.length).map (dh (sig bs H.length))),p.1<H.length/\p.2≠ .hole:=by simp[sig])
 (e:bs.length=H0.length:=by simp)(i:bs.Nodup:=by simp)(g:∀b∈bs,b<H.length:=by simp)(d:H0.length<=bR.length:=by simp)(a:aU (aF H0) fV:=by simp)(hr:dv H0 H0:=by simp)(c:cG (sig bs H.length) fV=args:=by simp[sig]):jW P false f K args H:=
 .inr ⟨rfl,.inr (.inr (.inl ⟨_,X9 h bs e i g d a hr c,⟨ak,aI⟩,hk⟩))⟩
end Ya
section bytes
variable{dst:Option Tmp}{ty:Nat}{pos:String}{af:Array Edge}{g:Option (Nat×Bool)}{env:Env}{heap:aj}{L:St->Prop}{K:aS->Prop}
theorem XG{x:ab}{d:Array ac}{b ar ai off len:Nat}{k:AK}{es:List AV}(hx:ev env x= .sl b ar ai off len)(f:heap[b]?=some (.arr k ar ai es))(e:0<len)(h:off+len<=es.length)
 (hk:K {v:=.bQ b ar ai off [],ak:=[(b,.arr k ar ai es)]}):dS P ag ⟨dst,.call {callee:=.builtin .unsafeSliceData,args:=#[x],argTypes:=d},ty,pos,af,g⟩ ⟨env,heap⟩ K ():=by
 show(match ev env x with
  | .p .aL=>K {v:=.p .dJ}
  | .sl b ar ai off len=>(match heap[b]? with
   |some (.arr k c a es)=>ar=c/\ai=a/\((k.gr=true/\es=[]/\K {v:=.p .dJ,ak:=[(b,.arr k c a es)]})\/(0<len/\off+len<=es.length/\K {v:=.bQ b ar ai off [],ak:=[(b,.arr k c a es)]}))
   |_=>False)
  |_=>False)
 rw[hx];simp only[f];exact⟨trivial,trivial,.inr ⟨e,h,hk⟩⟩
theorem XI{x y:ab}{a:Array ac}{b ar:Nat}{m:Int}{es:List AV}{l:List Nat}(hx:ev env x= .bQ b ar 1 0 [])(o:ev env y= .p (.int .i64 m))(i:heap[b]?=some (.arr .bytes ar 1 es))(c:0<m)(k:m.toNat<=es.length)(d:m<=9223372036854775807)
 (f:a.size=2)(e:ptrTo P (a.getD 0 0)=some Gl.u8)(n:P.cellsOf Gl.u8=1)(j:bytesOf (es.take m.toNat)=some l)
 (hk:K {v:=.p (.str l),ak:=[(b,.arr .bytes ar 1 es)],aI:=[(b,.dead)]}):dS P ag ⟨dst,.call {callee:=.builtin .unsafeString,args:=#[x,y],argTypes:=a},ty,pos,af,g⟩ ⟨env,heap⟩ K ():=by
 have h:fu P ag ⟨dst,.call {callee:=.builtin .unsafeString,args:=#[x,y],argTypes:=a},ty,pos,af,g⟩ (ev env) heap K:=by
  unfold fu;simp only[a1,List.map_nil,hx,o,i];exact⟨trivial,trivial,trivial,trivial,c,k,d,f,e,n,by rw[j];exact hk⟩
 exact h
end bytes
theorem rf2{f:ab}{h:Array Tmp}{a c:Code}{Q:bm->St->Prop}{env:Env}{heap:aj}{q:Cx}{g:am}{fi ca:List PV}{b:List (List PV)}(aK:Stream P g fi ca b)(hf:ev env f= .p (.func g fi ca))(hq:q.2<=heap.length)
 (X F:dD->Nat->aj)(okB:Nat->Bool)(j:Code)(k:Nat)(hk:k<=b.length)(u:∀i,i<k->okB i=true)(r:k=b.length\/(k<b.length/\okB k=false))(m:∀L,X L 0=heap++[.loop L])
 (hx:∀L,L=⟨.ready,none,q.1,h.toList,a,c,env⟩->∀i,i<=k->(X L i)[heap.length]?=some (.loop L)/\gM (X L i) env/\(gM (X L i) env->(∀x,aD (aF (X L i)) (aN L.env x))->dv (X L i) (X L i)))
 (l:∀L,L=⟨.ready,none,q.1,h.toList,a,c,env⟩->∀i x,i<=k->b[i]?=some x->fh P heap.length (X L i) (x.map .p) (if okB i=true then X L (i+1)else F L (i+1)) (.p (.bool (okB i))))
 (n:∀L,(F L (k+1))[heap.length]?=some (.loop (L.dn j)))
 (s:k=b.length->∀L,Q .normal ⟨env,(X L k).set heap.length (.loop L.xh)⟩)
 (v:k<b.length->∀L,iW Q (some j) ⟨env,(F L (k+1)).set heap.length (.loop (L.dn j).xh)⟩):
 eD P ag q (.rangeFunc f h a c) Q ⟨env,heap⟩:=by
 refine rf aK hf hq X k hk m hx (fun L e i x hi t=>?_) (fun L e=>?_)
 ·have:=l L e i x (by omega) t;rw[u i hi]at this;exact this
 ·rcases r with d|⟨d,o⟩
  ·exact .inl ⟨d,s d L⟩
  ·right;refine⟨b[k],j,F L (k+1),ax d,n L,?_,v d L⟩;have:=l L e k b[k] (bi _) (ax d);rw[o]at this;exact this
attribute [simp] Vo aF3 I8 BG S2 Vq aFX S4 Xi pX
end
section
variable{P:ao}{ag:am->Bool}{w:av}{aa ah:Nat->Prop}{β:Bd}{H:aj}
def mq(K:Nat->Bool)(H:aj):aj:=H.mapIdx fun i o=>if K i then .dead else o
theorem A2{K:Nat->Bool}{b:Nat}:(mq K H)[b]?=(H[b]?).map fun o=>if K b then .dead else o:=by simp[mq]
theorem kC{K:Nat->Bool}{b:Nat}{o:Obj}(h:(mq K H)[b]?=some o):∃a,H[b]?=some a/\((K b=true/\o=.dead)\/(K b=false/\o=a)):=by
 rw[A2,Option.map_eq_some_iff]at h;obtain⟨a,d,c⟩:=h;refine⟨a,d,?_⟩;cases hk:K b<;>simp[hk]at c
 ·exact .inr ⟨rfl,c.symm⟩
 ·exact .inl ⟨rfl,c.symm⟩
theorem BA{K:Nat->Bool}{x:Nat×Nat}(h:aF H x):aF (mq K H) x:=by
 obtain⟨o,a,b⟩:=h;refine⟨if K x.1 then .dead else o,by rw[A2,a];rfl,?_⟩
 split
 ·trivial
 ·exact b
theorem Ax{K:Nat->Bool}:cd β H β (mq K H):=by
 refine⟨fun b _ h=>⟨?_,rfl⟩,fun b _ h=>⟨?_,rfl⟩,fun b _ h=>⟨?_,rfl⟩,fun b ar ai k e _ h=>⟨k,e,?_,bi _,Iff.rfl,fun _=>⟨rfl,rfl⟩⟩,fun b _ h=>⟨?_,rfl⟩⟩
 ·obtain⟨fz,t,h⟩:=h;obtain⟨d,c,a⟩:=kC h;rcases a with⟨_,a⟩|⟨_,rfl⟩
  ·cases a
  ·exact⟨fz,t,c⟩
 ·obtain⟨s,q,h⟩:=h;obtain⟨d,c,a⟩:=kC h;rcases a with⟨_,a⟩|⟨_,rfl⟩
  ·cases a
  ·exact⟨s,q,c⟩
 ·obtain⟨s,q,h⟩:=h;obtain⟨d,c,a⟩:=kC h;rcases a with⟨_,a⟩|⟨_,rfl⟩
  ·cases a
  ·exact⟨s,q,c⟩
 ·obtain⟨d,c,a⟩:=kC h;rcases a with⟨_,a⟩|⟨_,rfl⟩
  ·cases a
  ·exact c
 ·obtain⟨L,h⟩:=h;obtain⟨d,c,a⟩:=kC h;rcases a with⟨_,a⟩|⟨_,rfl⟩
  ·cases a
  ·exact⟨L,c⟩
def zp(K:Nat->Bool)(aa:Nat->Prop)(β:Bd)(H:aj)(k:Nat):Prop:=aa k\/∃(b:Nat)(o:Obj),H[b]?=some o/\o.live/\K b=true/\β.al b=k
theorem bN.kill(K:Nat->Bool)(a:bN P w aa β H ah):bN P w aa β (mq K H) ah:=by
 refine⟨fun b o e=>?_,fun b b' o o' e n f g m l=>?_,fun b o e=>?_,a.bL,a.dY,a.gV⟩
 ·obtain⟨i,c,d⟩:=kC e;rcases d with⟨_,rfl⟩|⟨_,rfl⟩
  ·trivial
  ·exact fe.carry (fun _ x=>x) (fun _ _=>rfl) Ax (a.refs b o c) (fun _=>⟨rfl,rfl,rfl⟩) (fun _ _ h=>h) (a.cr b o c)
 ·obtain⟨i,c,d⟩:=kC e;obtain⟨p,j,k⟩:=kC n;rcases d with⟨_,rfl⟩|⟨_,rfl⟩
  ·exact f.elim
  rcases k with⟨_,rfl⟩|⟨_,rfl⟩
  ·exact g.elim
  exact a.inj b b' _ _ c j f g m l
 ·obtain⟨i,c,d⟩:=kC e;rcases d with⟨_,rfl⟩|⟨_,rfl⟩
  ·trivial
  ·exact Obj.uc (fun _ h=>BA h) (a.refs b o c)
theorem bN.aEO(K:Nat->Bool)(a:bN P w aa β H ah):bN P w (zp K aa β H) β (mq K H) ah:=by
 have hk:=a.kill K;have hi:∀k,aa k->zp K aa β H k:=fun k h=>.inl h;refine⟨fun b o c=>?_,fun b b' o o' c r d p q n=>hk.inj b b' o o' c r d p (fun h=>q (hi _ h)) n,hk.refs,fun k h=>?_,a.dY,⟨fun g=>aB.mono hi (fun _ _=>rfl) _ _ (a.gV.val g),fun g cs h=>⟨hi _ (a.gV.raw g cs h).1,(a.gV.raw g cs h).2⟩⟩⟩
 ·have f:=c;obtain⟨t,j,l⟩:=kC c;rcases l with⟨_,rfl⟩|⟨s,rfl⟩
  ·trivial
  ·refine fe.carry hi (fun _ _=>rfl) (cd.refl β _) (hk.refs b o f) (fun _=>⟨rfl,rfl,rfl⟩) (fun d fz h=>?_) (hk.cr b o f);cases fz with
   |true=>exact hi _ h
   |false=>
    refine⟨?_,h.2⟩;rintro(m|⟨e,i,g1,g2,g3,g4⟩)
    ·exact h.1 m
    ·have:=a.inj e b i o g1 j g2 d (by rw[g4];exact h.1) g4;rw[this,s]at g3;cases g3
 ·rcases h with h|⟨e,i,g1,g2,g3,rfl⟩
  ·exact a.bL k h
  ·exact a.ma g1 g2
theorem fe.held{b:Nat}{o:Obj}(h:fe P w aa β H ah b o)(a:o.live):aa (β.al b)\/¬ah (β.al b):=by
 by_cases hi:aa (β.al b)
 ·exact .inl hi
 ·exact .inr (h.mut a hi)
theorem de.pure{f:am}{args:List AV}{H':aj}{v:AV}{n:Nat}{p:PV}(K:Nat->Bool)(h:de P f H args H' v)(C:er (mq (fun i=>!K i) H') n v=some p)(B:∀b L,K b=true->H[b]?≠some (.loop L)):
 de P f H args (mq K H') (.p p):=by
 refine⟨h.1,fun w aa ah β t E z F=>(h.2 w aa ah β t E z F).mono ?_⟩;rintro e w' ⟨j,aG,aE,rfl,d,G,r⟩;have q:=d.rel;have A:=q.kill (fun i=>!K i);have I:aw P w' aE aG (mq (fun i=>!K i) H') v j:=aw.mono (fun _ x=>x) (fun _ _=>rfl) Ax _ _ r G;have D:=wM A n v p C (aD.mono (fun _ h=>BA h) v r) j I;refine⟨j,aG,zp K aE aG H',rfl,⟨fun k hk=>.inl (d.bL k hk),?_,d.ext,?_,q.aEO K,fun x hx=>BA (d.eQ x hx),?_⟩,?_,trivial⟩
 ·rintro k (hk|⟨b,o,g1,g2,g3,rfl⟩)
  ·exact d.fresh k hk
  ·rcases(q.cr b o g1).held g2 with h|h
   ·exact d.fresh _ h
   ·exact .inr h
 ·have aK:=d.step;have hk:=Ax (K:=K) (β:=aG) (H:=H');refine⟨fun b a c=>?_,fun b a c=>?_,fun b a c=>?_,fun b ar ai k es a c=>?_,fun b a c=>?_⟩
  ·exact aK.box b a (hk.box b (d.eQ _ a) c).1
  ·exact aK.it b a (hk.it b (d.eQ _ a) c).1
  ·exact aK.map b a (hk.map b (d.eQ _ a) c).1
  ·have u:fg H' b ar ai k es:=by
    obtain⟨M,l,g⟩:=kC c;rcases g with⟨_,g⟩|⟨_,rfl⟩
    ·cases g
    ·exact l
   exact aK.arr b ar ai k es a u
  ·exact aK.loop b a (hk.loop b (d.eQ _ a) c).1
 ·rintro b ⟨L,c⟩;obtain⟨s,y⟩:=d.loop b ⟨L,c⟩;have m:K b=false:=by
   cases m:K b with
   |false=>rfl
   |true=>exact(B b L m c).elim
  exact⟨s,by rw[A2,y];simp[m]⟩
 ·show aB P w' _ p j;refine aB.mono ?_ (fun _ _=>rfl) _ _ D;rintro k (hk|⟨b,o,g1,g2,rfl⟩)
  ·exact .inl hk
  ·obtain⟨M,l,g⟩:=kC g1;rcases g with⟨_,rfl⟩|⟨J,rfl⟩
   ·exact g2.elim
   ·exact .inr ⟨b,o,l,g2,by simpa using J,rfl⟩
end
section
variable{P:ao}{w:av}{aa ah:Nat->Prop}{β:Bd}
theorem rz{t t':AV}{r:aj}:cd β (.box false t::r) β (.box false t'::r):=by
 refine⟨fun b _ h=>⟨?_,rfl⟩,fun b _ h=>⟨?_,rfl⟩,fun b _ h=>⟨?_,rfl⟩,fun b ar ai k a _ h=>⟨k,a,?_,bi _,Iff.rfl,fun _=>⟨rfl,rfl⟩⟩,fun b _ h=>⟨?_,rfl⟩⟩
 ·cases b with
  |zero=>exact⟨false,t,rfl⟩
  |succ b=>exact h
 ·obtain⟨s,q,h⟩:=h;cases b with
  |zero=>simp at h
  |succ b=>exact⟨s,q,h⟩
 ·obtain⟨s,q,h⟩:=h;cases b with
  |zero=>simp at h
  |succ b=>exact⟨s,q,h⟩
 ·cases b with
  |zero=>simp[fg]at h
  |succ b=>exact h
 ·obtain⟨L,h⟩:=h;cases b with
  |zero=>simp at h
  |succ b=>exact⟨L,h⟩
theorem pK{t t':AV}{r:aj}{x:Nat×Nat}(h:aF (.box false t::r) x):aF (.box false t'::r) x:=by
 obtain⟨o,a,c⟩:=h;obtain⟨b,v⟩:=x;cases b with
 |zero=>exact⟨_,rfl,trivial⟩
 |succ b=>exact⟨o,a,c⟩
theorem bN.swap{t d:AV}{r:aj}(c:bN P w aa β (.box false t::r) ah)(hc:∀cs,bh P w aa β (.box false t::r) t cs->bh P w aa β (.box false t::r) d cs)(l:∀T,iY T (ad d)=true)
 (g:∀n,aD n t->aD n d):bN P w aa β (.box false d::r) ah:=by
 refine⟨fun b o a=>?_,fun b b' o o' a s f p q m=>?_,fun b o a=>?_,c.bL,c.dY,c.gV⟩
 ·cases b with
  |zero=>
   simp at a;subst a;obtain⟨cs,T,i,j,k,y,z⟩:=c.cr 0 _ rfl;have u:=c.refs 0 _ rfl;exact⟨cs,T,i,bh.mono (fun _ x=>x) (fun _ _=>rfl) rz _ _ (g _ u) (hc _ j),k,(fun h=>absurd h (by simp)),l T⟩
  |succ b=>exact fe.carry (fun _ x=>x) (fun _ _=>rfl) rz (c.refs (b+1) o a) (fun _=>⟨rfl,rfl,rfl⟩) (fun _ _ h=>h) (c.cr (b+1) o a)
 ·have key:∀{b:Nat}{o:Obj},(Obj.box false d::r)[b]?=some o->o.live->∃e,(Obj.box false t::r)[b]?=some e/\e.live:=by
   intro b o a f;cases b with
   |zero=>exact⟨_,rfl,trivial⟩
   |succ b=>exact⟨o,a,f⟩
  obtain⟨e,k1,k2⟩:=key a f;obtain⟨v,k3,k4⟩:=key s p;exact c.inj b b' e v k1 k3 k2 k4 q m
 ·cases b with
  |zero=>
   simp at a;subst a;exact aD.mono (fun _ h=>pK h) _ (g _ (c.refs 0 _ rfl))
  |succ b=>exact Obj.uc (fun _ h=>pK h) (c.refs (b+1) o a)
theorem Ji{H:aj}{u:ac}{n:Nat}(f:du P u=some [n]){t:AV}{cs:List Value}:bh P w aa β H (.st u [t]) cs↔bh P w aa β H t cs/\cs.length=n:=by
 simp only[bh,f,Option.some.injEq];constructor
 ·rintro⟨l,g,rfl,a,rfl⟩;simp only[bG]at a;obtain⟨c,d,rfl,b,e,rfl⟩:=a;simpa using⟨b,e⟩
 ·rintro⟨a,b⟩;exact⟨[n],[cs],rfl,by simp only[bG];exact⟨cs,[],rfl,a,b,rfl⟩,by simp⟩
theorem de.wrap{f:am}{u:ac}{n:Nat}{t i:AV}{r j:aj}{args:List AV}{v:AV}(q:du P u=some [n])(a:∀T,iY T (.agg u)=true)(F:∀T,iY T (ad t)=true)(G:∀(w:av)(aa:Nat->Prop)(β:Bd)(H:aj)(cs:List Value),bh P w aa β H i cs->cs.length=n)
 (h:de P f (.box false t::r) (.ptr 0 []::args) (.box false i::j) v):de P f (.box false (.st u [t])::r) (.ptr 0 [(u,0)]::args) (.box false (.st u [i])::j) v:=by
 refine⟨h.1,fun w aa ah β O J D y=>?_⟩;have K:bN P w aa β (.box false t::r) ah:=J.swap (fun cs h=>((Ji q).1 h).1) F (fun n h=>by simpa[aD,aU]using h);obtain⟨x,xs,rfl,h1,C⟩:=D;have E:bD P w aa β (.box false t::r) (.ptr 0 []::args) (x::xs):=by
  refine⟨x,xs,rfl,?_,bD.mono (fun _ x=>x) (fun _ _=>rfl) rz _ _ y.2 C⟩;obtain⟨q1,al,off,o,s,N,q4⟩:=h1;refine⟨q1,al,off,0,s,rfl,fun _=>?_⟩;have I:o=0:=by simpa[fS,q]using N.symm
  have:=q4 (.inl ⟨false,_,rfl⟩);rw[I]at this;exact this
 refine(h.2 w aa ah β (x::xs) K E ⟨⟨_,rfl,trivial⟩,aU.mono (fun _ h=>pK h) _ y.2⟩).mono ?_;rintro e w' ⟨B,aG,aE,rfl,g,M,z⟩;refine⟨B,aG,aE,rfl,⟨g.bL,g.fresh,g.ext,?_,?_,fun x hx=>pK (g.eQ x (pK hx)),?_⟩,aw.mono (fun _ x=>x) (fun _ _=>rfl) rz _ _ z M,aD.mono (fun _ h=>pK h) _ z⟩
 ·have aK:=g.step;have m:=rz (β:=β) (t:=.st u [t]) (t':=t) (r:=r);have p:=rz (β:=aG) (t:=i) (t':=.st u [i]) (r:=j);have d:∀x,aF (.box false (.st u [t])::r) x->aF (.box false t::r) x:=fun x h=>pK h;have l:∀x,aF (.box false t::r) x->aF (.box false i::j) x:=g.eQ;refine⟨fun b a c=>?_,fun b a c=>?_,fun b a c=>?_,fun b ar ai k es a c=>?_,fun b a c=>?_⟩
  ·obtain⟨k1,k2⟩:=p.box b (l _ (d _ a)) c;obtain⟨k3,k4⟩:=aK.box b (d _ a) k1;exact⟨(m.box b a k3).1,k4⟩
  ·obtain⟨k1,k2⟩:=p.it b (l _ (d _ a)) c;obtain⟨k3,k4⟩:=aK.it b (d _ a) k1;exact⟨(m.it b a k3).1,k4⟩
  ·obtain⟨k1,k2⟩:=p.map b (l _ (d _ a)) c;obtain⟨k3,k4⟩:=aK.map b (d _ a) k1;exact⟨(m.map b a k3).1,k4⟩
  ·have k1:fg (.box false i::j) b ar ai k es:=by
    cases b with
    |zero=>simp[fg]at c
    |succ b=>exact c
   obtain⟨k0,gq,q1,s⟩:=aK.arr b ar ai k es (d _ a) k1;refine⟨k0,gq,?_,s⟩;cases b with
   |zero=>simp[fg]at q1
   |succ b=>exact q1
  ·obtain⟨k1,k2⟩:=p.loop b (l _ (d _ a)) c;obtain⟨k3,k4⟩:=aK.loop b (d _ a) k1;exact⟨(m.loop b a k3).1,k4⟩
 ·exact g.rel.swap (fun cs h=>(Ji q).2 ⟨h,G _ _ _ _ _ h⟩) a (fun n h=>by simpa[aD,aU]using h)
 ·rintro b ⟨L,c⟩;have k1:gD (.box false t::r) b:=by
   cases b with
   |zero=>simp at c
   |succ b=>exact⟨L,c⟩
  obtain⟨A,k2⟩:=g.loop b k1;cases b with
  |zero=>simp at k2
  |succ b=>exact⟨A,k2⟩
end
section
variable{P:ao}{w:av}{aa ah:Nat->Prop}{β:Bd}
def sG(n:Nat):aj:=be n .dead
theorem mM{n b:Nat}{o:Obj}(h:(sG n)[b]?=some o):o=.dead:=by
 simp only[sG,a2]at h
 split at h
 ·injection h with h;exact h.symm
 ·cases h
theorem de.cut{f:am}{H:aj}{args:List AV}{n:Nat}{p:PV}(h:de P f H args (sG n) (.p p)):de P f H args (sG H.length) (.p p):=by
 refine⟨h.1,fun w aa ah β g u q v=>(h.2 w aa ah β g u q v).mono ?_⟩;rintro e w' ⟨i,aG,aE,rfl,a,y,z⟩;have no:∀{m b:Nat}{o:Obj},(sG m)[b]?=some o->o.live->False:=fun h d=>by rw[mM h]at d;exact d
 refine⟨i,aG,aE,rfl,⟨a.bL,a.fresh,a.ext,⟨?_,?_,?_,?_,?_⟩,⟨fun b o c=>by rw[mM c];trivial,fun b b' o o' c _ d=>(no c d).elim,fun b o c=>by rw[mM c];trivial,a.rel.bL,a.rel.dY,a.rel.gV⟩,?_,?_⟩,y,trivial⟩
 ·rintro b _ ⟨fz,t,h⟩;cases mM h
 ·rintro b _ ⟨fz,t,h⟩;cases mM h
 ·rintro b _ ⟨fz,t,h⟩;cases mM h
 ·intro b ar ai k es _ h;cases mM h
 ·rintro b _ ⟨L,h⟩;cases mM h
 ·rintro x ⟨o,j,_⟩;have s:=(ay.1 j).1;exact⟨.dead,by rw[sG,a2,if_pos s],trivial⟩
 ·intro b r;obtain⟨L,l⟩:=a.loop b r;cases mM l
theorem de.cL{f:am}{H H':aj}{args:List AV}{v v':PV}(h:de P f H args H' (.p v))(k:Wk v v'):de P f H args H' (.p v'):=by
 refine⟨h.1,fun w aa ah β a i d j=>(h.2 w aa ah β a i d j).mono ?_⟩;rintro e w' ⟨b,aG,aE,rfl,g,c,l⟩;exact⟨b,aG,aE,rfl,g,aB.cL _ _ _ k c,trivial⟩
end
section
variable{P:ao}
def yC(P:ao)(a:List ap)(N:Nat)(Q:AV->aj->Prop)(e:Tg (a,N,Q) bm)(s:Tg (a,N,Q) St):Prop:=
 (match e with
  | .exit _=>False
  |_=>True)/\∃vs,fC P s a=some vs/\∃H',Q (oneOf vs) H'/\(H'=St.heap s\/(dd N s ⟨[],H'⟩/\aD (aF H') (oneOf vs)))
theorem TW{a:List ap}{N:Nat}{Q:AV->aj->Prop}{s:St}:yC P a N Q .ret s=∃vs,fC P s a=some vs/\∃H',Q (oneOf vs) H'/\(H'=s.heap\/(dd N s ⟨[],H'⟩/\aD (aF H') (oneOf vs))):=by simp[yC]
theorem Rz{a:List ap}{N:Nat}{Q:AV->aj->Prop}{s:St}:yC P a N Q .normal s=∃vs,fC P s a=some vs/\∃H',Q (oneOf vs) H'/\(H'=s.heap\/(dd N s ⟨[],H'⟩/\aD (aF H') (oneOf vs))):=by simp[yC]
attribute [simp] TW Rz
end
section
variable{P:ao}
theorem au.heap{f:am}{vs j:List PV}{v:PV}{H H1:aj}{args:List AV}(h:au P f vs v)(g:Enters P f)(o:jH H args=some (j,H1))(l:bw j vs:=by first|exact bw.refl _|simp):de P f H args H1 (.p v):=by
 refine⟨g,fun w aa ah β x u r q=>?_⟩;obtain⟨b,a,i⟩:=AO o u r q;rcases h.cL l (Wk.refl _)with m|n
 ·intro cs;obtain⟨e,w',k,⟨c,aE,he,m1,m2,m3,m4,m5,m6,m7⟩,aK,s,t⟩:=m.2 w b _ a.rel.bL a.rel.gV i cs;subst he;exact⟨_,w',k,⟨c,β,aE,rfl,a.trans (a.rel.later m1 m2 m3 m4 m5 m6),by simpa[aw]using m7,by simp[aD]⟩,aK,s,t⟩
 ·obtain⟨c,d,_⟩:=n w b _ i;rw[g]at d;cases d
end
section
variable{P:ao}{ag:am->Bool}
theorem zQ(H:aj):(fA H).map (·.1)=a7 H.length:=by
 rw[fA,List.map_fst_zip];simp
theorem PL{H a:aj}(f:a.length=H.length):bk H (fA a)=a:=by
 have d:((fA a).map (·.1)).Nodup:=by rw[zQ];exact aT
 refine a9 fun i=>?_
 by_cases hi:i<a.length
 ·have c:(i,a[i])∈fA a:=by
   rw[fA,a5];exact⟨i,by simp;exact hi,by rw[bb];simp⟩
  rw[sf d _ c (by simp only;omega),ax hi]
 ·have b:(bk H (fA a))[i]?=H[i]?:=pQ fun p e=>by
   have:p.1∈(fA a).map (·.1):=List.mem_map_of_mem e
   rw[zQ,List.mem_range]at this;omega
  rw[b,a4 (by omega),a4 (by omega)]
end
section
variable{P:ao}{ag:am->Bool}
theorem fh.XX{b:Nat}{H a:aj}{args:List AV}{v:AV}(h:fh P b H args a v)(g:H.length<=a.length)(d:aU (aF H) args)(j:dv H H):
 nw P b args H.length {v:=v,ak:=fA H,aI:=fA (a.take H.length),aQ:=a.drop H.length}:=by
 have hf:=h.frame (a7 H.length) H.length (by simp) aT (fun b f=>by simpa using f) g d j.get;rw[yw]at hf;have e:df (a7 H.length) H.length H a v={v:=v,ak:=fA H,aI:=fA (a.take H.length),aQ:=a.drop H.length}:=by
  have c:(a.take H.length).length=H.length:=by rw[a0];omega
  simp only[df,yw,uV];rw[show(dh fun i=>i)=id from funext M5,a6,a6,a6,fA,fA,c]
 rw[e,n7]at hf;exact hf
open Classical in
noncomputable def qN(H H2:aj):List (Nat×Obj):=(fA (H2.take H.length)).filter fun p=>decide (H[p.1]?≠some p.2)
open Classical in
theorem vL{H H2:aj}{p:Nat×Obj}:p∈qN H H2↔p∈fA (H2.take H.length)/\H[p.1]?≠some p.2:=by
 simp[qN,List.mem_filter]
theorem DP{H:aj}{i:Nat}{o:Obj}(h:H[i]?=some o):(i,o)∈fA H:=by
 have hi:=(ay.1 h).1;rw[fA,a5];refine⟨i,by simp;exact hi,?_⟩;rw[bb,List.getElem_range];rw[ax hi]at h;injection h with h
 rw[h]
theorem DB(H:aj):((fA H).map (·.1)).Nodup:=by rw[zQ];exact aT
theorem PI(H a:aj):((qN H a).map (·.1)).Nodup:=by
 refine List.Nodup.sublist ?_ (DB (a.take H.length));exact List.Sublist.map _ List.filter_sublist
theorem DF{H a c:aj}(n:H.length<=a.length)(h:∀i,i<H.length->c[i]?=H[i]?):bk c (qN H a)=bk c (fA (a.take H.length)):=by
 refine a9 fun i=>?_;have m:(a.take H.length).length=H.length:=by rw[a0];omega
 by_cases hi:i<H.length
 ·have j:i<c.length:=by
   have:=h i hi;rw[ax hi]at this;exact(ay.1 this).1
  have f:(a.take H.length)[i]?=some a[i]:=by rw[a8,if_pos hi,ax (by omega)]
  have k:=DP f;rw[sf (DB _) _ k j]
  by_cases hc:H[i]?=some a[i]
  ·rw[pQ (fun p b=>?_),h i hi,hc];rw[vL]at b;intro e;have d:=sL b.1;rw[e,f]at d;injection d with d
   have g:=b.2;rw[e,<-d]at g;exact g hc
  ·have l:(i,a[i])∈qN H a:=by
    rw[vL];exact⟨k,hc⟩
   rw[sf (PI _ _) _ l j]
 ·rw[pQ (fun p b=>?_),pQ (fun p b=>?_)]
  ·have:=(ay.1 (sL b)).1;omega
  ·rw[vL]at b;have:=(ay.1 (sL b.1)).1;omega
theorem fh.XW{b:Nat}{H a:aj}{args:List AV}{v:AV}(h:fh P b H args a v)(f:H.length<=a.length)(n:aU (aF H) args)(q:dv H H):
 nw P b args H.length {v:=v,ak:=fA H,aI:=qN H a,aQ:=a.drop H.length}:=by
 have o:=h.XX f n q;intro c w aa ah β g j k l d m;have p:∀i,i<H.length->c[i]?=H[i]?:=fun i hi=>by
  rw[ax hi];exact d _ (DP (ax hi))
 have e:bk c (qN H a++newAt H.length (a.drop H.length))=bk c (fA (a.take H.length)++newAt H.length (a.drop H.length)):=by
  rw[tF,tF,DF f p]
 have:=o c w aa ah β g j k l d m;dsimp only at this⊢;rw[e];exact this
theorem yg{b:Nat}{H a:aj}{args:List PV}{as:List AV}{v:PV}{K:aS->Prop}(h:fh P b H (args.map .p) a (.p v))(has:as=args.map .p)(k:H.length<=a.length)(o:dv H H)(n:∀i,i<H.length->a[i]?=some .hole->H[i]?=some .hole)
 (hk:∀e:aS,(∀dst env,aS.app e dst ⟨env,H⟩=⟨put dst (.p v) env,a⟩)->K e):vg P H K (.map b) as:=by
 subst has;have m:aU (aF H) (args.map AV.p):=iF _ _;show∃e,nw P b (args.map .p) H.length e/\nC H e/\K e;have g:(a.take H.length).length=H.length:=by rw[a0];omega
 refine⟨_,h.XW k m o,⟨fun p c=>sL c,fun p c=>?_⟩,hk _ fun dst env=>?_⟩
 ·rw[vL]at c;have f:=sL c.1;have d:=(ay.1 f).1;rw[g]at d;refine⟨d,fun e=>?_⟩;rw[a8,if_pos d,e]at f;have l:=n _ d f;have j:=c.2;rw[e]at j;exact j l
 ·simp only[aS.app];rw[DF k (fun _ _=>rfl),PL g,List.take_append_drop]
def EA(P:ao)(g:am)(fi ca:List PV)(h:List (List PV))(d:Nat->aj):Prop:=
 ∀(b k:Nat)(c f:Nat->aj)(H':aj),k<=h.length->(∀i,i<=k->dv (c i) (c i)/\aD (aF (c i)) (.map b))->
  (∀i a,i<k->h[i]?=some a->fh P b (c i++d i) (a.map .p) (f i) (.p (.bool true))/\(c i++d i).length<=(f i).length/\(∀j,j<(c i++d i).length->(f i)[j]?=some .hole->(c i++d i)[j]?=some .hole)/\
   (c (i+1)).take (c 0).length=(f i).take (c 0).length/\gH (c (i+1)) (f i) (c (i+1)))->
  (k=h.length/\H'=c k\/∃a e,h[k]?=some a/\fh P b (c k++d k) (a.map .p) e (.p (.bool false))/\(c k++d k).length<=e.length/\(∀j,j<(c k++d k).length->e[j]?=some .hole->(c k++d k)[j]?=some .hole)/\
   H'.take (c 0).length=e.take (c 0).length/\gH H' e H'/\dv H' H')->
  de P g (c 0) (fi.map .p++[.map b]++ca.map .p) H' (.p (.aA []))
theorem O2{f:ab}{n:Array Tmp}{a c:Code}{Q:bm->St->Prop}{env:Env}{heap:aj}{q:Cx}{g:am}{fi ca:List PV}{r:List (List PV)}{h:Nat->aj}(aK:EA P g fi ca r h)(hf:ev env f= .p (.func g fi ca))(hq:q.2<=heap.length)
 (X Y:dD->Nat->aj)(k:Nat)(hk:k<=r.length)(u:∀L,X L 0=heap++[.loop L])
 (hx:∀L,L=⟨.ready,none,q.1,n.toList,a,c,env⟩->∀i,i<=k->(X L i)[heap.length]?=some (.loop L)/\gM (X L i) env/\(gM (X L i) env->(∀x,aD (aF (X L i)) (aN L.env x))->dv (X L i) (X L i)))
 (w:∀L,L=⟨.ready,none,q.1,n.toList,a,c,env⟩->∀i x,i<k->r[i]?=some x->fh P heap.length (X L i++h i) (x.map .p) (Y L i) (.p (.bool true))/\(X L i++h i).length<=(Y L i).length/\(∀j,j<(X L i++h i).length->(Y L i)[j]?=some .hole->(X L i++h i)[j]?=some .hole)/\
  (X L (i+1)).take (heap.length+1)=(Y L i).take (heap.length+1)/\gH (X L (i+1)) (Y L i) (X L (i+1)))
 (G:∀L,L=⟨.ready,none,q.1,n.toList,a,c,env⟩->(k=r.length/\Q .normal ⟨env,(X L k).set heap.length (.loop L.xh)⟩)\/
  ∃x j l b,r[k]?=some x/\b[heap.length]?=some (.loop (L.dn j))/\fh P heap.length (X L k++h k) (x.map .p) l (.p (.bool false))/\(X L k++h k).length<=l.length/\(∀i,i<(X L k++h k).length->l[i]?=some .hole->(X L k++h k)[i]?=some .hole)/\
  b.take (heap.length+1)=l.take (heap.length+1)/\gH b l b/\dv b b/\iW Q (some j) ⟨env,b.set heap.length (.loop (L.dn j).xh)⟩):
 eD P ag q (.rangeFunc f n a c) Q ⟨env,heap⟩:=by
 obtain⟨L,d⟩:∃L:dD,L=⟨.ready,none,q.1,n.toList,a,c,env⟩:=⟨_,rfl⟩
 have t:=aK heap.length k (X L) (Y L);refine⟨hq,?_⟩;show iR P (ev env f) heap.length (heap++[.loop ⟨.ready,none,q.1,n.toList,a,c,env⟩]) (gS heap.length env Q);rw[hf];simp only[iR];rw[<-d,<-u L];have y:(X L 0).length=heap.length+1:=by rw[u L];simp
 have v:∀i,i<=k->dv (X L i) (X L i)/\aD (aF (X L i)) (.map heap.length):=by
  intro i hi;obtain⟨o,m,s⟩:=hx L d i hi;have e5:L.env=env:=by rw[d]
  refine⟨s m (by rw[e5];exact m.get),?_⟩;simp only[aD,aF,o];exact⟨_,rfl,by simp[Obj.has]⟩
 rw[y]at t;rcases G L d with⟨o,m⟩|⟨x,j,l,b,o,m,s,z,A,B,C,D,E⟩
 ·refine⟨_,_,t (X L k) hk v (w L d) (.inl ⟨o,rfl⟩),?_⟩;have F:=(hx L d k (bi k)).1;simp only[gS,F];refine⟨by rw[d];simp,?_⟩;have:L.pending=none:=by rw[d]
  simp only[this,iW];have e:L.xh={L with st:=.exhausted}:=rfl;rw[this]at e;rw[e]at m;exact m
 ·refine⟨_,_,t b hk v (w L d) (.inr ⟨x,l,o,s,z,A,B,C,D⟩),?_⟩;simp only[gS,m];exact⟨by simp[dD.dn],E⟩
theorem Pr{H J:aj}{x:Nat×Nat}(h:aF H x):aF (H++J) x:=by
 obtain⟨o,a,b⟩:=h;exact⟨o,by rw[List.getElem?_append_left (ay.1 a).1];exact a,b⟩
theorem dv.up{S T:aj}(a:∀x,aF S x->aF T x):∀{h:aj},dv S h->dv T h
 |[],_=>trivial
 |_::_,h=>⟨Obj.uc a h.1,dv.up a h.2⟩
theorem dv.app{H J:aj}(h:dv H H)(a:dv (H++J) J):dv (H++J) (H++J):=by
 rw[BG];exact⟨h.up fun _=>Pr,a⟩
theorem aGA{a:Array Oper}{b:List Touch}{i n:Nat}{e:aS}(h:gZ a b=true)(c:b.all (fun u=>reach a a.size u.i i)=true):gZ a (fN i n e b)=true:=by
 rw[fN]
 split
 ·exact h
 ·rw[gZ,h,Bool.and_true,bd];intro u d;rw[bd]at c;rw[show(gC i n e).i=i from rfl,c u d,Bool.or_true]
theorem yk{b:Nat}{H c:aj}{args:List PV}{as:List AV}{v:PV}{a:Array Oper}{r:List Oper}{i:Nat}{d:List Touch}{K:St->Prop}{dst:Option Tmp}{env:Env}(h:fh P b H (args.map .p) c (.p v))(has:as=args.map .p)(l:H.length<=c.length)(hr:dv H H)(hh:∀i,i<H.length->c[i]?=some .hole->H[i]?=some .hole)
 (g:gZ a d=true)(j:d.all (fun u=>reach a a.size u.i i)=true)(hk:∀f,uW a f=true->nD P ag a r (i+1) f K ⟨put dst (.p v) env,c⟩):vg P H (ym P ag a r i d K dst ⟨env,H⟩) (.map b) as:=by
 refine yg h has l hr hh fun e k=>?_;show nD P ag a r (i+1) (fN i H.length e d) K (aS.app e dst ⟨env,H⟩);rw[k];exact hk _ (aGA g j)
end
end Go.az
