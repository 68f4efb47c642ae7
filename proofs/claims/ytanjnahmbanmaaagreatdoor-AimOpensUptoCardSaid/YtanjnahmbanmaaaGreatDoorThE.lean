import Derived.Test.YtanjnahmbanmaaaGreatDoorThD
/- Parts of a proof. -/
set_option linter.unusedSimpArgs false
set_option linter.unusedVariables false
set_option linter.unusedSectionVars false
open Go renaming Operand->ab, TypeId->ac, FuncId->am, Program->ao, ResultVar->ap, World->av
open List renaming getElem?_eq_getElem->ax, getElem?_eq_some_iff->ay, nodup_range->aT, length_take->a0, map_cons->a1, getElem?_replicate->a2, mem_map->a3, getElem?_eq_none->a4, mem_iff_getElem->a5, map_id->a6, range->a7, getElem?_take->a8, ext_getElem?->a9, getElem_zip->bb, all_eq_true->be, replicate->bi
open Nat renaming le_refl->bl
namespace Go.ak
set_option linter.unusedSectionVars false
variable[Gl]
@[reducible] def Tg{α:Type}(_:α)(β:Type):Type:=β
@[reducible] def Tg1{α:Type 1}(_:α)(β:Type):Type:=β
section
variable(P:ao)(ag:am->Bool)
def eD(q:Cx)(c:Code)(Q:bu->St->Prop)(s:Tg (q,c,Q) St):Prop:=di P ag q c Q s
def pG(a:Array Oper)(l:List Oper)(K:St->Prop)(s:Tg (a,l,K) St):Prop:=fR P ag a l K s
def nU(b:Array Oper)(l:List Oper)(i:Nat)(a:List Touch)(K:St->Prop)(s:Tg (b,l,i,a,K) St):Prop:=fX P ag b l i a K s
def zZ(K:St->Prop)(Q:bu->St->Prop)(e:Tg (K,Q) bu)(s:Tg (K,Q) St):Prop:=tQ K Q e s
def qL(id:Nat)(Q:bu->St->Prop)(e:Tg (id,Q) bu)(s:Tg (id,Q) St):Prop:=nH id Q e s
def OI(a b:St->Prop)(s:St)(v:Tg (a,b,s) AV):Prop:=tg v a b s
def yW(b:Array Oper)(r:List Oper)(i:Nat)(a:List Touch)(K:St->Prop)(dst:Option Tmp)(s:St)(e:Tg (b,r,i,a,K,dst,s) aW):Prop:=vI P ag b r i a K dst s e
def eA(dst:Option Tmp)(s:St)(K:St->Prop)(e:Tg (dst,s,K) aW):Prop:=eh dst s K e
def Qf(dst:Option Tmp)(s:St)(K:St->Prop)(v:Tg (dst,s,K) AV)(H:Tg (dst,s,K) aj):Prop:=zT dst s K v H
def Df(a:Array Oper)(o:Oper)(r:List Oper)(K:St->Prop)(b:Bool)(s:St)(g:Tg (a,o,r,K,b,s) AV):Prop:=yJ P ag a o r K b s g
def Cu(b:Array Oper)(o:Oper)(r:List Oper)(i:Nat)(a:List Touch)(K:St->Prop)(c:Bool)(s:St)(g:Tg (b,o,r,i,a,K,c,s) AV):Prop:=yx P ag b o r i a K c s g
def dR(o:Oper)(K:St->Prop)(s:St)(_:Tg (o,K,s) Unit):Prop:=dj P ag o K s
def dO(o:Oper)(s:St)(K:aW->Prop)(_:Tg (o,K,s) Unit):Prop:=dm P ag o s K
def cz(K:aW->Prop)(r:Tg K eC):Prop:=bh r K
def zw(H:aj)(K:AV->aj->Prop)(f:Tg (H,K) AV)(args:Tg (H,K) (List AV)):Prop:=qV P f args H K
def vL(H:aj)(K:aW->Prop)(f:Tg (H,K) AV)(args:Tg (H,K) (List AV)):Prop:=qJ P f args H K
def ki(d:Bool)(f:am)(K:AV->aj->Prop)(args:Tg K (List AV))(H:Tg K aj):Prop:=gO P d f args H K
def mC(f:am)(K:aW->Prop)(args:Tg K (List AV))(H:Tg K aj):Prop:=gU P f args H K
def rk(R:AV->PV->Prop):List AV->List PV->Prop
 |[],vs=>vs=[]
 |x::xs,vs=>match vs with
  |v::vs=>R x v/\rk R xs vs
  |[]=>False
def fT(H:aj):Nat->AV->PV->Prop
 |0=>fun x v=>match x with
  | .p a=>Wk a v
  |_=>False
 |n+1=>fun x v=>match x with
  | .p a=>Wk a v
  | .sl b az z off len=>match v with
   | .seq fs=>match H[b]? with
    |some (.arr _ e h es)=>az=e/\z=h/\off+len<=es.length/\rk (fT H n) ((es.drop off).take len) fs
    |_=>False
   |_=>False
  | .st u xs=>match v with
   | .st u' vs=>u=u'/\rk (fT H n) xs vs
   |_=>False
  | .aC xs=>match v with
   | .aC vs=>rk (fT H n) xs vs
   |_=>False
  | .ptr b path=>match v with
   | .cm t=>match H[b]? with
    |some (.box _ y)=>match eK y path with
     |some s=>fT H n s t
     |none=>False
    |_=>False
   |_=>False
  | .map b=>match v with
   | .dT es=>match H[b]? with
    |some (.map _ c)=>c=es
    |_=>False
   |_=>False
  | .func f xs g=>match v with
   | .func d vs us=>f=d/\rk (fT H n) xs vs/\rk (fT H n) g us
   |_=>False
  |_=>False
def mc(H:aj)(n:Nat):List AV->List PV->Prop:=rk (fT H n)
def rr(a:List ap)(v:PV)(e:Tg (a,v) bu)(s:Tg (a,v) St):Prop:=
 (match e with
  | .exit _=>False
  |_=>True)/\∃vs,fC P s a=some vs/\fT (St.heap s) 9 (oneOf vs) v
def vz(a:Array Oper)(l:Tg a (List Touch)):Bool:=iy a l
def aH6(a:Array Oper)(i j:Tg a Nat):Bool:=reach a a.size i j
end
section
variable{P:ao}{ag:am->Bool}{q:Cx}
theorem aJg{Q:bu->St->Prop}{s:St}:eD P ag q .skip Q s=Q .normal s:=L6
theorem Wa{l:Nat}{Q:bu->St->Prop}{s:St}:eD P ag q (.label l) Q s=Q .normal s:=KQ
theorem aJe{id:Nat}{Q:bu->St->Prop}{s:St}:eD P ag q (.exit id) Q s=Q (.exit id) s:=L7
theorem aJf{Q:bu->St->Prop}{s:St}:eD P ag q .ret Q s=Q .ret s:=QD
theorem V8{b:Code}{Q:bu->St->Prop}{s:St}:eD P ag q (.scope b) Q s=eD P ag q b Q s:=KM
theorem aJd{id:Nat}{l:List Oper}{Q:bu->St->Prop}{s:St}:eD P ag q (.region id l.toArray true) Q s=nU P ag l.toArray l 0 [] (Q .normal) s:=L8
theorem V9{id:Nat}{l:List Oper}{Q:bu->St->Prop}{s:St}:eD P ag q (.region id l.toArray false) Q s=pG P ag l.toArray l (Q .normal) s:=KP
theorem bt{a b:Code}{Q:bu->St->Prop}{s:St}:eD P ag q (.seq a b) Q s=eD P ag q a (zZ (eD P ag q b Q) Q) s:=QE
theorem JF{id:Nat}{b:Code}{Q:bu->St->Prop}{s:St}:eD P ag q (.block id b) Q s=eD P ag q b (qL id Q) s:=KR
theorem aJc{c:ab}{a b:Code}{Q:bu->St->Prop}{s:St}:eD P ag q (.cond c a b) Q s=OI (eD P ag q a Q) (eD P ag q b Q) s (ev s.env c):=L9
theorem SZ{K:St->Prop}{Q:bu->St->Prop}{s:St}:zZ K Q .normal s=K s:=G8
theorem UI{id:Nat}{K:St->Prop}{Q:bu->St->Prop}{s:St}:zZ K Q (.exit id) s=Q (.exit id) s:=IA
theorem UO{K:St->Prop}{Q:bu->St->Prop}{s:St}:zZ K Q .ret s=Q .ret s:=Jy
theorem TA{t:Bool}{a b:St->Prop}{s:St}:OI a b s (.p (.bool t))=if t then a s else b s:=Hy
theorem Vz{b:Array Oper}{r:List Oper}{i:Nat}{a:List Touch}{K:St->Prop}{dst:Option Tmp}{env:Env}{heap:aj}{v:AV}{al aM:List (Nat×Obj)}{aS:List Obj}:yW P ag b r i a K dst ⟨env,heap⟩ ⟨v,al,aM,aS⟩=nU P ag b r (i+1) (fP i heap.length ⟨v,al,aM,aS⟩ a) K ⟨put dst v env,bc heap aM++aS⟩:=J1
theorem Xs{dst:Option Tmp}{env:Env}{heap:aj}{K:St->Prop}{v:AV}{al aM:List (Nat×Obj)}{aS:List Obj}:eA dst ⟨env,heap⟩ K ⟨v,al,aM,aS⟩=K ⟨put dst v env,bc heap aM++aS⟩:=LC
theorem W8{dst:Option Tmp}{env:Env}{heap H:aj}{K:St->Prop}{v:AV}:Qf dst ⟨env,heap⟩ K v H=K ⟨put dst v env,H⟩:=Le
theorem aJi{b:Array Oper}{i:Nat}{a:List Touch}{K:St->Prop}{s:St}:nU P ag b [] i a K s=(vz b a=true/\K s):=L5
theorem V7{b:Array Oper}{i c:Nat}{pos:String}{a:List Touch}{K:St->Prop}{s:St}{dst:Option Tmp}{op:Op}{af:Array Edge}{r:List Oper}:nU P ag b ({dst,op,type:=c,pos,after:=af,guard:=none}::r) i a K s=dO P ag {dst,op,type:=c,pos,after:=af,guard:=none} s (yW P ag b r i a K dst s) ():=KL
theorem Vc{a:Array Oper}{i d j:Nat}{b:Bool}{pos:String}{c:List Touch}{K:St->Prop}{s:St}{dst:Option Tmp}{op:Op}{af:Array Edge}{r:List Oper}:nU P ag a ({dst,op,type:=d,pos,after:=af,guard:=some (j,b)}::r) i c K s=Cu P ag a {dst,op,type:=d,pos,after:=af,guard:=some (j,b)} r i c K b s (guardOf a j s.env):=JE
theorem aJo{a:Array Oper}{K:St->Prop}{s:St}:pG P ag a [] K s=K s:=L3
theorem V6{a:Array Oper}{b:Nat}{pos:String}{K:St->Prop}{s:St}{dst:Option Tmp}{op:Op}{af:Array Edge}{r:List Oper}:pG P ag a ({dst,op,type:=b,pos,after:=af,guard:=none}::r) K s=dR P ag {dst,op,type:=b,pos,after:=af,guard:=none} (pG P ag a r K) s ():=KJ
theorem Vb{a:Array Oper}{c j:Nat}{b:Bool}{pos:String}{K:St->Prop}{s:St}{dst:Option Tmp}{op:Op}{af:Array Edge}{r:List Oper}:pG P ag a ({dst,op,type:=c,pos,after:=af,guard:=some (j,b)}::r) K s=Df P ag a {dst,op,type:=c,pos,after:=af,guard:=some (j,b)} r K b s (guardOf a j s.env):=JD
section ops
variable{dst:Option Tmp}{ty:Nat}{pos:String}{af:Array Edge}{g:Option (Nat×Bool)}{env:Env}{heap:aj}{K:aW->Prop}{L:St->Prop}
theorem Zn{x:ab}:dO P ag ⟨dst,.move x,ty,pos,af,g⟩ ⟨env,heap⟩ K ()=K {v:=ev env x}:=NW
theorem VJ{x:ab}:dO P ag ⟨dst,.assign x,ty,pos,af,g⟩ ⟨env,heap⟩ K ()=K {v:=ev env x}:=JZ
theorem Zp{c a b:ab}:dO P ag ⟨dst,.pick c a b,ty,pos,af,g⟩ ⟨env,heap⟩ K ()=cz K (q8 (ev env c) (ev env a) (ev env b)):=NT
theorem XE{T:ac}:dO P ag ⟨dst,.alloc T,ty,pos,af,g⟩ ⟨env,heap⟩ K ()=cz K (qM P T heap.length):=Ls
theorem Zf{T:ac}{x:ab}:dO P ag ⟨dst,.box T x,ty,pos,af,g⟩ ⟨env,heap⟩ K ()=cz K (tD P T heap.length (ev env x)):=ON
theorem XC{T:ac}{a:Array (Nat×ab)}:dO P ag ⟨dst,.build T a,ty,pos,af,g⟩ ⟨env,heap⟩ K ()=cz K (qK P T (a.toList.map fun(i,x)=>(i,ev env x))):=Lr
theorem Sx{T:ac}{n:Nat}{a:Array (Nat×ab)}:dO P ag ⟨dst,.buildSlice T n a,ty,pos,af,g⟩ ⟨env,heap⟩ K ()=cz K (pU P T n (a.toList.map fun(i,x)=>(i,ev env x)) heap.length):=GJ
theorem Zk{T:ac}{a:ab}:dO P ag ⟨dst,.load T a,ty,pos,af,g⟩ ⟨env,heap⟩ K ()=cz K (pg P T heap (ev env a)):=Ng
theorem Xx{T:ac}{a x:ab}:dO P ag ⟨dst,.store T a x,ty,pos,af,g⟩ ⟨env,heap⟩ K ()=cz K (oX P T heap (ev env a) (ev env x)):=Ln
theorem Ze{op:BinOp}{T a:ac}{x y:ab}:dO P ag ⟨dst,.binOp op T x y a,ty,pos,af,g⟩ ⟨env,heap⟩ K ()=cz K (gX P op T (lZ y) heap (ev env x) (ev env y)):=OM
theorem Zr{op:UnOp}{T:ac}{x:ab}:dO P ag ⟨dst,.unOp op T x,ty,pos,af,g⟩ ⟨env,heap⟩ K ()=cz K (rM op (ev env x)):=OR
theorem Zh{S D:ac}{x:ab}:dO P ag ⟨dst,.convert S D x,ty,pos,af,g⟩ ⟨env,heap⟩ K ()=cz K (qU P S D heap (ev env x)):=Ni
theorem T5{t:ab}{i:Nat}:dO P ag ⟨dst,.extract t i,ty,pos,af,g⟩ ⟨env,heap⟩ K ()=cz K (qm (ev env t) i):=I7
theorem Tv{T:ac}{a:ab}{f:Nat}:dO P ag ⟨dst,.fieldAddr T a f,ty,pos,af,g⟩ ⟨env,heap⟩ K ()=cz K (oC P T (ev env a) f):=Hc
theorem Tu{T:ac}{x i:ab}:dO P ag ⟨dst,.indexAddr T x i,ty,pos,af,g⟩ ⟨env,heap⟩ K ()=cz K (oB P T heap (ev env x) (ev env i)):=G9
theorem XA{T:ac}{x i:ab}:dO P ag ⟨dst,.index T x i,ty,pos,af,g⟩ ⟨env,heap⟩ K ()=cz K (qO P T (ev env x) (ev env i)):=Lq
theorem Zj{x:ab}{a:Array ac}:dO P ag ⟨dst,.call {callee:=.builtin .len,args:=#[x],argTypes:=a},ty,pos,af,g⟩ ⟨env,heap⟩ K ()=cz K (rG P (a.getD 0 0) a.size heap (ev env x)):=OO
theorem Zg{f:ab}{args:List ab}{a:Array ac}:dO P ag ⟨dst,.call {callee:=.value f,args:=args.toArray,argTypes:=a},ty,pos,af,g⟩ ⟨env,heap⟩ K ()=vL P heap K (ev env f) (args.map (ev env)):=Nj
theorem aHL{x:ab}:dR P ag ⟨dst,.move x,ty,pos,af,g⟩ L ⟨env,heap⟩ ()=eA dst ⟨env,heap⟩ L {v:=ev env x}:=MN
theorem Vk{x:ab}:dR P ag ⟨dst,.assign x,ty,pos,af,g⟩ L ⟨env,heap⟩ ()=eA dst ⟨env,heap⟩ L {v:=ev env x}:=Jg
theorem aHO{c a b:ab}:dR P ag ⟨dst,.pick c a b,ty,pos,af,g⟩ L ⟨env,heap⟩ ()=cz (eA dst ⟨env,heap⟩ L) (q8 (ev env c) (ev env a) (ev env b)):=ML
theorem Xh{T:ac}:dR P ag ⟨dst,.alloc T,ty,pos,af,g⟩ L ⟨env,heap⟩ ()=cz (eA dst ⟨env,heap⟩ L) (qM P T heap.length):=K2
theorem aHy{T:ac}{x:ab}:dR P ag ⟨dst,.box T x,ty,pos,af,g⟩ L ⟨env,heap⟩ ()=cz (eA dst ⟨env,heap⟩ L) (tD P T heap.length (ev env x)):=P8
theorem Xg{T:ac}{a:Array (Nat×ab)}:dR P ag ⟨dst,.build T a,ty,pos,af,g⟩ L ⟨env,heap⟩ ()=cz (eA dst ⟨env,heap⟩ L) (qK P T (a.toList.map fun(i,x)=>(i,ev env x))):=K1
theorem SE{T:ac}{n:Nat}{a:Array (Nat×ab)}:dR P ag ⟨dst,.buildSlice T n a,ty,pos,af,g⟩ L ⟨env,heap⟩ ()=cz (eA dst ⟨env,heap⟩ L) (pU P T n (a.toList.map fun(i,x)=>(i,ev env x)) heap.length):=GC
theorem aHF{T:ac}{a:ab}:dR P ag ⟨dst,.load T a,ty,pos,af,g⟩ L ⟨env,heap⟩ ()=cz (eA dst ⟨env,heap⟩ L) (pg P T heap (ev env a)):=MO
theorem Xb{T:ac}{a x:ab}:dR P ag ⟨dst,.store T a x,ty,pos,af,g⟩ L ⟨env,heap⟩ ()=cz (eA dst ⟨env,heap⟩ L) (oX P T heap (ev env a) (ev env x)):=Lg
theorem aHx{op:BinOp}{T a:ac}{x y:ab}:dR P ag ⟨dst,.binOp op T x y a,ty,pos,af,g⟩ L ⟨env,heap⟩ ()=cz (eA dst ⟨env,heap⟩ L) (gX P op T (lZ y) heap (ev env x) (ev env y)):=P7
theorem aHQ{op:UnOp}{T:ac}{x:ab}:dR P ag ⟨dst,.unOp op T x,ty,pos,af,g⟩ L ⟨env,heap⟩ ()=cz (eA dst ⟨env,heap⟩ L) (rM op (ev env x)):=Qc
theorem aHA{S D:ac}{x:ab}:dR P ag ⟨dst,.convert S D x,ty,pos,af,g⟩ L ⟨env,heap⟩ ()=cz (eA dst ⟨env,heap⟩ L) (qU P S D heap (ev env x)):=MQ
theorem Uf{t:ab}{i:Nat}:dR P ag ⟨dst,.extract t i,ty,pos,af,g⟩ L ⟨env,heap⟩ ()=cz (eA dst ⟨env,heap⟩ L) (qm (ev env t) i):=Ie
theorem SO{T:ac}{a:ab}{f:Nat}:dR P ag ⟨dst,.fieldAddr T a f,ty,pos,af,g⟩ L ⟨env,heap⟩ ()=cz (eA dst ⟨env,heap⟩ L) (oC P T (ev env a) f):=G0
theorem S5{T:ac}{x i:ab}:dR P ag ⟨dst,.indexAddr T x i,ty,pos,af,g⟩ L ⟨env,heap⟩ ()=cz (eA dst ⟨env,heap⟩ L) (oB P T heap (ev env x) (ev env i)):=GZ
theorem Xe{T:ac}{x i:ab}:dR P ag ⟨dst,.index T x i,ty,pos,af,g⟩ L ⟨env,heap⟩ ()=cz (eA dst ⟨env,heap⟩ L) (qO P T (ev env x) (ev env i)):=K0
theorem aHD{x:ab}{a:Array ac}:dR P ag ⟨dst,.call {callee:=.builtin .len,args:=#[x],argTypes:=a},ty,pos,af,g⟩ L ⟨env,heap⟩ ()=cz (eA dst ⟨env,heap⟩ L) (rG P (a.getD 0 0) a.size heap (ev env x)):=P9
theorem aHz{f:ab}{args:List ab}{a:Array ac}:dR P ag ⟨dst,.call {callee:=.value f,args:=args.toArray,argTypes:=a},ty,pos,af,g⟩ L ⟨env,heap⟩ ()=zw P heap (Qf dst ⟨env,heap⟩ L) (ev env f) (args.map (ev env)):=MR
theorem Xy{T:ac}{x:ab}{lo hi:Option ab}:dO P ag ⟨dst,.slice T x lo hi none,ty,pos,af,g⟩ ⟨env,heap⟩ K ()=cz K (oZ P T heap (ev env x) (lo.map (ev env)) (hi.map (ev env))):=Lo
theorem Xc{T:ac}{x:ab}{lo hi:Option ab}:dR P ag ⟨dst,.slice T x lo hi none,ty,pos,af,g⟩ L ⟨env,heap⟩ ()=cz (eA dst ⟨env,heap⟩ L) (oZ P T heap (ev env x) (lo.map (ev env)) (hi.map (ev env))):=KY
theorem VH{T:ac}{x i:ab}{ok:Bool}:dO P ag ⟨dst,.lookup T x i ok,ty,pos,af,g⟩ ⟨env,heap⟩ K ()=cz K (qY P T heap (ev env x) (ev env i) ok):=JX
theorem Vi{T:ac}{x i:ab}{ok:Bool}:dR P ag ⟨dst,.lookup T x i ok,ty,pos,af,g⟩ L ⟨env,heap⟩ ()=cz (eA dst ⟨env,heap⟩ L) (qY P T heap (ev env x) (ev env i) ok):=Je
theorem Tq{T:ac}{m k x:ab}:dO P ag ⟨dst,.mapUpdate T m k x,ty,pos,af,g⟩ ⟨env,heap⟩ K ()=cz K (lY P T heap (ev env m) (ev env k) (ev env x)):=Hq
theorem S2{T:ac}{m k x:ab}:dR P ag ⟨dst,.mapUpdate T m k x,ty,pos,af,g⟩ L ⟨env,heap⟩ ()=cz (eA dst ⟨env,heap⟩ L) (lY P T heap (ev env m) (ev env k) (ev env x)):=GX
theorem VI{T:ac}{m k x:ab}:dO P ag ⟨dst,.insert T m k x,ty,pos,af,g⟩ ⟨env,heap⟩ K ()=cz K (lY P T heap (ev env m) (ev env k) (ev env x)):=JY
theorem Vj{T:ac}{m k x:ab}:dR P ag ⟨dst,.insert T m k x,ty,pos,af,g⟩ L ⟨env,heap⟩ ()=cz (eA dst ⟨env,heap⟩ L) (lY P T heap (ev env m) (ev env k) (ev env x)):=Jf
theorem Xz{T:ac}{x:ab}:dO P ag ⟨dst,.range T x,ty,pos,af,g⟩ ⟨env,heap⟩ K ()=cz K (qE P T heap.length (ev env x)):=Lp
theorem Xd{T:ac}{x:ab}:dR P ag ⟨dst,.range T x,ty,pos,af,g⟩ L ⟨env,heap⟩ ()=cz (eA dst ⟨env,heap⟩ L) (qE P T heap.length (ev env x)):=KZ
theorem Zo{it:ab}:dO P ag ⟨dst,.next it true,ty,pos,af,g⟩ ⟨env,heap⟩ K ()=cz K (re heap (ev env it)):=NU
theorem aHM{it:ab}:dR P ag ⟨dst,.next it true,ty,pos,af,g⟩ L ⟨env,heap⟩ ()=cz (eA dst ⟨env,heap⟩ L) (re heap (ev env it)):=MM
theorem Tt{T:ac}{l c:ab}:dO P ag ⟨dst,.makeSlice T l c,ty,pos,af,g⟩ ⟨env,heap⟩ K ()=cz K (ri P T heap.length (ev env l) (ev env c)):=Hr
theorem S4{T:ac}{l c:ab}:dR P ag ⟨dst,.makeSlice T l c,ty,pos,af,g⟩ L ⟨env,heap⟩ ()=cz (eA dst ⟨env,heap⟩ L) (ri P T heap.length (ev env l) (ev env c)):=GY
theorem Ty{x:ab}:dO P ag ⟨dst,.nilCheck x,ty,pos,af,g⟩ ⟨env,heap⟩ K ()=cz K (qz (ev env x)):=Hv
theorem TS{x:ab}:dR P ag ⟨dst,.nilCheck x,ty,pos,af,g⟩ L ⟨env,heap⟩ ()=cz (eA dst ⟨env,heap⟩ L) (qz (ev env x)):=HU
theorem Zm{args:Array ab}{a:Array ac}:dO P ag ⟨dst,.call {callee:=.builtin .min,args,argTypes:=a},ty,pos,af,g⟩ ⟨env,heap⟩ K ()=cz K (ku false (args.toList.map (ev env))):=OQ
theorem aHK{args:Array ab}{a:Array ac}:dR P ag ⟨dst,.call {callee:=.builtin .min,args,argTypes:=a},ty,pos,af,g⟩ L ⟨env,heap⟩ ()=cz (eA dst ⟨env,heap⟩ L) (ku false (args.toList.map (ev env))):=Qb
theorem Zl{args:Array ab}{a:Array ac}:dO P ag ⟨dst,.call {callee:=.builtin .max,args,argTypes:=a},ty,pos,af,g⟩ ⟨env,heap⟩ K ()=cz K (ku true (args.toList.map (ev env))):=OP
theorem aHJ{args:Array ab}{a:Array ac}:dR P ag ⟨dst,.call {callee:=.builtin .max,args,argTypes:=a},ty,pos,af,g⟩ L ⟨env,heap⟩ ()=cz (eA dst ⟨env,heap⟩ L) (ku true (args.toList.map (ev env))):=Qa
theorem T4{T:ac}:dO P ag ⟨dst,.makeMap T none,ty,pos,af,g⟩ ⟨env,heap⟩ K ()=K {v:=.map heap.length,aS:=[.map false []]}:=I6
theorem Ue{T:ac}:dR P ag ⟨dst,.makeMap T none,ty,pos,af,g⟩ L ⟨env,heap⟩ ()=eA dst ⟨env,heap⟩ L {v:=.map heap.length,aS:=[.map false []]}:=IP
theorem VK{s x:ab}{T X:ac}:dO P ag ⟨dst,.call {callee:=.builtin .append,args:=#[s,x],argTypes:=#[T,X]},ty,pos,af,g⟩ ⟨env,heap⟩ K ()=cz K (oW P T X heap (ev env s) (ev env x)):=J0
theorem Vl{s x:ab}{T X:ac}:dR P ag ⟨dst,.call {callee:=.builtin .append,args:=#[s,x],argTypes:=#[T,X]},ty,pos,af,g⟩ L ⟨env,heap⟩ ()=cz (eA dst ⟨env,heap⟩ L) (oW P T X heap (ev env s) (ev env x)):=Jh
theorem Zi{s x:ab}{T X:ac}:dO P ag ⟨dst,.call {callee:=.builtin .copy,args:=#[s,x],argTypes:=#[T,X]},ty,pos,af,g⟩ ⟨env,heap⟩ K ()=cz K (copyV P T heap (ev env s) (ev env x)):=Nh
theorem aHB{s x:ab}{T X:ac}:dR P ag ⟨dst,.call {callee:=.builtin .copy,args:=#[s,x],argTypes:=#[T,X]},ty,pos,af,g⟩ L ⟨env,heap⟩ ()=cz (eA dst ⟨env,heap⟩ L) (copyV P T heap (ev env s) (ev env x)):=MP
theorem Y2{f:am}{fi ca:List AV}{args:List AV}{M:AV->aj->Prop}:zw P heap M (.func f fi ca) args=ki P false f M (fi++args++ca) heap:=OJ
theorem Y5{f:am}{fi ca:List AV}{args:List AV}:vL P heap K (.func f fi ca) args=mC P f K (fi++args++ca) heap:=Nk
theorem Y4{f:am}{fi ca:List PV}{args:List AV}{M:AV->aj->Prop}:zw P heap M (.p (.func f fi ca)) args=ki P false f M (fi.map .p++args++ca.map .p) heap:=OK
theorem Y6{f:am}{fi ca:List PV}{args:List AV}:vL P heap K (.p (.func f fi ca)) args=mC P f K (fi.map .p++args++ca.map .p) heap:=OL
end ops
section guards
variable{ops:Array Oper}{o:Oper}{r:List Oper}{K:St->Prop}{want t:Bool}{s:St}{i:Nat}{acc:List Touch}
theorem Tj:Df P ag ops o r K want s (.p (.bool t))=if t=want then dR P ag o (pG P ag ops r K) s ()else pG P ag ops r K ⟨put o.dst (.p (.aC [])) s.env,s.heap⟩:=Hi
theorem TO:Df P ag ops o r K want s (.p (.aC []))=pG P ag ops r K ⟨put o.dst (.p (.aC [])) s.env,s.heap⟩:=HZ
theorem SI:Cu P ag ops o r i acc K want s (.p (.bool t))=if t=want then dO P ag o s (yW P ag ops r i acc K o.dst s) ()else nU P ag ops r (i+1) acc K ⟨put o.dst (.p (.aC [])) s.env,s.heap⟩:=GH
theorem Ti:Cu P ag ops o r i acc K want s (.p (.aC []))=nU P ag ops r (i+1) acc K ⟨put o.dst (.p (.aC [])) s.env,s.heap⟩:=Hh
end guards
theorem SB{id:Nat}{Q:bu->St->Prop}{s:St}:qL id Q .normal s=Q .normal s:=(rfl)
theorem TZ{id i:Nat}{Q:bu->St->Prop}{s:St}:qL id Q (.exit i) s=if i=id then Q .normal s else Q (.exit i) s:=(rfl)
theorem U5{id:Nat}{Q:bu->St->Prop}{s:St}:qL id Q .ret s=Q .ret s:=(rfl)
section makeFunc
variable{dst:Option Tmp}{ty:Nat}{pos:String}{af:Array Edge}{g:Option (Nat×Bool)}{env:Env}{heap:aj}{L:St->Prop}{K:aW->Prop}{f:am}{fi ca:Array ab}
theorem TT(hf:ag f=false):dR P ag ⟨dst,.makeFunc (.func f) fi ca,ty,pos,af,g⟩ L ⟨env,heap⟩ ()=cz (eA dst ⟨env,heap⟩ L) (qW f (fi.toList.map (ev env)) (ca.toList.map (ev env))):=HV hf
theorem Tz(hf:ag f=false):dO P ag ⟨dst,.makeFunc (.func f) fi ca,ty,pos,af,g⟩ ⟨env,heap⟩ K ()=cz K (qW f (fi.toList.map (ev env)) (ca.toList.map (ev env))):=Hw hf
end makeFunc
theorem UQ{p:Prop}{e:aW}{K:aW->Prop}:cz K (some (p,e))=(p/\K e):=(rfl)
theorem UR{K:aW->Prop}:cz K none=False:=(rfl)
theorem Uz{a:Array Oper}:vz a []=true:=(rfl)
theorem Tf{a:Array Oper}{t:Touch}{r:List Touch}:vz a (t::r)=(r.all (fun u=>!jd u t||aH6 a u.i t.i)&&vz a r):=(rfl)
theorem VD{a:List ap}{v:PV}{s:St}:rr P a v .ret s=∃vs,fC P s a=some vs/\fT s.heap 9 (oneOf vs) v:=by simp[rr]
theorem Tn{a:List ap}{v:PV}{s:St}:rr P a v .normal s=∃vs,fC P s a=some vs/\fT s.heap 9 (oneOf vs) v:=by simp[rr]
section pur
variable{H:aj}
theorem wR{n:Nat}{a v:PV}:fT H n (.p a) v=Wk a v:=by cases n<;>rfl
theorem LZ{n b az z off len:Nat}{fs:List PV}:fT H (n+1) (.sl b az z off len) (.seq fs)=match H[b]? with
  |some (.arr _ a c es)=>az=a/\z=c/\off+len<=es.length/\mc H n ((es.drop off).take len) fs
  |_=>False:=(rfl)
theorem aH1{n:Nat}{u u':ac}{a:List AV}{vs:List PV}:fT H (n+1) (.st u a) (.st u' vs)=(u=u'/\mc H n a vs):=(rfl)
theorem aH2{n:Nat}{a:List AV}{vs:List PV}:fT H (n+1) (.aC a) (.aC vs)=mc H n a vs:=(rfl)
theorem Lf{n b:Nat}{a:List (PV×PV)}:fT H (n+1) (.map b) (.dT a)=match H[b]? with
  |some (.map _ c)=>c=a
  |_=>False:=(rfl)
theorem aH0{n:Nat}{f a:am}{c d:List AV}{vs b:List PV}:fT H (n+1) (.func f c d) (.func a vs b)=(f=a/\mc H n c vs/\mc H n d b):=(rfl)
theorem xM{n:Nat}{vs:List PV}:mc H n [] vs=(vs=[]):=(rfl)
theorem Bs{n:Nat}{x:AV}{a:List AV}{v:PV}{vs:List PV}:mc H n (x::a) (v::vs)=(fT H n x v/\mc H n a vs):=(rfl)
theorem Jb{α:Type}{n:Nat}{g:α->AV}{f:α->PV}:∀{l:List α},mc H n (l.map g) (l.map f)=∀x∈l,fT H n (g x) (f x)
 |[]=>by simp[xM]
 |a::l=>by simp[Bs,Jb (l:=l)]
theorem sL(n:Nat)(c:∀(x:AV)(v:PV),fT H n x v->∃v',et H n x=some v'/\Wk v' v):∀(b:List AV)(vs:List PV),mc H n b vs->∃a,jM (et H n) b=some a/\bC a vs
 |[],vs,h=>by rw[xM]at h;subst h;exact⟨[],rfl,by simp[bC]⟩
 |x::b,vs,h=>by
  cases vs with
  |nil=>exact h.elim
  |cons v vs=>
   rw[Bs]at h;obtain⟨p,d,e⟩:=c x v h.1;obtain⟨a,f,g⟩:=sL n c b vs h.2;exact⟨p::a,by simp[jM,d,f],by simp only[bC];exact⟨e,g⟩⟩
theorem qH:∀(n:Nat)(x:AV)(v:PV),fT H n x v->∃v',et H n x=some v'/\Wk v' v
 |0,x,v,h=>by
  cases x with
  |p a=>exact⟨_,rfl,h⟩
  |_=>exact h.elim
 |n+1,x,v,h=>by
  cases x with
  |p a=>rw[wR]at h;exact⟨_,rfl,h⟩
  |sl b az z off len=>
   cases v with
   |seq fs=>
    rw[LZ]at h
    split at h
    case h_2=>exact h.elim
    rename_i k C E j e;obtain⟨rfl,rfl,m,g⟩:=h;obtain⟨i,c,d⟩:=sL n (qH n) _ _ g;simp only[et,e,m,and_self,if_true]
    split
    ·rename_i r;rw[r.2]at g;simp only[List.drop_nil,List.take_nil,xM]at g;exact⟨_,rfl,by rw[g];simp[Wk]⟩
    ·rw[c];exact⟨_,rfl,by simp only[Wk];exact d⟩
   |_=>exact h.elim
  |st u xs=>
   cases v with
   |st u' vs=>
    obtain⟨rfl,h⟩:=h;obtain⟨i,c,d⟩:=sL n (qH n) _ _ h;simp only[et,c];exact⟨_,rfl,by simp only[Wk];exact⟨trivial,d⟩⟩
   |_=>exact h.elim
  |aC xs=>
   cases v with
   |aC vs=>
    obtain⟨i,c,d⟩:=sL n (qH n) _ _ h;simp only[et,c];exact⟨_,rfl,by simp only[Wk];exact d⟩
   |_=>exact h.elim
  |ptr b path=>
   cases v with
   |cm t=>
    change (match H[b]? with
     |some (.box _ y)=>match eK y path with
      |some s=>fT H n s t
      |none=>False
     |_=>False)at h
    split at h
    case h_2=>exact h.elim
    rename_i e
    split at h
    case h_2=>exact h.elim
    rename_i s hs;obtain⟨p,c,d⟩:=qH n _ _ h;simp only[et,e,hs,c];exact⟨_,rfl,by simp only[Wk];exact d⟩
   |_=>exact h.elim
  |bZ _ _ _ _ _=>exact h.elim
  |map b=>
   cases v with
   |dT j=>
    rw[Lf]at h
    split at h
    case h_2=>exact h.elim
    rename_i fz w e;subst h;simp only[et,e];exact⟨_,rfl,Wk.refl _⟩
   |_=>exact h.elim
  |func f xs D=>
   cases v with
   |func A vs us=>
    obtain⟨rfl,h,l⟩:=h;obtain⟨i,c,d⟩:=sL n (qH n) _ _ h;obtain⟨B,o,q⟩:=sL n (qH n) _ _ l;simp only[et,c,o];exact⟨_,rfl,by simp only[Wk];exact⟨trivial,d,q⟩⟩
   |_=>exact h.elim
end pur
theorem Wt{f:am}{fn:Func}(ag:am->Bool)(h:aq P f fn)(n:P.follows .mixedOrders=true){args:List PV}{v:PV}(o:args.length<=fn.ntmps)
 (d:eD P ag (fn.ntmps,0) (fn.body.getD .skip) (rr P fn.results.toList v) ⟨iG 0 (args.map .p),[]⟩):rp P f args v:=by
 have hs:=h.stat;simp only[Bool.and_eq_true,bne_iff_ne]at hs;have k:fn.body=some (fn.body.getD .skip):=by
  have a:=hs.1.1;clear d hs;cases l:fn.body with
  |none=>rw[l]at a;simp at a
  |some c=>rfl
 obtain⟨e,s,⟨a,vs,g,b⟩,j⟩:=mZ _ _ _ (lB (Q':=rr P fn.results.toList v) _ (fun _ _ h=>h) d);obtain⟨v',b,i⟩:=qH _ _ _ b;have m:rp P f args v':=JP (oA ag) (xq (oA ag) n) h.enters h.func k hs.2 o (j (Ends P fn.results.toList v') ⟨by cases e<;>exact a,vs,g,b⟩);exact m.cZ (bC.refl _) i
theorem aI{f:am}{fn:Func}(ag:am->Bool)(h:aq P f fn)(a:P.follows .mixedOrders=true){args:List PV}{v:PV}(b:args.length<=fn.ntmps)
 (c:eD P ag (fn.ntmps,0) (fn.body.getD .skip) (rr P fn.results.toList v) ⟨iG 0 (args.map .p),[]⟩):au P f args v:=.inl (Wt ag h a b c)
theorem Qj{α:Type}{N:Nat×Nat->Prop}{f:α->PV}{l:List α}:aX N (l.map fun x=>.p (f x))=True:=by
 rw[cV,eq_iff_iff,iff_true];intro v a;simp only[a3]at a;obtain⟨x,_,rfl⟩:=a;trivial
theorem aId{α:Type}{N:Nat×Nat->Prop}{f:α->PV}{l:List α}{i:Nat}:aX N ((l.map fun x=>.p (f x)).take i)=True:=by
 rw[cV,eq_iff_iff,iff_true];intro v a;have a:=List.mem_of_mem_take a;simp only[a3]at a;obtain⟨x,_,rfl⟩:=a;trivial
theorem Vu{N:Nat×Nat->Prop}{a b:List AV}:aX N (a++b)=(aX N a/\aX N b):=by
 simp only[cV,List.mem_append,eq_iff_iff];exact⟨fun h=>⟨fun v c=>h v (.inl c),fun v c=>h v (.inr c)⟩,fun h v c=>c.elim (h.1 v) (h.2 v)⟩
theorem Sj{α:Type}{l:List α}{i:Nat}:(l.take i).take i=l.take i:=by simp[List.take_take]
theorem Si{α β:Type}{f:α->β}{l:List α}:(l.map f).take l.length=l.map f:=List.take_of_length_le (by simp)
section loops
variable{α:Type}(N:Nat)(mk:α->St)(ok:α->Prop)(m:α->Nat)(n:Nat)(Q:bu->St->Prop)
def Ed(s:Tg (N,mk,ok,m,n) St):Prop:=tX N mk ok m n s
def yZ(e:Tg (N,mk,ok,m,n,Q) bu)(s:Tg (N,mk,ok,m,n,Q) St):Prop:=qX N mk ok m n Q e s
variable{N}{mk}{ok}{m}{n}{Q}{s s':St}
theorem SV:yZ N mk ok m n Q .normal s=Ed N mk ok m n s:=(rfl)
theorem Um{id:Nat}:yZ N mk ok m n Q (.exit id) s=Q (.exit id) s:=(rfl)
theorem Vg:yZ N mk ok m n Q .ret s=Q .ret s:=(rfl)
theorem lp{d:Nat}{b:Code}(mk:α->St)(ok:α->Prop)(m:α->Nat)(c:α)(e:ok c)(gS:∀a,ok a->eD P ag (d,N) b (yZ N mk ok m (m a) Q) (mk a))
 (hn:(mk c).heap.take N=s.heap.take N:=by simp)(he:lN (mk c).heap s.env (mk c).env:=by simp)(hh:gQ (mk c).heap s.heap (mk c).heap:=by simp)(hr:gV (mk c).heap (mk c).env:=by simp)(hr2:dC (mk c).heap (mk c).heap:=by simp):
 eD P ag (d,N) (.loop b) Q s:=wl (q:=(d,N)) mk ok m c e gS hn he hh hr hr2
theorem rd(a':α)(a:ok a')(h1:m a'<n:=by omega)(hn:(mk a').heap.take N=s.heap.take N:=by simp)(he:lN (mk a').heap s.env (mk a').env:=by simp)(hh:gQ (mk a').heap s.heap (mk a').heap:=by simp)(hr:gV (mk a').heap (mk a').env:=by simp)(hr2:dC (mk a').heap (mk a').heap:=by simp):
 Ed N mk ok m n s:=rnd a' a h1 hn he hh hr hr2
end loops
section calls
variable{f:am}{H H1:aj}{K:AV->aj->Prop}{L:aW->Prop}{v a b c d e a' b' c' d' e':PV}
theorem c0(h:au P f [] v)(hk:K (.p v) H):ki P false f K [] H:=Y7 h hk
theorem c1(h:au P f [a'] v)(hk:K (.p v) H)(h1:Wk a a':=by first|exact Wk.refl _|simp):ki P false f K [.p a] H:=Y8 h hk h1
theorem c2(h:au P f [a',b'] v)(hk:K (.p v) H)(h1:Wk a a':=by first|exact Wk.refl _|simp)(c:Wk b b':=by first|exact Wk.refl _|simp):ki P false f K [.p a,.p b] H:=Y9 h hk h1 c
theorem c3(h:au P f [a',b',c'] v)(hk:K (.p v) H)(h1:Wk a a':=by first|exact Wk.refl _|simp)(d:Wk b b':=by first|exact Wk.refl _|simp)(e:Wk c c':=by first|exact Wk.refl _|simp):ki P false f K [.p a,.p b,.p c] H:=Za h hk h1 d e
theorem c4(h:au P f [a',b',c',d'] v)(hk:K (.p v) H)(e:Wk a a':=by first|exact Wk.refl _|simp)(g:Wk b b':=by first|exact Wk.refl _|simp)(i:Wk c c':=by first|exact Wk.refl _|simp)(j:Wk d d':=by first|exact Wk.refl _|simp):ki P false f K [.p a,.p b,.p c,.p d] H:=Zb h hk e g i j
theorem c5(h:au P f [a',b',c',d',e'] v)(hk:K (.p v) H)(g:Wk a a':=by first|exact Wk.refl _|simp)(i:Wk b b':=by first|exact Wk.refl _|simp)(j:Wk c c':=by first|exact Wk.refl _|simp)(k:Wk d d':=by first|exact Wk.refl _|simp)(l:Wk e e':=by first|exact Wk.refl _|simp):ki P false f K [.p a,.p b,.p c,.p d,.p e] H:=Zc h hk g i j k l
theorem e0(h:au P f [] v)(hk:L {v:=.p v}):mC P f L [] H:=YS h hk
theorem e1(h:au P f [a'] v)(hk:L {v:=.p v})(h1:Wk a a':=by first|exact Wk.refl _|simp):mC P f L [.p a] H:=YT h hk h1
theorem e2(h:au P f [a',b'] v)(hk:L {v:=.p v})(h1:Wk a a':=by first|exact Wk.refl _|simp)(c:Wk b b':=by first|exact Wk.refl _|simp):mC P f L [.p a,.p b] H:=YU h hk h1 c
theorem e3(h:au P f [a',b',c'] v)(hk:L {v:=.p v})(h1:Wk a a':=by first|exact Wk.refl _|simp)(d:Wk b b':=by first|exact Wk.refl _|simp)(e:Wk c c':=by first|exact Wk.refl _|simp):mC P f L [.p a,.p b,.p c] H:=YV h hk h1 d e
theorem e4(h:au P f [a',b',c',d'] v)(hk:L {v:=.p v})(e:Wk a a':=by first|exact Wk.refl _|simp)(g:Wk b b':=by first|exact Wk.refl _|simp)(i:Wk c c':=by first|exact Wk.refl _|simp)(j:Wk d d':=by first|exact Wk.refl _|simp):mC P f L [.p a,.p b,.p c,.p d] H:=YW h hk e g i j
theorem e5(h:au P f [a',b',c',d',e'] v)(hk:L {v:=.p v})(g:Wk a a':=by first|exact Wk.refl _|simp)(i:Wk b b':=by first|exact Wk.refl _|simp)(j:Wk c c':=by first|exact Wk.refl _|simp)(k:Wk d d':=by first|exact Wk.refl _|simp)(l:Wk e e':=by first|exact Wk.refl _|simp):mC P f L [.p a,.p b,.p c,.p d,.p e] H:=YX h hk g i j k l
theorem cp{args:List AV}{vs a:List PV}(h:au P f a v)(b:mP H args=some (vs,H1))(hk:K (.p v) H1)(h1:bC vs a:=by first|exact bC.refl _|simp):ki P false f K args H:=Zd h b hk h1
theorem ep{args:List AV}{vs a:List PV}{bs:List Nat}{al aM:List (Nat×Obj)}(h:au P f a v)(b:nN H args=some (vs,bs))(hf:kP H bs=some (al,aM))(hk:L {v:=.p v,al,aM})(h1:bC vs a:=by first|exact bC.refl _|simp):mC P f L args H:=YZ h b hf hk h1
theorem ci{args:List AV}{H':aj}{v:AV}(h:cE P f H args H' v)(hk:K v H'):ki P false f K args H:=.inr ⟨rfl,.inr (.inl ⟨H',v,h,hk⟩)⟩
end calls
attribute [simp] Qj aId Vu Sj wR LZ aH1 aH2 Lf aH0 xM Bs Jb Si aX SB TZ U5 Tj TO SI Ti TT Tz UQ UR Uz Tf VD Tn SV Um Vg mP kA nN ma kP lV
 aJg Wa aJe aJf V8 aJd V9 bt JF aJc SZ UI UO TA Vz Xs W8 aJi V7 Vc aJo V6 Vb Zn VJ Zp XE Zf XC Sx Zk Xx Ze Zr Zh T5 Tv Tu XA Zj Zg aHL Vk aHO Xh aHy Xg SE aHF Xb aHx aHQ aHA Uf SO S5 Xe aHD aHz Xy Xc VH Vi Tq S2 VI Vj Xz Xd Zo aHM Tt S4 Ty TS Zm aHK Zl aHJ T4 Ue VK Vl Zi aHB Y2 Y5 Y4 Y6
end
section
variable{P:ao}{ag:am->Bool}{q:Cx}
theorem IB{r:eC}{K a:aW->Prop}(hk:∀e,K e->a e)(h:bh r K):bh r a:=by
 unfold bh at h⊢
 split at h
 ·exact⟨h.1,hk _ h.2⟩
 ·exact h.elim
theorem Uk{o:Oper}{e:Env}{H:aj}{K a:aW->Prop}(hk:∀e,K e->a e)(h:fu P ag o (ev e) H K):fu P ag o (ev e) H a:=by
 obtain⟨x,b,c⟩:=Ci (ag:=ag) o (ev e) H K h;exact c a (hk x b)
theorem J5{o:Oper}{e:Env}{H:aj}{K a:aW->Prop}(hk:∀e,K e->a e)(h:kx P ag o e H K):kx P ag o e H a:=by
 unfold kx at h⊢
 repeat' split at h
 all_goals first|exact hk _ h|exact IB hk h|exact⟨h.1,IB hk h.2⟩|exact Uk hk h|exact h.elim
theorem He{d:Bool}{f:am}{args:List AV}{H:aj}{K i:AV->aj->Prop}(hk:∀v H,K v H->i v H)(h:gO P d f args H K):gO P d f args H i:=by
 rcases h with⟨vs,v,a,b,c⟩|⟨g,⟨vs,H1,v,a,b,c⟩|⟨H',v,a,b⟩|⟨e,a,b,c⟩|⟨al,v,a,b,c⟩⟩
 ·exact .inl ⟨vs,v,a,b,hk _ _ c⟩
 ·exact .inr ⟨g,.inl ⟨vs,H1,v,a,b,hk _ _ c⟩⟩
 ·exact .inr ⟨g,.inr (.inl ⟨H',v,a,hk _ _ b⟩)⟩
 ·exact .inr ⟨g,.inr (.inr (.inl ⟨e,a,b,hk _ _ c⟩))⟩
 ·exact .inr ⟨g,.inr (.inr (.inr ⟨al,v,a,b,hk _ _ c⟩))⟩
theorem HC{f:am}{args:List AV}{H:aj}{K d:aW->Prop}(hk:∀e,K e->d e)(h:gU P f args H K):gU P f args H d:=by
 rcases h with⟨vs,v,a,b,c⟩|⟨vs,bs,al,aM,v,a,b,c,g⟩|⟨e,a,b,c⟩|⟨al,v,a,b,c⟩
 ·exact .inl ⟨vs,v,a,b,hk _ c⟩
 ·exact .inr (.inl ⟨vs,bs,al,aM,v,a,b,c,hk _ g⟩)
 ·exact .inr (.inr (.inl ⟨e,a,b,hk _ c⟩))
 ·exact .inr (.inr (.inr ⟨al,v,a,b,hk _ c⟩))
theorem GU{o:Oper}{K b:St->Prop}{s:St}(hk:∀s,K s->b s)(h:dj P ag o K s):dj P ag o b s:=by
 unfold dj at h⊢
 split at h
 ·rename_i f args g i;unfold qV at h⊢
  split at h
  ·exact He (fun v H a=>hk _ a) h
  ·exact He (fun v H a=>hk _ a) h
  ·obtain⟨H',v,c,d⟩:=h;exact⟨H',v,c,hk _ d⟩
  ·exact h.elim
 ·exact J5 (fun e a=>hk _ a) h
theorem Hm{o:Oper}{s:St}{K a:aW->Prop}(hk:∀e,K e->a e)(h:dm P ag o s K):dm P ag o s a:=by
 unfold dm at h⊢
 split at h
 ·rename_i f args g i;unfold qJ at h⊢
  split at h
  ·exact HC hk h
  ·exact HC hk h
  ·obtain⟨e,b,c,d⟩:=h;exact⟨e,b,c,hk _ d⟩
  ·exact h.elim
 ·exact J5 hk h
theorem uw{c:Array Oper}:∀(l:List Oper){K a:St->Prop}{s:St},(∀s,K s->a s)->fR P ag c l K s->fR P ag c l a s
 |[],K,a,s,hk,h=>hk s h
 |o::l,K,a,s,hk,h=>by
  simp only[fR]at h⊢
  split at h
  ·exact GU (fun s hs=>uw l hk hs) h
  ·split at h
   ·split at h
    ·rename_i b;rw[if_pos b];exact GU (fun s hs=>uw l hk hs) h
    ·rename_i b;rw[if_neg b];exact uw l hk h
   ·exact uw l hk h
   ·exact h.elim
theorem ur{d:Array Oper}:∀(l:List Oper){i:Nat}{b:List Touch}{K a:St->Prop}{s:St},(∀s,K s->a s)->fX P ag d l i b K s->fX P ag d l i b a s
 |[],i,b,K,a,s,hk,h=>⟨h.1,hk s h.2⟩
 |o::l,i,b,K,a,s,hk,h=>by
  simp only[fX]at h⊢
  split at h
  ·exact Hm (fun e hs=>ur l hk hs) h
  ·split at h
   ·split at h
    ·rename_i c;rw[if_pos c];exact Hm (fun e hs=>ur l hk hs) h
    ·rename_i c;rw[if_neg c];exact ur l hk h
   ·exact ur l hk h
   ·exact h.elim
theorem mY:∀(c:Code){Q g:bu->St->Prop}{s:St},(∀e s,Q e s->g e s)->di P ag q c Q s->di P ag q c g s
 | .skip,Q,g,s,hq,h=>hq _ _ h
 | .label _,Q,g,s,hq,h=>hq _ _ h
 | .exit _,Q,g,s,hq,h=>hq _ _ h
 | .ret,Q,g,s,hq,h=>hq _ _ h
 | .region _ ops draw,Q,g,s,hq,h=>by
  simp only[di]at h⊢
  split at h
  ·rename_i j;rw[if_pos j];exact ur _ (fun s hs=>hq _ _ hs) h
  ·rename_i j;rw[if_neg j];exact uw _ (fun s hs=>hq _ _ hs) h
 | .seq a b,Q,g,s,hq,h=>by
  simp only[di]at h⊢;refine mY a (fun e s d=>?_) h;cases e with
  |normal=>exact mY b hq d
  |exit i=>exact hq _ _ d
  |ret=>exact hq _ _ d
 | .cond c a b,Q,g,s,hq,h=>by
  simp only[di]at h⊢;unfold tg at h⊢
  split at h
  ·split at h
   ·rename_i k;rw[if_pos k];exact mY a hq h
   ·rename_i k;rw[if_neg k];exact mY b hq h
  ·exact h.elim
 | .block id b,Q,g,s,hq,h=>by
  simp only[di]at h⊢;refine mY b (fun e s d=>?_) h;cases e with
  |normal=>exact hq _ _ d
  |exit i=>
   simp only[nH]at d⊢
   by_cases hi:i=id
   ·simp only[hi,if_true]at d⊢;exact hq _ _ d
   ·simp only[hi,if_false]at d⊢;exact hq _ _ d
  |ret=>exact hq _ _ d
 | .scope b,Q,g,s,hq,h=>mY b hq h
 | .loop b,Q,g,s,hq,h=>by
  simp only[di]at h⊢;obtain⟨I,l,m⟩:=h;refine⟨I,l,fun n t hI=>mY b (fun e s d=>?_) (m n t hI)⟩;cases e with
  |normal=>exact d
  |exit id=>exact hq _ _ d
  |ret=>exact hq _ _ d
 | .rangeFunc f o a b,Q,g,s,hq,h=>by
  simp only[di]at h⊢;exact⟨h.1,Ib (fun H=>Ig hq) h.2⟩
 | .goto _,_,_,_,_,h=>h.elim
 | .refuse _,_,_,_,_,h=>h.elim
def qZ(R:St->Prop)(Q:bu->St->Prop)(e:Tg (R,Q) bu)(s:Tg (R,Q) St):Prop:=match e with
 | .normal=>R s
 |e=>Q e s
theorem SM{R:St->Prop}{Q:bu->St->Prop}{s:St}:qZ R Q .normal s=R s:=(rfl)
theorem Ur{R:St->Prop}{Q:bu->St->Prop}{id:Nat}{s:St}:qZ R Q (.exit id) s=Q (.exit id) s:=(rfl)
theorem VP{R:St->Prop}{Q:bu->St->Prop}{s:St}:qZ R Q .ret s=Q .ret s:=(rfl)
theorem join{a b:Code}{Q:bu->St->Prop}{s:St}(R:St->Prop)(d:eD P ag q a (qZ R Q) s)(f:∀s',R s'->eD P ag q b Q s'):eD P ag q (.seq a b) Q s:=by
 rw[bt];refine mY a (fun e s c=>?_) d;cases e with
 |normal=>exact f s c
 |exit i=>exact c
 |ret=>exact c
theorem Qk{α:Type}{N:Nat×Nat->Prop}{f:α->PV}{l:List α}:aX N (l.map (AV.p∘f))=True:=Qj
attribute [simp] SM Ur VP Qk
end
section
variable{P:ao}{ag:am->Bool}
def vu(P:ao)(a:List ap)(N:Nat)(H':aj)(v:AV)(e:Tg (a,N,H',v) bu)(s:Tg (a,N,H',v) St):Prop:=tv P a N H' v e s
theorem Uv{a:List ap}{N:Nat}{H':aj}{v:AV}{s:St}:vu P a N H' v .ret s=∃vs,fC P s a=some vs/\oneOf vs=v/\(H'=s.heap\/(dc N s ⟨[],H'⟩/\aE (aJ H') v)):=by simp[vu,tv]
theorem Sw{a:List ap}{N:Nat}{H':aj}{v:AV}{s:St}:vu P a N H' v .normal s=∃vs,fC P s a=some vs/\oneOf vs=v/\(H'=s.heap\/(dc N s ⟨[],H'⟩/\aE (aJ H') v)):=by simp[vu,tv]
theorem fF{f:am}{fn:Func}(ag:am->Bool)(h:aq P f fn)(a:P.follows .mixedOrders=true){args:List AV}{H H':aj}{v:AV}(b:args.length<=fn.ntmps)
 (c:eD P ag (fn.ntmps,H.length) (fn.body.getD .skip) (vu P fn.results.toList H.length H' v) ⟨iG 0 args,H⟩):cE P f H args H' v:=
 O3 ag h a b (lB (Q':=tv P fn.results.toList H.length H' v) _ (fun _ _ h=>h) c)
theorem aIu{n i:Nat}:sig [] n i=n+i:=by simp[sig]
theorem cn{f:am}{H H':aj}{K:AV->aj->Prop}{v:AV}{args:List PV}(h:cE P f [] (args.map .p) H' v)(hk:K (cF (sig [] H.length) v) (H++H'.map (cX (sig [] H.length)))):ki P false f K (args.map .p) H:=by
 refine .inr ⟨rfl,.inr (.inr (.inl ⟨dv [] H.length [] H' v,?_,⟨by simp[dv],by simp[dv]⟩,?_⟩))⟩
 ·have b:aX (aJ ([]:aj)) (args.map .p):=by rw[cV];intro v c;obtain⟨x,_,rfl⟩:=a3.1 c;trivial
  have:=h.frame [] H.length rfl List.nodup_nil (by simp) (by simp) b (by simp);have e:cO (sig [] H.length) (args.map .p)=args.map .p:=by
   clear h b this hk
   induction args with
   |nil=>rfl
   |cons a r d=>simp only[a1,cO,cF,d]
  rwa [e]at this
 ·simpa[dv,bc]using hk
theorem OH{f:am}{H H':aj}{K:AV->aj->Prop}{v:AV}{a b:PV}(h:cE P f [] [.p a,.p b] H' v)(hk:K (cF (sig [] H.length) v) (H++H'.map (cX (sig [] H.length)))):ki P false f K [.p a,.p b] H:=cn (args:=[a,b]) h hk
def NP(P:ao)(T:ac)(f:Nat):Option (ac×ji):=match kindOf P T,P.underlying T with
 | .agg u,some (.struct _)=>((jm P u)[f]?).map fun F=>(u,kindOf P F)
 |_,_=>none
def yL(P:ao)(T:ac)(f:Nat)(x:AV):eC:=match NP P T f,x with
 |some (u,k),.p t=>match(bW t)[f]? with
  |some g=>some (aL t=.agg u/\k=aL g,{v:=.p g})
  |none=>none
 |_,_=>none
theorem JS{T:ac}{x:AV}{f:Nat}{K:aW->Prop}:(match kindOf P T,P.underlying T,x with
  | .agg u,some (.struct _),.p t=>aL t=.agg u/\(match(bW t)[f]?,(jm P u)[f]? with
   |some g,some F=>kindOf P F=aL g/\K {v:=.p g}
   |_,_=>False)
  |_,_,_=>False)=bh (yL P T f x) K:=by
 unfold yL NP;cases b:kindOf P T with
 |agg u=>cases c:P.underlying T with
  |none=>simp[bh]
  |some d=>cases d with
   |struct fs=>cases x with
    |p t=>cases hc:(jm P u)[f]?<;>cases a:(bW t)[f]?<;>simp[bh,a,hc,and_assoc]
    |_=>cases hc:(jm P u)[f]?<;>simp[bh,hc]
   |_=>simp[bh]
 |_=>simp[bh]
section fields
variable{dst:Option Tmp}{ty:Nat}{pos:String}{af:Array Edge}{g:Option (Nat×Bool)}{env:Env}{heap:aj}{L:St->Prop}{K:aW->Prop}{T:ac}{x:ab}{f:Nat}
theorem Xf:dR P ag ⟨dst,.field T x f,ty,pos,af,g⟩ L ⟨env,heap⟩ ()=cz (eA dst ⟨env,heap⟩ L) (yL P T f (ev env x)):=JS
theorem XB:dO P ag ⟨dst,.field T x f,ty,pos,af,g⟩ ⟨env,heap⟩ K ()=cz K (yL P T f (ev env x)):=JS
end fields
theorem xL{σ:Nat->Nat}{α:Type}{f:α->PV}:∀{l:List α},cO σ (l.map (AV.p∘f))=l.map (AV.p∘f)
 |[]=>rfl
 |a::l=>by simp only[a1,cO,xL (l:=l)];rfl
theorem Vv{σ:Nat->Nat}{α β:Type}{f:β->PV}{g:α->β}{l:List α}:cO σ (l.map ((AV.p∘f)∘g))=l.map ((AV.p∘f)∘g):=xL (f:=f∘g)
theorem aIb{α β:Type}{N:Nat×Nat->Prop}{f:β->PV}{g:α->β}{l:List α}:aX N (l.map ((AV.p∘f)∘g))=True:=Qk (f:=f∘g)
attribute [simp] Xf XB Vv aIb Uv Sw aIu cF cO cX xL
end
section
variable{P:ao}{ag:am->Bool}
theorem Ki{T:aj}:∀{h:aj},gQ T h h=True
 |[]=>by simp[gQ]
 |o::h=>by simp[gQ,LG,Ki (h:=h)]
theorem Cg{T:aj}:∀{h k:aj},dC T (h++k)=(dC T h/\dC T k)
 |[],k=>by simp[dC]
 |o::h,k=>by simp[dC,Cg (h:=h),and_assoc]
theorem aIc{N:Nat×Nat->Prop}{n:Nat}{v:PV}:aX N (bi n (.p v))=True:=by
 rw[cV,eq_iff_iff,iff_true];intro x hx;rw[(List.mem_replicate.1 hx).2];trivial
theorem W5{σ:Nat->Nat}{α:Type}{f:α->PV}{l:List α}:cO σ (l.map fun x=>.p (f x))=l.map fun x=>.p (f x):=xL (f:=f)
theorem D1{L:dP}{e:Env}{H:aj}(h:L.env=e)(a:gV H e):∀x,aE (aJ H) (aQ L.env x):=by rw[h];exact a.get
def dP.bz(L:dP):dP:={L with st:=.busy}
def dP.dn(L:dP)(j:Code):dP:={L with st:=.done,pending:=some j}
def dP.xh(L:dP):dP:={L with st:=.exhausted}
theorem ET{L:dP}{e:Env}{H:aj}{j:Code}(h:L.env=e)(a:gV H e):∀x,aE (aJ H) (aQ (L.dn j).env x):=D1 h a
def Stream(P:ao)(g:am)(fi ca:List PV)(d:List (List PV)):Prop:=
 ∀(b k:Nat)(c:Nat->aj)(H':aj),k<=d.length->(∀i,i<=k->dC (c i) (c i)/\aE (aJ (c i)) (.map b))->
  (∀i a,i<k->d[i]?=some a->fh P b (c i) (a.map .p) (c (i+1)) (.p (.bool true)))->
  (k=d.length/\H'=c k\/∃a,d[k]?=some a/\fh P b (c k) (a.map .p) H' (.p (.bool false)))->
  cE P g (c 0) (fi.map .p++[.map b]++ca.map .p) H' (.p (.aC []))
theorem Y3{b:Nat}{args:List AV}{M:AV->aj->Prop}{heap:aj}:zw P heap M (.map b) args=∃H' v,fh P b heap args H' v/\M v H':=(rfl)
def tO(b:Nat)(L:dP)(N:Nat)(H':aj)(v:Bool)(e:Tg (b,L,N,H',v) bu)(s:Tg (b,L,N,H',v) St):Prop:=
 match e with
 | .normal=>v=true/\(St.heap s)[b]?=some (.loop L.bz)/\dc N ⟨[],(St.heap s).set b (.loop L)⟩ ⟨[],H'⟩
 | .exit id=>v=false/\(St.heap s)[b]?=some (.loop L.bz)/\dc N ⟨[],(St.heap s).set b (.loop (L.dn (.exit id)))⟩ ⟨[],H'⟩
 | .ret=>v=false/\(St.heap s)[b]?=some (.loop L.bz)/\dc N ⟨[],(St.heap s).set b (.loop (L.dn .ret))⟩ ⟨[],H'⟩
section
variable{b N:Nat}{L:dP}{H':aj}{v:Bool}{s:St}
theorem UL:tO b L N H' v .normal s=(v=true/\s.heap[b]?=some (.loop L.bz)/\dc N ⟨[],s.heap.set b (.loop L)⟩ ⟨[],H'⟩):=(rfl)
theorem W7{id:Nat}:tO b L N H' v (.exit id) s=(v=false/\s.heap[b]?=some (.loop L.bz)/\dc N ⟨[],s.heap.set b (.loop (L.dn (.exit id)))⟩ ⟨[],H'⟩):=(rfl)
theorem aH5:tO b L N H' v .ret s=(v=false/\s.heap[b]?=some (.loop L.bz)/\dc N ⟨[],s.heap.set b (.loop (L.dn .ret))⟩ ⟨[],H'⟩):=(rfl)
end
def D0(P:ao)(ag:am->Bool)(q:Cx)(b:Nat)(c:Code)(L:dP)(H':aj)(v:Bool)(e:Tg (q,b,c,L,H',v) bu)(s:Tg (q,b,c,L,H',v) St):Prop:=
 match e with
 | .normal=>(St.heap s)[b]?=some (.loop L)/\eD P ag q c (tO b L q.2 H' v) ⟨St.env s,(St.heap s).set b (.loop L.bz)⟩
 |_=>False
theorem UM{q:Cx}{b:Nat}{c:Code}{L:dP}{H':aj}{v:Bool}{s:St}:D0 P ag q b c L H' v .normal s=(s.heap[b]?=some (.loop L)/\eD P ag q c (tO b L q.2 H' v) ⟨s.env,s.heap.set b (.loop L.bz)⟩):=(rfl)
theorem wM(ag:am->Bool)(r:P.follows .mixedOrders=true){b n:Nat}{L:dP}{H H':aj}{args:List AV}{v:Bool}{j:List Tmp}{a c:Code}{env:Env}
 (d:L=⟨.ready,none,n,j,a,c,env⟩)(o:H[b]?=some (.loop L))(q:args.length=j.length)
 (t:(j.all (fun x=>decide (x<n))&&codeOk fit n a&&codeOk fit n c)=true)
 (u:eD P ag (n,H.length) a (D0 P ag (n,H.length) b c L H' v) ⟨qG j args env,H⟩):fh P b H args H' (.p (.bool v)):=by
 refine O4 ag r o (by rw[d];exact q) (by rw[d];exact t) ?_;unfold yf;have e1:L.n=n:=by rw[d]
 have e2:L.assign=a:=by rw[d]
 have e3:L.body=c:=by rw[d]
 have e4:L.params=j:=by rw[d]
 have e5:L.env=env:=by rw[d]
 have k:L.st=.ready:=by rw[d]
 rw[e1,e2,e3,e4,e5];refine lB (Q:=D0 P ag (n,H.length) b c L H' v) _ (fun e s h=>?_) u;cases e with
 |normal=>
  obtain⟨l,m⟩:=h;simp only[xn,l];refine⟨k,lB (Q:=tO b L H.length H' v) _ (fun e s h=>?_) m⟩;cases e with
  |normal=>
   obtain⟨rfl,f,g⟩:=h;have i:s.heap[b]?=some (.loop L.bz):=f;simp only[sy,i,gN];refine⟨rfl,?_⟩;have:({L.bz with st:=LoopState.ready,pending:=none}:dP)=L:=by subst d;rfl
   simpa[this]using g
  |exit id=>
   obtain⟨rfl,f,g⟩:=h;have i:s.heap[b]?=some (.loop L.bz):=f;simp only[sy,i,gN];exact⟨rfl,g⟩
  |ret=>
   obtain⟨rfl,f,g⟩:=h;have i:s.heap[b]?=some (.loop L.bz):=f;simp only[sy,i,gN];exact⟨rfl,g⟩
 |exit id=>exact h.elim
 |ret=>exact h.elim
theorem rf{f:ab}{h:Array Tmp}{a c:Code}{Q:bu->St->Prop}{env:Env}{heap:aj}{q:Cx}{g:am}{fi ca:List PV}{n:List (List PV)}(aN:Stream P g fi ca n)(hf:ev env f= .p (.func g fi ca))(hq:q.2<=heap.length)
 (X:dP->Nat->aj)(k:Nat)(hk:k<=n.length)(u:∀L,X L 0=heap++[.loop L])
 (hx:∀L,L=⟨.ready,none,q.1,h.toList,a,c,env⟩->∀i,i<=k->(X L i)[heap.length]?=some (.loop L)/\gV (X L i) env/\(gV (X L i) env->(∀x,aE (aJ (X L i)) (aQ L.env x))->dC (X L i) (X L i)))
 (t:∀L,L=⟨.ready,none,q.1,h.toList,a,c,env⟩->∀i x,i<k->n[i]?=some x->fh P heap.length (X L i) (x.map .p) (X L (i+1)) (.p (.bool true)))
 (y:∀L,L=⟨.ready,none,q.1,h.toList,a,c,env⟩->(k=n.length/\Q .normal ⟨env,(X L k).set heap.length (.loop L.xh)⟩)\/
  ∃x j l,n[k]?=some x/\l[heap.length]?=some (.loop (L.dn j))/\fh P heap.length (X L k) (x.map .p) l (.p (.bool false))/\je Q (some j) ⟨env,l.set heap.length (.loop (L.dn j).xh)⟩):
 eD P ag q (.rangeFunc f h a c) Q ⟨env,heap⟩:=by
 obtain⟨L,b⟩:∃L:dP,L=⟨.ready,none,q.1,h.toList,a,c,env⟩:=⟨_,rfl⟩
 have s:=aN heap.length k (X L);refine⟨hq,?_⟩;show ja P (ev env f) heap.length (heap++[.loop ⟨.ready,none,q.1,h.toList,a,c,env⟩]) (il heap.length env Q);rw[hf];simp only[ja];rw[<-b,<-u L];have r:∀i,i<=k->dC (X L i) (X L i)/\aE (aJ (X L i)) (.map heap.length):=by
  intro i hi;obtain⟨m,d,o⟩:=hx L b i hi;have e5:L.env=env:=by rw[b]
  refine⟨o d (by rw[e5];exact d.get),?_⟩;simp only[aE,aJ,m];exact⟨_,rfl,by simp[Obj.has]⟩
 rcases y L b with⟨m,d⟩|⟨x,j,l,m,d,o,v⟩
 ·refine⟨_,_,s (X L k) hk r (t L b) (.inl ⟨m,rfl⟩),?_⟩;have w:=(hx L b k (bl k)).1;simp only[il,w];refine⟨by rw[b];simp,?_⟩;have:L.pending=none:=by rw[b]
  simp only[this,je];have e:L.xh={L with st:=.exhausted}:=rfl;rw[this]at e;rw[e]at d;exact d
 ·refine⟨_,_,s l hk r (t L b) (.inr ⟨x,m,o⟩),?_⟩;simp only[il,d];exact⟨by simp[dP.dn],v⟩
section ZO
variable{f:am}{H0 bS H:aj}{fG args:List AV}{v0:AV}{K:AV->aj->Prop}{L:aW->Prop}
theorem FU(h:cE P f H0 fG bS v0)(bs:List Nat)(e:bs.length=H0.length)(i:bs.Nodup)(g:∀b∈bs,b<H.length)(d:H0.length<=bS.length)(a:aX (aJ H0) fG)(j:dC H0 H0)(c:cO (sig bs H.length) fG=args):
 rq P f args H.length (dv bs H.length H0 bS v0):=by
 have:=h.frame bs H.length e i g d a j.get
 rwa [c]at this
theorem cf(h:cE P f H0 fG bS v0)(bs:List Nat)(hk:K (cF (sig bs H.length) v0) (bc H (bs.zip ((bS.take H0.length).map (cX (sig bs H.length))))++(bS.drop H0.length).map (cX (sig bs H.length))))(al:∀p∈bs.zip (H0.map (cX (sig bs H.length))),H[p.1]?=some p.2:=by simp[sig])(aM:∀p∈bs.zip ((bS.take H0.length).map (cX (sig bs H.length))),p.1<H.length/\p.2≠ .hole:=by simp[sig])
 (e:bs.length=H0.length:=by simp)(i:bs.Nodup:=by simp)(g:∀b∈bs,b<H.length:=by simp)(d:H0.length<=bS.length:=by simp)(a:aX (aJ H0) fG:=by simp)(hr:dC H0 H0:=by simp)(c:cO (sig bs H.length) fG=args:=by simp[sig]):ki P false f K args H:=
 .inr ⟨rfl,.inr (.inr (.inl ⟨_,FU h bs e i g d a hr c,⟨al,aM⟩,hk⟩))⟩
theorem ef(h:cE P f H0 fG bS v0)(bs:List Nat)(hk:L {v:=cF (sig bs H.length) v0,al:=bs.zip (H0.map (cX (sig bs H.length))),aM:=bs.zip ((bS.take H0.length).map (cX (sig bs H.length))),aS:=(bS.drop H0.length).map (cX (sig bs H.length))})(al:∀p∈bs.zip (H0.map (cX (sig bs H.length))),H[p.1]?=some p.2:=by simp[sig])(aM:∀p∈bs.zip ((bS.take H0.length).map (cX (sig bs H.length))),p.1<H.length/\p.2≠ .hole:=by simp[sig])
 (e:bs.length=H0.length:=by simp)(i:bs.Nodup:=by simp)(g:∀b∈bs,b<H.length:=by simp)(d:H0.length<=bS.length:=by simp)(a:aX (aJ H0) fG:=by simp)(j:dC H0 H0:=by simp)(c:cO (sig bs H.length) fG=args:=by simp[sig]):mC P f L args H:=
 .inr (.inr (.inl ⟨_,FU h bs e i g d a j c,⟨al,aM⟩,hk⟩))
end ZO
section bytes
variable{dst:Option Tmp}{ty:Nat}{pos:String}{af:Array Edge}{g:Option (Nat×Bool)}{env:Env}{heap:aj}{L:St->Prop}{K:aW->Prop}
theorem Zq{x:ab}{d:Array ac}{b az ai off len:Nat}{k:AK}{es:List AV}(hx:ev env x= .sl b az ai off len)(f:heap[b]?=some (.arr k az ai es))(e:0<len)(h:off+len<=es.length)
 (hk:K {v:=.bZ b az ai off [],al:=[(b,.arr k az ai es)]}):dO P ag ⟨dst,.call {callee:=.builtin .unsafeSliceData,args:=#[x],argTypes:=d},ty,pos,af,g⟩ ⟨env,heap⟩ K ():=by
 show(match ev env x with
   | .p .aO=>K {v:=.p .dH}
   | .sl b az ai off len=>(match heap[b]? with
    |some (.arr k c a es)=>az=c/\ai=a/\((k.gr=true/\es=[]/\K {v:=.p .dH,al:=[(b,.arr k c a es)]})\/(0<len/\off+len<=es.length/\K {v:=.bZ b az ai off [],al:=[(b,.arr k c a es)]}))
    |_=>False)
   |_=>False)
 rw[hx];simp only[f];exact⟨trivial,trivial,.inr ⟨e,h,hk⟩⟩
theorem Zs{x y:ab}{a:Array ac}{b az:Nat}{m:Int}{es:List AV}{l:List Nat}(hx:ev env x= .bZ b az 1 0 [])(o:ev env y= .p (.int .i64 m))(i:heap[b]?=some (.arr .bytes az 1 es))(c:0<m)(k:m.toNat<=es.length)(d:m<=9223372036854775807)
 (f:a.size=2)(e:ptrTo P (a.getD 0 0)=some Gl.u8)(n:P.cellsOf Gl.u8=1)(j:bytesOf (es.take m.toNat)=some l)
 (hk:K {v:=.p (.str l),al:=[(b,.arr .bytes az 1 es)],aM:=[(b,.dead)]}):dO P ag ⟨dst,.call {callee:=.builtin .unsafeString,args:=#[x,y],argTypes:=a},ty,pos,af,g⟩ ⟨env,heap⟩ K ():=by
 have h:fu P ag ⟨dst,.call {callee:=.builtin .unsafeString,args:=#[x,y],argTypes:=a},ty,pos,af,g⟩ (ev env) heap K:=by
  unfold fu;simp only[a1,List.map_nil,hx,o,i];exact⟨trivial,trivial,trivial,trivial,c,k,d,f,e,n,by rw[j];exact hk⟩
 exact h
end bytes
theorem rf2{f:ab}{h:Array Tmp}{a c:Code}{Q:bu->St->Prop}{env:Env}{heap:aj}{q:Cx}{g:am}{fi ca:List PV}{b:List (List PV)}(aN:Stream P g fi ca b)(hf:ev env f= .p (.func g fi ca))(hq:q.2<=heap.length)
 (X F:dP->Nat->aj)(okB:Nat->Bool)(j:Code)(k:Nat)(hk:k<=b.length)(u:∀i,i<k->okB i=true)(r:k=b.length\/(k<b.length/\okB k=false))(m:∀L,X L 0=heap++[.loop L])
 (hx:∀L,L=⟨.ready,none,q.1,h.toList,a,c,env⟩->∀i,i<=k->(X L i)[heap.length]?=some (.loop L)/\gV (X L i) env/\(gV (X L i) env->(∀x,aE (aJ (X L i)) (aQ L.env x))->dC (X L i) (X L i)))
 (l:∀L,L=⟨.ready,none,q.1,h.toList,a,c,env⟩->∀i x,i<=k->b[i]?=some x->fh P heap.length (X L i) (x.map .p) (if okB i=true then X L (i+1)else F L (i+1)) (.p (.bool (okB i))))
 (n:∀L,(F L (k+1))[heap.length]?=some (.loop (L.dn j)))
 (s:k=b.length->∀L,Q .normal ⟨env,(X L k).set heap.length (.loop L.xh)⟩)
 (v:k<b.length->∀L,je Q (some j) ⟨env,(F L (k+1)).set heap.length (.loop (L.dn j).xh)⟩):
 eD P ag q (.rangeFunc f h a c) Q ⟨env,heap⟩:=by
 refine rf aN hf hq X k hk m hx (fun L e i x hi t=>?_) (fun L e=>?_)
 ·have:=l L e i x (by omega) t;rw[u i hi]at this;exact this
 ·rcases r with d|⟨d,o⟩
  ·exact .inl ⟨d,s d L⟩
  ·right;refine⟨b[k],j,F L (k+1),ax d,n L,?_,v d L⟩;have:=l L e k b[k] (bl _) (ax d);rw[o]at this;exact this
attribute [simp] W5 aIc Ki Cg UL W7 aH5 UM Y3 qG
end
section
variable{P:ao}{ag:am->Bool}{w:av}{ad ah:Nat->Prop}{β:Bd}{H:aj}
def mG(K:Nat->Bool)(H:aj):aj:=H.mapIdx fun i o=>if K i then .dead else o
theorem BG{K:Nat->Bool}{b:Nat}:(mG K H)[b]?=(H[b]?).map fun o=>if K b then .dead else o:=by simp[mG]
theorem kL{K:Nat->Bool}{b:Nat}{o:Obj}(h:(mG K H)[b]?=some o):∃a,H[b]?=some a/\((K b=true/\o=.dead)\/(K b=false/\o=a)):=by
 rw[BG,Option.map_eq_some_iff]at h;obtain⟨a,d,c⟩:=h;refine⟨a,d,?_⟩;cases hk:K b<;>simp[hk]at c
 ·exact .inr ⟨rfl,c.symm⟩
 ·exact .inl ⟨rfl,c.symm⟩
theorem Cb{K:Nat->Bool}{x:Nat×Nat}(h:aJ H x):aJ (mG K H) x:=by
 obtain⟨o,a,b⟩:=h;refine⟨if K x.1 then .dead else o,by rw[BG,a];rfl,?_⟩
 split
 ·trivial
 ·exact b
theorem Bf{K:Nat->Bool}:cw β H β (mG K H):=by
 refine⟨fun b _ h=>⟨?_,rfl⟩,fun b _ h=>⟨?_,rfl⟩,fun b _ h=>⟨?_,rfl⟩,fun b az ai k e _ h=>⟨k,e,?_,bl _,Iff.rfl,fun _=>⟨rfl,rfl⟩⟩,fun b _ h=>⟨?_,rfl⟩⟩
 ·obtain⟨fz,t,h⟩:=h;obtain⟨d,c,a⟩:=kL h;rcases a with⟨_,a⟩|⟨_,rfl⟩
  ·cases a
  ·exact⟨fz,t,c⟩
 ·obtain⟨s,q,h⟩:=h;obtain⟨d,c,a⟩:=kL h;rcases a with⟨_,a⟩|⟨_,rfl⟩
  ·cases a
  ·exact⟨s,q,c⟩
 ·obtain⟨s,q,h⟩:=h;obtain⟨d,c,a⟩:=kL h;rcases a with⟨_,a⟩|⟨_,rfl⟩
  ·cases a
  ·exact⟨s,q,c⟩
 ·obtain⟨d,c,a⟩:=kL h;rcases a with⟨_,a⟩|⟨_,rfl⟩
  ·cases a
  ·exact c
 ·obtain⟨L,h⟩:=h;obtain⟨d,c,a⟩:=kL h;rcases a with⟨_,a⟩|⟨_,rfl⟩
  ·cases a
  ·exact⟨L,c⟩
def Ah(K:Nat->Bool)(ad:Nat->Prop)(β:Bd)(H:aj)(k:Nat):Prop:=ad k\/∃(b:Nat)(o:Obj),H[b]?=some o/\o.live/\K b=true/\β.an b=k
theorem bU.kill(K:Nat->Bool)(a:bU P w ad β H ah):bU P w ad β (mG K H) ah:=by
 refine⟨fun b o e=>?_,fun b b' o o' e n f g m l=>?_,fun b o e=>?_,a.bQ,a.dU,a.ir⟩
 ·obtain⟨i,c,d⟩:=kL e;rcases d with⟨_,rfl⟩|⟨_,rfl⟩
  ·trivial
  ·exact ff.carry (fun _ x=>x) (fun _ _=>rfl) Bf (a.refs b o c) (fun _=>⟨rfl,rfl,rfl⟩) (fun _ _ h=>h) (a.cJ b o c)
 ·obtain⟨i,c,d⟩:=kL e;obtain⟨p,j,k⟩:=kL n;rcases d with⟨_,rfl⟩|⟨_,rfl⟩
  ·exact f.elim
  rcases k with⟨_,rfl⟩|⟨_,rfl⟩
  ·exact g.elim
  exact a.inj b b' _ _ c j f g m l
 ·obtain⟨i,c,d⟩:=kL e;rcases d with⟨_,rfl⟩|⟨_,rfl⟩
  ·trivial
  ·exact Obj.uM (fun _ h=>Cb h) (a.refs b o c)
theorem bU.aGW(K:Nat->Bool)(a:bU P w ad β H ah):bU P w (Ah K ad β H) β (mG K H) ah:=by
 have hk:=a.kill K;have hi:∀k,ad k->Ah K ad β H k:=fun k h=>.inl h;refine⟨fun b o c=>?_,fun b b' o o' c r d p q n=>hk.inj b b' o o' c r d p (fun h=>q (hi _ h)) n,hk.refs,fun k h=>?_,a.dU,⟨fun g=>aD.mono hi (fun _ _=>rfl) _ _ (a.ir.val g),fun g cs h=>⟨hi _ (a.ir.raw g cs h).1,(a.ir.raw g cs h).2⟩⟩⟩
 ·have f:=c;obtain⟨t,j,l⟩:=kL c;rcases l with⟨_,rfl⟩|⟨s,rfl⟩
  ·trivial
  ·refine ff.carry hi (fun _ _=>rfl) (cw.refl β _) (hk.refs b o f) (fun _=>⟨rfl,rfl,rfl⟩) (fun d fz h=>?_) (hk.cJ b o f);cases fz with
   |true=>exact hi _ h
   |false=>
    refine⟨?_,h.2⟩;rintro(m|⟨e,i,g1,g2,g3,g4⟩)
    ·exact h.1 m
    ·have:=a.inj e b i o g1 j g2 d (by rw[g4];exact h.1) g4;rw[this,s]at g3;cases g3
 ·rcases h with h|⟨e,i,g1,g2,g3,rfl⟩
  ·exact a.bQ k h
  ·exact a.mr g1 g2
theorem ff.held{b:Nat}{o:Obj}(h:ff P w ad β H ah b o)(a:o.live):ad (β.an b)\/¬ah (β.an b):=by
 by_cases hi:ad (β.an b)
 ·exact .inl hi
 ·exact .inr (h.mut a hi)
theorem cE.pure{f:am}{args:List AV}{H':aj}{v:AV}{n:Nat}{p:PV}(K:Nat->Bool)(h:cE P f H args H' v)(C:et (mG (fun i=>!K i) H') n v=some p)(B:∀b L,K b=true->H[b]?≠some (.loop L)):
 cE P f H args (mG K H') (.p p):=by
 refine⟨h.1,fun w ad ah β t E z F=>(h.2 w ad ah β t E z F).mono ?_⟩;rintro e w' ⟨j,aK,aF,rfl,d,G,r⟩;have q:=d.rel;have A:=q.kill (fun i=>!K i);have I:aA P w' aF aK (mG (fun i=>!K i) H') v j:=aA.mono (fun _ x=>x) (fun _ _=>rfl) Bf _ _ r G;have D:=xo A n v p C (aE.mono (fun _ h=>Cb h) v r) j I;refine⟨j,aK,Ah K aF aK H',rfl,⟨fun k hk=>.inl (d.bQ k hk),?_,d.ext,?_,q.aGW K,fun x hx=>Cb (d.eP x hx),?_⟩,?_,trivial⟩
 ·rintro k (hk|⟨b,o,g1,g2,g3,rfl⟩)
  ·exact d.fresh k hk
  ·rcases(q.cJ b o g1).held g2 with h|h
   ·exact d.fresh _ h
   ·exact .inr h
 ·have aN:=d.step;have hk:=Bf (K:=K) (β:=aK) (H:=H');refine⟨fun b a c=>?_,fun b a c=>?_,fun b a c=>?_,fun b az ai k es a c=>?_,fun b a c=>?_⟩
  ·exact aN.box b a (hk.box b (d.eP _ a) c).1
  ·exact aN.it b a (hk.it b (d.eP _ a) c).1
  ·exact aN.map b a (hk.map b (d.eP _ a) c).1
  ·have u:fg H' b az ai k es:=by
    obtain⟨M,l,g⟩:=kL c;rcases g with⟨_,g⟩|⟨_,rfl⟩
    ·cases g
    ·exact l
   exact aN.arr b az ai k es a u
  ·exact aN.loop b a (hk.loop b (d.eP _ a) c).1
 ·rintro b ⟨L,c⟩;obtain⟨s,y⟩:=d.loop b ⟨L,c⟩;have m:K b=false:=by
   cases m:K b with
   |false=>rfl
   |true=>exact(B b L m c).elim
  exact⟨s,by rw[BG,y];simp[m]⟩
 ·show aD P w' _ p j;refine aD.mono ?_ (fun _ _=>rfl) _ _ D;rintro k (hk|⟨b,o,g1,g2,rfl⟩)
  ·exact .inl hk
  ·obtain⟨M,l,g⟩:=kL g1;rcases g with⟨_,rfl⟩|⟨J,rfl⟩
   ·exact g2.elim
   ·exact .inr ⟨b,o,l,g2,by simpa using J,rfl⟩
end
section
variable{P:ao}{w:av}{ad ah:Nat->Prop}{β:Bd}
theorem sj{t t':AV}{r:aj}:cw β (.box false t::r) β (.box false t'::r):=by
 refine⟨fun b _ h=>⟨?_,rfl⟩,fun b _ h=>⟨?_,rfl⟩,fun b _ h=>⟨?_,rfl⟩,fun b az ai k a _ h=>⟨k,a,?_,bl _,Iff.rfl,fun _=>⟨rfl,rfl⟩⟩,fun b _ h=>⟨?_,rfl⟩⟩
 ·cases b with
  |zero=>exact⟨false,t,rfl⟩
  |succ b=>exact h
 ·obtain⟨s,q,h⟩:=h;cases b with
  |zero=>simp at h
  |succ b=>exact⟨s,q,h⟩
 ·obtain⟨s,q,h⟩:=h;cases b with
  |zero=>simp at h
  |succ b=>exact⟨s,q,h⟩
 ·cases b with
  |zero=>simp[fg]at h
  |succ b=>exact h
 ·obtain⟨L,h⟩:=h;cases b with
  |zero=>simp at h
  |succ b=>exact⟨L,h⟩
theorem qp{t t':AV}{r:aj}{x:Nat×Nat}(h:aJ (.box false t::r) x):aJ (.box false t'::r) x:=by
 obtain⟨o,a,c⟩:=h;obtain⟨b,v⟩:=x;cases b with
 |zero=>exact⟨_,rfl,trivial⟩
 |succ b=>exact⟨o,a,c⟩
theorem bU.swap{t d:AV}{r:aj}(c:bU P w ad β (.box false t::r) ah)(hc:∀cs,br P w ad β (.box false t::r) t cs->br P w ad β (.box false t::r) d cs)(l:∀T,jf T (aa d)=true)
 (g:∀n,aE n t->aE n d):bU P w ad β (.box false d::r) ah:=by
 refine⟨fun b o a=>?_,fun b b' o o' a s f p q m=>?_,fun b o a=>?_,c.bQ,c.dU,c.ir⟩
 ·cases b with
  |zero=>
   simp at a;subst a;obtain⟨cs,T,i,j,k,y,z⟩:=c.cJ 0 _ rfl;have u:=c.refs 0 _ rfl;exact⟨cs,T,i,br.mono (fun _ x=>x) (fun _ _=>rfl) sj _ _ (g _ u) (hc _ j),k,(fun h=>absurd h (by simp)),l T⟩
  |succ b=>exact ff.carry (fun _ x=>x) (fun _ _=>rfl) sj (c.refs (b+1) o a) (fun _=>⟨rfl,rfl,rfl⟩) (fun _ _ h=>h) (c.cJ (b+1) o a)
 ·have key:∀{b:Nat}{o:Obj},(Obj.box false d::r)[b]?=some o->o.live->∃e,(Obj.box false t::r)[b]?=some e/\e.live:=by
   intro b o a f;cases b with
   |zero=>exact⟨_,rfl,trivial⟩
   |succ b=>exact⟨o,a,f⟩
  obtain⟨e,k1,k2⟩:=key a f;obtain⟨v,k3,k4⟩:=key s p;exact c.inj b b' e v k1 k3 k2 k4 q m
 ·cases b with
  |zero=>
   simp at a;subst a;exact aE.mono (fun _ h=>qp h) _ (g _ (c.refs 0 _ rfl))
  |succ b=>exact Obj.uM (fun _ h=>qp h) (c.refs (b+1) o a)
theorem Kr{H:aj}{u:ac}{n:Nat}(f:dx P u=some [n]){t:AV}{cs:List Value}:br P w ad β H (.st u [t]) cs↔br P w ad β H t cs/\cs.length=n:=by
 simp only[br,f,Option.some.injEq];constructor
 ·rintro⟨l,g,rfl,a,rfl⟩;simp only[bM]at a;obtain⟨c,d,rfl,b,e,rfl⟩:=a;simpa using⟨b,e⟩
 ·rintro⟨a,b⟩;exact⟨[n],[cs],rfl,by simp only[bM];exact⟨cs,[],rfl,a,b,rfl⟩,by simp⟩
theorem cE.wrap{f:am}{u:ac}{n:Nat}{t i:AV}{r j:aj}{args:List AV}{v:AV}(q:dx P u=some [n])(a:∀T,jf T (.agg u)=true)(F:∀T,jf T (aa t)=true)(G:∀(w:av)(ad:Nat->Prop)(β:Bd)(H:aj)(cs:List Value),br P w ad β H i cs->cs.length=n)
 (h:cE P f (.box false t::r) (.ptr 0 []::args) (.box false i::j) v):cE P f (.box false (.st u [t])::r) (.ptr 0 [(u,0)]::args) (.box false (.st u [i])::j) v:=by
 refine⟨h.1,fun w ad ah β O J D y=>?_⟩;have K:bU P w ad β (.box false t::r) ah:=J.swap (fun cs h=>((Kr q).1 h).1) F (fun n h=>by simpa[aE,aX]using h);obtain⟨x,xs,rfl,h1,C⟩:=D;have E:bF P w ad β (.box false t::r) (.ptr 0 []::args) (x::xs):=by
  refine⟨x,xs,rfl,?_,bF.mono (fun _ x=>x) (fun _ _=>rfl) sj _ _ y.2 C⟩;obtain⟨q1,an,off,o,s,N,q4⟩:=h1;refine⟨q1,an,off,0,s,rfl,fun _=>?_⟩;have I:o=0:=by simpa[fV,q]using N.symm
  have:=q4 (.inl ⟨false,_,rfl⟩);rw[I]at this;exact this
 refine(h.2 w ad ah β (x::xs) K E ⟨⟨_,rfl,trivial⟩,aX.mono (fun _ h=>qp h) _ y.2⟩).mono ?_;rintro e w' ⟨B,aK,aF,rfl,g,M,z⟩;refine⟨B,aK,aF,rfl,⟨g.bQ,g.fresh,g.ext,?_,?_,fun x hx=>qp (g.eP x (qp hx)),?_⟩,aA.mono (fun _ x=>x) (fun _ _=>rfl) sj _ _ z M,aE.mono (fun _ h=>qp h) _ z⟩
 ·have aN:=g.step;have m:=sj (β:=β) (t:=.st u [t]) (t':=t) (r:=r);have p:=sj (β:=aK) (t:=i) (t':=.st u [i]) (r:=j);have d:∀x,aJ (.box false (.st u [t])::r) x->aJ (.box false t::r) x:=fun x h=>qp h;have l:∀x,aJ (.box false t::r) x->aJ (.box false i::j) x:=g.eP;refine⟨fun b a c=>?_,fun b a c=>?_,fun b a c=>?_,fun b az ai k es a c=>?_,fun b a c=>?_⟩
  ·obtain⟨k1,k2⟩:=p.box b (l _ (d _ a)) c;obtain⟨k3,k4⟩:=aN.box b (d _ a) k1;exact⟨(m.box b a k3).1,k4⟩
  ·obtain⟨k1,k2⟩:=p.it b (l _ (d _ a)) c;obtain⟨k3,k4⟩:=aN.it b (d _ a) k1;exact⟨(m.it b a k3).1,k4⟩
  ·obtain⟨k1,k2⟩:=p.map b (l _ (d _ a)) c;obtain⟨k3,k4⟩:=aN.map b (d _ a) k1;exact⟨(m.map b a k3).1,k4⟩
  ·have k1:fg (.box false i::j) b az ai k es:=by
    cases b with
    |zero=>simp[fg]at c
    |succ b=>exact c
   obtain⟨k0,gA,q1,s⟩:=aN.arr b az ai k es (d _ a) k1;refine⟨k0,gA,?_,s⟩;cases b with
   |zero=>simp[fg]at q1
   |succ b=>exact q1
  ·obtain⟨k1,k2⟩:=p.loop b (l _ (d _ a)) c;obtain⟨k3,k4⟩:=aN.loop b (d _ a) k1;exact⟨(m.loop b a k3).1,k4⟩
 ·exact g.rel.swap (fun cs h=>(Kr q).2 ⟨h,G _ _ _ _ _ h⟩) a (fun n h=>by simpa[aE,aX]using h)
 ·rintro b ⟨L,c⟩;have k1:gM (.box false t::r) b:=by
   cases b with
   |zero=>simp at c
   |succ b=>exact⟨L,c⟩
  obtain⟨A,k2⟩:=g.loop b k1;cases b with
  |zero=>simp at k2
  |succ b=>exact⟨A,k2⟩
end
section
variable{P:ao}{w:av}{ad ah:Nat->Prop}{β:Bd}
def tu(n:Nat):aj:=bi n .dead
theorem ng{n b:Nat}{o:Obj}(h:(tu n)[b]?=some o):o=.dead:=by
 simp only[tu,a2]at h
 split at h
 ·injection h with h;exact h.symm
 ·cases h
theorem cE.cut{f:am}{H:aj}{args:List AV}{n:Nat}{p:PV}(h:cE P f H args (tu n) (.p p)):cE P f H args (tu H.length) (.p p):=by
 refine⟨h.1,fun w ad ah β g u q v=>(h.2 w ad ah β g u q v).mono ?_⟩;rintro e w' ⟨i,aK,aF,rfl,a,y,z⟩;have no:∀{m b:Nat}{o:Obj},(tu m)[b]?=some o->o.live->False:=fun h d=>by rw[ng h]at d;exact d
 refine⟨i,aK,aF,rfl,⟨a.bQ,a.fresh,a.ext,⟨?_,?_,?_,?_,?_⟩,⟨fun b o c=>by rw[ng c];trivial,fun b b' o o' c _ d=>(no c d).elim,fun b o c=>by rw[ng c];trivial,a.rel.bQ,a.rel.dU,a.rel.ir⟩,?_,?_⟩,y,trivial⟩
 ·rintro b _ ⟨fz,t,h⟩;cases ng h
 ·rintro b _ ⟨fz,t,h⟩;cases ng h
 ·rintro b _ ⟨fz,t,h⟩;cases ng h
 ·intro b az ai k es _ h;cases ng h
 ·rintro b _ ⟨L,h⟩;cases ng h
 ·rintro x ⟨o,j,_⟩;have s:=(ay.1 j).1;exact⟨.dead,by rw[tu,a2,if_pos s],trivial⟩
 ·intro b r;obtain⟨L,l⟩:=a.loop b r;cases ng l
theorem cE.cZ{f:am}{H H':aj}{args:List AV}{v v':PV}(h:cE P f H args H' (.p v))(k:Wk v v'):cE P f H args H' (.p v'):=by
 refine⟨h.1,fun w ad ah β a i d j=>(h.2 w ad ah β a i d j).mono ?_⟩;rintro e w' ⟨b,aK,aF,rfl,g,c,l⟩;exact⟨b,aK,aF,rfl,g,aD.cZ _ _ _ k c,trivial⟩
end
section
variable{P:ao}
def zm(P:ao)(a:List ap)(N:Nat)(Q:AV->aj->Prop)(e:Tg (a,N,Q) bu)(s:Tg (a,N,Q) St):Prop:=
 (match e with
  | .exit _=>False
  |_=>True)/\∃vs,fC P s a=some vs/\∃H',Q (oneOf vs) H'/\(H'=St.heap s\/(dc N s ⟨[],H'⟩/\aE (aJ H') (oneOf vs)))
theorem VB{a:List ap}{N:Nat}{Q:AV->aj->Prop}{s:St}:zm P a N Q .ret s=∃vs,fC P s a=some vs/\∃H',Q (oneOf vs) H'/\(H'=s.heap\/(dc N s ⟨[],H'⟩/\aE (aJ H') (oneOf vs))):=by simp[zm]
theorem Tl{a:List ap}{N:Nat}{Q:AV->aj->Prop}{s:St}:zm P a N Q .normal s=∃vs,fC P s a=some vs/\∃H',Q (oneOf vs) H'/\(H'=s.heap\/(dc N s ⟨[],H'⟩/\aE (aJ H') (oneOf vs))):=by simp[zm]
attribute [simp] VB Tl
end
section
variable{P:ao}
theorem au.heap{f:am}{vs j:List PV}{v:PV}{H H1:aj}{args:List AV}(h:au P f vs v)(g:Enters P f)(o:mP H args=some (j,H1))(l:bC j vs:=by first|exact bC.refl _|simp):cE P f H args H1 (.p v):=by
 refine⟨g,fun w ad ah β x u r q=>?_⟩;obtain⟨b,a,i⟩:=Bt o u r q;rcases h.cZ l (Wk.refl _)with m|n
 ·intro cs;obtain⟨e,w',k,⟨c,aF,he,m1,m2,m3,m4,m5,m6,m7⟩,aN,s,t⟩:=m.2 w b _ a.rel.bQ a.rel.ir i cs;subst he;exact⟨_,w',k,⟨c,β,aF,rfl,a.trans (a.rel.later m1 m2 m3 m4 m5 m6),by simpa[aA]using m7,by simp[aE]⟩,aN,s,t⟩
 ·obtain⟨c,d,_⟩:=n w b _ i;rw[g]at d;cases d
end
section
variable{P:ao}{ag:am->Bool}
theorem Ar(H:aj):(fB H).map (·.1)=a7 H.length:=by
 rw[fB,List.map_fst_zip];simp
theorem Q3{H a:aj}(f:a.length=H.length):bc H (fB a)=a:=by
 have d:((fB a).map (·.1)).Nodup:=by rw[Ar];exact aT
 refine a9 fun i=>?_
 by_cases hi:i<a.length
 ·have c:(i,a[i])∈fB a:=by
   rw[fB,a5];exact⟨i,by simp;exact hi,by rw[bb];simp⟩
  rw[sV d _ c (by simp only;omega),ax hi]
 ·have b:(bc H (fB a))[i]?=H[i]?:=qy fun p e=>by
   have:p.1∈(fB a).map (·.1):=List.mem_map_of_mem e
   rw[Ar,List.mem_range]at this;omega
  rw[b,a4 (by omega),a4 (by omega)]
end
section
variable{P:ao}{ag:am->Bool}
theorem fh.ZH{b:Nat}{H a:aj}{args:List AV}{v:AV}(h:fh P b H args a v)(g:H.length<=a.length)(d:aX (aJ H) args)(j:dC H H):
 nO P b args H.length {v:=v,al:=fB H,aM:=fB (a.take H.length),aS:=a.drop H.length}:=by
 have hf:=h.frame (a7 H.length) H.length (by simp) aT (fun b f=>by simpa using f) g d j.get;rw[zf]at hf;have e:dv (a7 H.length) H.length H a v={v:=v,al:=fB H,aM:=fB (a.take H.length),aS:=a.drop H.length}:=by
  have c:(a.take H.length).length=H.length:=by rw[a0];omega
  simp only[dv,zf,vy];rw[show(cX fun i=>i)=id from funext Oo,a6,a6,a6,fB,fB,c]
 rw[e,oM]at hf;exact hf
open Classical in
noncomputable def rB(H H2:aj):List (Nat×Obj):=(fB (H2.take H.length)).filter fun p=>decide (H[p.1]?≠some p.2)
open Classical in
theorem wL{H H2:aj}{p:Nat×Obj}:p∈rB H H2↔p∈fB (H2.take H.length)/\H[p.1]?≠some p.2:=by
 simp[rB,List.mem_filter]
theorem Ex{H:aj}{i:Nat}{o:Obj}(h:H[i]?=some o):(i,o)∈fB H:=by
 have hi:=(ay.1 h).1;rw[fB,a5];refine⟨i,by simp;exact hi,?_⟩;rw[bb,List.getElem_range];rw[ax hi]at h;injection h with h
 rw[h]
theorem Ej(H:aj):((fB H).map (·.1)).Nodup:=by rw[Ar];exact aT
theorem Q1(H a:aj):((rB H a).map (·.1)).Nodup:=by
 refine List.Nodup.sublist ?_ (Ej (a.take H.length));exact List.Sublist.map _ List.filter_sublist
theorem Em{H a c:aj}(n:H.length<=a.length)(h:∀i,i<H.length->c[i]?=H[i]?):bc c (rB H a)=bc c (fB (a.take H.length)):=by
 refine a9 fun i=>?_;have m:(a.take H.length).length=H.length:=by rw[a0];omega
 by_cases hi:i<H.length
 ·have j:i<c.length:=by
   have:=h i hi;rw[ax hi]at this;exact(ay.1 this).1
  have f:(a.take H.length)[i]?=some a[i]:=by rw[a8,if_pos hi,ax (by omega)]
  have k:=Ex f;rw[sV (Ej _) _ k j]
  by_cases hc:H[i]?=some a[i]
  ·rw[qy (fun p b=>?_),h i hi,hc];rw[wL]at b;intro e;have d:=tC b.1;rw[e,f]at d;injection d with d
   have g:=b.2;rw[e,<-d]at g;exact g hc
  ·have l:(i,a[i])∈rB H a:=by
    rw[wL];exact⟨k,hc⟩
   rw[sV (Q1 _ _) _ l j]
 ·rw[qy (fun p b=>?_),qy (fun p b=>?_)]
  ·have:=(ay.1 (tC b)).1;omega
  ·rw[wL]at b;have:=(ay.1 (tC b.1)).1;omega
theorem fh.ZG{b:Nat}{H a:aj}{args:List AV}{v:AV}(h:fh P b H args a v)(f:H.length<=a.length)(n:aX (aJ H) args)(q:dC H H):
 nO P b args H.length {v:=v,al:=fB H,aM:=rB H a,aS:=a.drop H.length}:=by
 have o:=h.ZH f n q;intro c w ad ah β g j k l d m;have p:∀i,i<H.length->c[i]?=H[i]?:=fun i hi=>by
  rw[ax hi];exact d _ (Ex (ax hi))
 have e:bc c (rB H a++newAt H.length (a.drop H.length))=bc c (fB (a.take H.length)++newAt H.length (a.drop H.length)):=by
  rw[uj,uj,Em f p]
 have:=o c w ad ah β g j k l d m;dsimp only at this⊢;rw[e];exact this
theorem yg{b:Nat}{H a:aj}{args:List PV}{as:List AV}{v:PV}{K:aW->Prop}(h:fh P b H (args.map .p) a (.p v))(has:as=args.map .p)(k:H.length<=a.length)(o:dC H H)(n:∀i,i<H.length->a[i]?=some .hole->H[i]?=some .hole)
 (hk:∀e:aW,(∀dst env,aW.app e dst ⟨env,H⟩=⟨put dst (.p v) env,a⟩)->K e):vL P H K (.map b) as:=by
 subst has;have m:aX (aJ H) (args.map AV.p):=iO _ _;show∃e,nO P b (args.map .p) H.length e/\nT H e/\K e;have g:(a.take H.length).length=H.length:=by rw[a0];omega
 refine⟨_,h.ZG k m o,⟨fun p c=>tC c,fun p c=>?_⟩,hk _ fun dst env=>?_⟩
 ·rw[wL]at c;have f:=tC c.1;have d:=(ay.1 f).1;rw[g]at d;refine⟨d,fun e=>?_⟩;rw[a8,if_pos d,e]at f;have l:=n _ d f;have j:=c.2;rw[e]at j;exact j l
 ·simp only[aW.app];rw[Em k (fun _ _=>rfl),Q3 g,List.take_append_drop]
def E7(P:ao)(g:am)(fi ca:List PV)(h:List (List PV))(d:Nat->aj):Prop:=
 ∀(b k:Nat)(c f:Nat->aj)(H':aj),k<=h.length->(∀i,i<=k->dC (c i) (c i)/\aE (aJ (c i)) (.map b))->
  (∀i a,i<k->h[i]?=some a->fh P b (c i++d i) (a.map .p) (f i) (.p (.bool true))/\(c i++d i).length<=(f i).length/\(∀j,j<(c i++d i).length->(f i)[j]?=some .hole->(c i++d i)[j]?=some .hole)/\
   (c (i+1)).take (c 0).length=(f i).take (c 0).length/\gQ (c (i+1)) (f i) (c (i+1)))->
  (k=h.length/\H'=c k\/∃a e,h[k]?=some a/\fh P b (c k++d k) (a.map .p) e (.p (.bool false))/\(c k++d k).length<=e.length/\(∀j,j<(c k++d k).length->e[j]?=some .hole->(c k++d k)[j]?=some .hole)/\
   H'.take (c 0).length=e.take (c 0).length/\gQ H' e H'/\dC H' H')->
  cE P g (c 0) (fi.map .p++[.map b]++ca.map .p) H' (.p (.aC []))
theorem rfd{f:ab}{n:Array Tmp}{a c:Code}{Q:bu->St->Prop}{env:Env}{heap:aj}{q:Cx}{g:am}{fi ca:List PV}{r:List (List PV)}{h:Nat->aj}(aN:E7 P g fi ca r h)(hf:ev env f= .p (.func g fi ca))(hq:q.2<=heap.length)
 (X Y:dP->Nat->aj)(k:Nat)(hk:k<=r.length)(u:∀L,X L 0=heap++[.loop L])
 (hx:∀L,L=⟨.ready,none,q.1,n.toList,a,c,env⟩->∀i,i<=k->(X L i)[heap.length]?=some (.loop L)/\gV (X L i) env/\(gV (X L i) env->(∀x,aE (aJ (X L i)) (aQ L.env x))->dC (X L i) (X L i)))
 (w:∀L,L=⟨.ready,none,q.1,n.toList,a,c,env⟩->∀i x,i<k->r[i]?=some x->fh P heap.length (X L i++h i) (x.map .p) (Y L i) (.p (.bool true))/\(X L i++h i).length<=(Y L i).length/\(∀j,j<(X L i++h i).length->(Y L i)[j]?=some .hole->(X L i++h i)[j]?=some .hole)/\
  (X L (i+1)).take (heap.length+1)=(Y L i).take (heap.length+1)/\gQ (X L (i+1)) (Y L i) (X L (i+1)))
 (G:∀L,L=⟨.ready,none,q.1,n.toList,a,c,env⟩->(k=r.length/\Q .normal ⟨env,(X L k).set heap.length (.loop L.xh)⟩)\/
  ∃x j l b,r[k]?=some x/\b[heap.length]?=some (.loop (L.dn j))/\fh P heap.length (X L k++h k) (x.map .p) l (.p (.bool false))/\(X L k++h k).length<=l.length/\(∀i,i<(X L k++h k).length->l[i]?=some .hole->(X L k++h k)[i]?=some .hole)/\
  b.take (heap.length+1)=l.take (heap.length+1)/\gQ b l b/\dC b b/\je Q (some j) ⟨env,b.set heap.length (.loop (L.dn j).xh)⟩):
 eD P ag q (.rangeFunc f n a c) Q ⟨env,heap⟩:=by
 obtain⟨L,d⟩:∃L:dP,L=⟨.ready,none,q.1,n.toList,a,c,env⟩:=⟨_,rfl⟩
 have t:=aN heap.length k (X L) (Y L);refine⟨hq,?_⟩;show ja P (ev env f) heap.length (heap++[.loop ⟨.ready,none,q.1,n.toList,a,c,env⟩]) (il heap.length env Q);rw[hf];simp only[ja];rw[<-d,<-u L];have y:(X L 0).length=heap.length+1:=by rw[u L];simp
 have v:∀i,i<=k->dC (X L i) (X L i)/\aE (aJ (X L i)) (.map heap.length):=by
  intro i hi;obtain⟨o,m,s⟩:=hx L d i hi;have e5:L.env=env:=by rw[d]
  refine⟨s m (by rw[e5];exact m.get),?_⟩;simp only[aE,aJ,o];exact⟨_,rfl,by simp[Obj.has]⟩
 rw[y]at t;rcases G L d with⟨o,m⟩|⟨x,j,l,b,o,m,s,z,A,B,C,D,E⟩
 ·refine⟨_,_,t (X L k) hk v (w L d) (.inl ⟨o,rfl⟩),?_⟩;have F:=(hx L d k (bl k)).1;simp only[il,F];refine⟨by rw[d];simp,?_⟩;have:L.pending=none:=by rw[d]
  simp only[this,je];have e:L.xh={L with st:=.exhausted}:=rfl;rw[this]at e;rw[e]at m;exact m
 ·refine⟨_,_,t b hk v (w L d) (.inr ⟨x,l,o,s,z,A,B,C,D⟩),?_⟩;simp only[il,m];exact⟨by simp[dP.dn],E⟩
theorem QJ{H J:aj}{x:Nat×Nat}(h:aJ H x):aJ (H++J) x:=by
 obtain⟨o,a,b⟩:=h;exact⟨o,by rw[List.getElem?_append_left (ay.1 a).1];exact a,b⟩
theorem dC.up{S T:aj}(a:∀x,aJ S x->aJ T x):∀{h:aj},dC S h->dC T h
 |[],_=>trivial
 |_::_,h=>⟨Obj.uM a h.1,dC.up a h.2⟩
theorem dC.app{H J:aj}(h:dC H H)(a:dC (H++J) J):dC (H++J) (H++J):=by
 rw[Cg];exact⟨h.up fun _=>QJ,a⟩
theorem aIO{a:Array Oper}{b:List Touch}{i n:Nat}{e:aW}(h:iy a b=true)(c:b.all (fun u=>reach a a.size u.i i)=true):iy a (fP i n e b)=true:=by
 rw[fP]
 split
 ·exact h
 ·rw[iy,h,Bool.and_true,be];intro u d;rw[be]at c;rw[show(gL i n e).i=i from rfl,c u d,Bool.or_true]
theorem yk{b:Nat}{H c:aj}{args:List PV}{as:List AV}{v:PV}{a:Array Oper}{r:List Oper}{i:Nat}{d:List Touch}{K:St->Prop}{dst:Option Tmp}{env:Env}(h:fh P b H (args.map .p) c (.p v))(has:as=args.map .p)(l:H.length<=c.length)(hr:dC H H)(hh:∀i,i<H.length->c[i]?=some .hole->H[i]?=some .hole)
 (g:iy a d=true)(j:d.all (fun u=>reach a a.size u.i i)=true)(hk:∀f,vz a f=true->nU P ag a r (i+1) f K ⟨put dst (.p v) env,c⟩):vL P H (yW P ag a r i d K dst ⟨env,H⟩) (.map b) as:=by
 refine yg h has l hr hh fun e k=>?_;show nU P ag a r (i+1) (fP i H.length e d) K (aW.app e dst ⟨env,H⟩);rw[k];exact hk _ (aIO g j)
end
end Go.ak
