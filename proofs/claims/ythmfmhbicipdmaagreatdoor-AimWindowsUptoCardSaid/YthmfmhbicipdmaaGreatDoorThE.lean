import Derived.Test.YthmfmhbicipdmaaGreatDoorThD
/- Parts of a proof. -/
set_option linter.unusedSimpArgs false
set_option linter.unusedVariables false
set_option linter.unusedSectionVars false
open Go renaming Operand->ab, TypeId->ac, FuncId->am, Program->ao, ResultVar->ap, World->av
open List renaming getElem?_eq_getElem->ax, getElem?_eq_some_iff->ay, nodup_range->aT, length_take->a2, map_cons->a3, getElem?_replicate->a4, mem_map->a5, getElem?_eq_none->a6, mem_iff_getElem->a7, map_id->a8, range->a9, getElem?_take->bb, ext_getElem?->be, getElem_zip->bi, all_eq_true->bl, replicate->bo
open Nat renaming le_refl->bp
namespace Go.ah
set_option linter.unusedSectionVars false
variable[Gl]
@[reducible] def Tg{α:Type}(_:α)(β:Type):Type:=β
@[reducible] def Tg1{α:Type 1}(_:α)(β:Type):Type:=β
section
variable(P:ao)(ag:am->Bool)
def eM(q:Cx)(c:Code)(Q:bw->St->Prop)(s:Tg (q,c,Q) St):Prop:=du P ag q c Q s
def qy(a:Array Oper)(l:List Oper)(K:St->Prop)(s:Tg (a,l,K) St):Prop:=gh P ag a l K s
def oT(b:Array Oper)(l:List Oper)(i:Nat)(a:List Touch)(K:St->Prop)(s:Tg (b,l,i,a,K) St):Prop:=gz P ag b l i a K s
def A6(K:St->Prop)(Q:bw->St->Prop)(e:Tg (K,Q) bw)(s:Tg (K,Q) St):Prop:=uR K Q e s
def rL(id:Nat)(Q:bw->St->Prop)(e:Tg (id,Q) bw)(s:Tg (id,Q) St):Prop:=oD id Q e s
def QQ(a b:St->Prop)(s:St)(v:Tg (a,b,s) AV):Prop:=uj v a b s
def Ad(b:Array Oper)(r:List Oper)(i:Nat)(a:List Touch)(K:St->Prop)(dst:Option Tmp)(s:St)(e:Tg (b,r,i,a,K,dst,s) aZ):Prop:=xe P ag b r i a K dst s e
def eH(dst:Option Tmp)(s:St)(K:St->Prop)(e:Tg (dst,s,K) aZ):Prop:=ez dst s K e
def Sm(dst:Option Tmp)(s:St)(K:St->Prop)(v:Tg (dst,s,K) AV)(H:Tg (dst,s,K) an):Prop:=A1 dst s K v H
def Eb(a:Array Oper)(o:Oper)(r:List Oper)(K:St->Prop)(b:Bool)(s:St)(g:Tg (a,o,r,K,b,s) AV):Prop:=zR P ag a o r K b s g
def Dv(b:Array Oper)(o:Oper)(r:List Oper)(i:Nat)(a:List Touch)(K:St->Prop)(c:Bool)(s:St)(g:Tg (b,o,r,i,a,K,c,s) AV):Prop:=zH P ag b o r i a K c s g
def dY(o:Oper)(K:St->Prop)(s:St)(_:Tg (o,K,s) Unit):Prop:=dv P ag o K s
def dV(o:Oper)(s:St)(K:aZ->Prop)(_:Tg (o,K,s) Unit):Prop:=dw P ag o s K
def cE(K:aZ->Prop)(r:Tg K eL):Prop:=bk r K
def Ay(H:an)(K:AV->an->Prop)(f:Tg (H,K) AV)(args:Tg (H,K) (List AV)):Prop:=rS P f args H K
def xj(H:an)(K:aZ->Prop)(f:Tg (H,K) AV)(args:Tg (H,K) (List AV)):Prop:=rJ P f args H K
def kY(d:Bool)(f:am)(K:AV->an->Prop)(args:Tg K (List AV))(H:Tg K an):Prop:=ib P d f args H K
def nt(f:am)(K:aZ->Prop)(args:Tg K (List AV))(H:Tg K an):Prop:=im P f args H K
def sj(R:AV->PV->Prop):List AV->List PV->Prop
 |[],vs=>vs=[]
 |x::xs,vs=>match vs with
  |v::vs=>R x v/\sj R xs vs
  |[]=>False
def gp(H:an):Nat->AV->PV->Prop
 |0=>fun x v=>match x with
  | .p a=>Wk a v
  |_=>False
 |n+1=>fun x v=>match x with
  | .p a=>Wk a v
  | .sl b aC z off len=>match v with
   | .seq fs=>match H[b]? with
    |some (.arr _ e h es)=>aC=e/\z=h/\off+len<=es.length/\sj (gp H n) ((es.drop off).take len) fs
    |_=>False
   |_=>False
  | .st u xs=>match v with
   | .st u' vs=>u=u'/\sj (gp H n) xs vs
   |_=>False
  | .aE xs=>match v with
   | .aE vs=>sj (gp H n) xs vs
   |_=>False
  | .ptr b path=>match v with
   | .cq t=>match H[b]? with
    |some (.box _ y)=>match eU y path with
     |some s=>gp H n s t
     |none=>False
    |_=>False
   |_=>False
  | .map b=>match v with
   | .eg es=>match H[b]? with
    |some (.map _ c)=>c=es
    |_=>False
   |_=>False
  | .func f xs g=>match v with
   | .func d vs us=>f=d/\sj (gp H n) xs vs/\sj (gp H n) g us
   |_=>False
  |_=>False
def mQ(H:an)(n:Nat):List AV->List PV->Prop:=sj (gp H n)
def su(a:List ap)(v:PV)(e:Tg (a,v) bw)(s:Tg (a,v) St):Prop:=
 (match e with
  | .exit _=>False
  |_=>True)/\∃vs,fN P s a=some vs/\gp (St.heap s) 9 (oneOf vs) v
def wV(a:Array Oper)(l:Tg a (List Touch)):Bool:=iM a l
def aKo(a:Array Oper)(i j:Tg a Nat):Bool:=reach a a.size i j
end
section
variable{P:ao}{ag:am->Bool}{q:Cx}
theorem aLA{Q:bw->St->Prop}{s:St}:eM P ag q .skip Q s=Q .normal s:=OV
theorem Yj{l:Nat}{Q:bw->St->Prop}{s:St}:eM P ag q (.label l) Q s=Q .normal s:=Nw
theorem aLy{id:Nat}{Q:bw->St->Prop}{s:St}:eM P ag q (.exit id) Q s=Q (.exit id) s:=OW
theorem aLz{Q:bw->St->Prop}{s:St}:eM P ag q .ret Q s=Q .ret s:=SM
theorem Yh{b:Code}{Q:bw->St->Prop}{s:St}:eM P ag q (.scope b) Q s=eM P ag q b Q s:=Nu
theorem aLx{id:Nat}{l:List Oper}{Q:bw->St->Prop}{s:St}:eM P ag q (.region id l.toArray true) Q s=oT P ag l.toArray l 0 [] (Q .normal) s:=OX
theorem Yi{id:Nat}{l:List Oper}{Q:bw->St->Prop}{s:St}:eM P ag q (.region id l.toArray false) Q s=qy P ag l.toArray l (Q .normal) s:=Nv
theorem bt{a b:Code}{Q:bw->St->Prop}{s:St}:eM P ag q (.seq a b) Q s=eM P ag q a (A6 (eM P ag q b Q) Q) s:=SN
theorem Me{id:Nat}{b:Code}{Q:bw->St->Prop}{s:St}:eM P ag q (.block id b) Q s=eM P ag q b (rL id Q) s:=Nx
theorem aLw{c:ab}{a b:Code}{Q:bw->St->Prop}{s:St}:eM P ag q (.cond c a b) Q s=QQ (eM P ag q a Q) (eM P ag q b Q) s (ev s.env c):=OY
theorem Vi{K:St->Prop}{Q:bw->St->Prop}{s:St}:A6 K Q .normal s=K s:=JL
theorem WT{id:Nat}{K:St->Prop}{Q:bw->St->Prop}{s:St}:A6 K Q (.exit id) s=Q (.exit id) s:=K5
theorem WZ{K:St->Prop}{Q:bw->St->Prop}{s:St}:A6 K Q .ret s=Q .ret s:=L7
theorem VO{t:Bool}{a b:St->Prop}{s:St}:QQ a b s (.p (.bool t))=if t then a s else b s:=J6
theorem XK{b:Array Oper}{r:List Oper}{i:Nat}{a:List Touch}{K:St->Prop}{dst:Option Tmp}{env:Env}{heap:an}{v:AV}{aq aM:List (Nat×Obj)}{aX:List Obj}:Ad P ag b r i a K dst ⟨env,heap⟩ ⟨v,aq,aM,aX⟩=oT P ag b r (i+1) (gd i heap.length ⟨v,aq,aM,aX⟩ a) K ⟨put dst v env,bf heap aM++aX⟩:=MA
theorem Zv{dst:Option Tmp}{env:Env}{heap:an}{K:St->Prop}{v:AV}{aq aM:List (Nat×Obj)}{aX:List Obj}:eH dst ⟨env,heap⟩ K ⟨v,aq,aM,aX⟩=K ⟨put dst v env,bf heap aM++aX⟩:=Ot
theorem Zc{dst:Option Tmp}{env:Env}{heap H:an}{K:St->Prop}{v:AV}:Sm dst ⟨env,heap⟩ K v H=K ⟨put dst v env,H⟩:=NZ
theorem aLB{b:Array Oper}{i:Nat}{a:List Touch}{K:St->Prop}{s:St}:oT P ag b [] i a K s=(wV b a=true/\K s):=OU
theorem Yg{b:Array Oper}{i c:Nat}{pos:String}{a:List Touch}{K:St->Prop}{s:St}{dst:Option Tmp}{op:Op}{af:Array Edge}{r:List Oper}:oT P ag b ({dst,op,type:=c,pos,after:=af,guard:=none}::r) i a K s=dV P ag {dst,op,type:=c,pos,after:=af,guard:=none} s (Ad P ag b r i a K dst s) ():=Nt
theorem Xm{a:Array Oper}{i d j:Nat}{b:Bool}{pos:String}{c:List Touch}{K:St->Prop}{s:St}{dst:Option Tmp}{op:Op}{af:Array Edge}{r:List Oper}:oT P ag a ({dst,op,type:=d,pos,after:=af,guard:=some (j,b)}::r) i c K s=Dv P ag a {dst,op,type:=d,pos,after:=af,guard:=some (j,b)} r i c K b s (guardOf a j s.env):=Md
theorem aLH{a:Array Oper}{K:St->Prop}{s:St}:qy P ag a [] K s=K s:=OS
theorem Yf{a:Array Oper}{b:Nat}{pos:String}{K:St->Prop}{s:St}{dst:Option Tmp}{op:Op}{af:Array Edge}{r:List Oper}:qy P ag a ({dst,op,type:=b,pos,after:=af,guard:=none}::r) K s=dY P ag {dst,op,type:=b,pos,after:=af,guard:=none} (qy P ag a r K) s ():=Nr
theorem Xl{a:Array Oper}{c j:Nat}{b:Bool}{pos:String}{K:St->Prop}{s:St}{dst:Option Tmp}{op:Op}{af:Array Edge}{r:List Oper}:qy P ag a ({dst,op,type:=c,pos,after:=af,guard:=some (j,b)}::r) K s=Eb P ag a {dst,op,type:=c,pos,after:=af,guard:=some (j,b)} r K b s (guardOf a j s.env):=Mc
section ops
variable{dst:Option Tmp}{ty:Nat}{pos:String}{af:Array Edge}{g:Option (Nat×Bool)}{env:Env}{heap:an}{K:aZ->Prop}{L:St->Prop}
theorem azp{x:ab}:dV P ag ⟨dst,.move x,ty,pos,af,g⟩ ⟨env,heap⟩ K ()=K {v:=ev env x}:=Qe
theorem XU{x:ab}:dV P ag ⟨dst,.assign x,ty,pos,af,g⟩ ⟨env,heap⟩ K ()=K {v:=ev env x}:=My
theorem azr{c a b:ab}:dV P ag ⟨dst,.pick c a b,ty,pos,af,g⟩ ⟨env,heap⟩ K ()=cE K (rY (ev env c) (ev env a) (ev env b)):=Qc
theorem ZH{T:ac}:dV P ag ⟨dst,.alloc T,ty,pos,af,g⟩ ⟨env,heap⟩ K ()=cE K (rM P T heap.length):=Oc
theorem ayM{T:ac}{x:ab}:dV P ag ⟨dst,.box T x,ty,pos,af,g⟩ ⟨env,heap⟩ K ()=cE K (uy P T heap.length (ev env x)):=QV
theorem ZG{T:ac}{a:Array (Nat×ab)}:dV P ag ⟨dst,.build T a,ty,pos,af,g⟩ ⟨env,heap⟩ K ()=cE K (rK P T (a.toList.map fun(i,x)=>(i,ev env x))):=Ob
theorem UR{T:ac}{n:Nat}{a:Array (Nat×ab)}:dV P ag ⟨dst,.buildSlice T n a,ty,pos,af,g⟩ ⟨env,heap⟩ K ()=cE K (qP P T n (a.toList.map fun(i,x)=>(i,ev env x)) heap.length):=Jo
theorem azl{T:ac}{a:ab}:dV P ag ⟨dst,.load T a,ty,pos,af,g⟩ ⟨env,heap⟩ K ()=cE K (qe P T heap (ev env a)):=PI
theorem ZA{T:ac}{a x:ab}:dV P ag ⟨dst,.store T a x,ty,pos,af,g⟩ ⟨env,heap⟩ K ()=cE K (pU P T heap (ev env a) (ev env x)):=N8
theorem ayH{op:BinOp}{T a:ac}{x y:ab}:dV P ag ⟨dst,.binOp op T x y a,ty,pos,af,g⟩ ⟨env,heap⟩ K ()=cE K (iu P op T (mJ y) heap (ev env x) (ev env y)):=QU
theorem azt{op:UnOp}{T:ac}{x:ab}:dV P ag ⟨dst,.unOp op T x,ty,pos,af,g⟩ ⟨env,heap⟩ K ()=cE K (sR op (ev env x)):=QZ
theorem ayV{S D:ac}{x:ab}:dV P ag ⟨dst,.convert S D x,ty,pos,af,g⟩ ⟨env,heap⟩ K ()=cE K (rR P S D heap (ev env x)):=PK
theorem Wf{t:ab}{i:Nat}:dV P ag ⟨dst,.extract t i,ty,pos,af,g⟩ ⟨env,heap⟩ K ()=cE K (rj (ev env t) i):=Lz
theorem VJ{T:ac}{a:ab}{f:Nat}:dV P ag ⟨dst,.fieldAddr T a f,ty,pos,af,g⟩ ⟨env,heap⟩ K ()=cE K (pz P T (ev env a) f):=JN
theorem VI{T:ac}{x i:ab}:dV P ag ⟨dst,.indexAddr T x i,ty,pos,af,g⟩ ⟨env,heap⟩ K ()=cE K (py P T heap (ev env x) (ev env i)):=JM
theorem ZE{T:ac}{x i:ab}:dV P ag ⟨dst,.index T x i,ty,pos,af,g⟩ ⟨env,heap⟩ K ()=cE K (rO P T (ev env x) (ev env i)):=Oa
theorem azk{x:ab}{a:Array ac}:dV P ag ⟨dst,.call {callee:=.builtin .len,args:=#[x],argTypes:=a},ty,pos,af,g⟩ ⟨env,heap⟩ K ()=cE K (sM P (a.getD 0 0) a.size heap (ev env x)):=QW
theorem ayU{f:ab}{args:List ab}{a:Array ac}:dV P ag ⟨dst,.call {callee:=.value f,args:=args.toArray,argTypes:=a},ty,pos,af,g⟩ ⟨env,heap⟩ K ()=xj P heap K (ev env f) (args.map (ev env)):=PL
theorem aJ5{x:ab}:dY P ag ⟨dst,.move x,ty,pos,af,g⟩ L ⟨env,heap⟩ ()=eH dst ⟨env,heap⟩ L {v:=ev env x}:=Pv
theorem Xu{x:ab}:dY P ag ⟨dst,.assign x,ty,pos,af,g⟩ L ⟨env,heap⟩ ()=eH dst ⟨env,heap⟩ L {v:=ev env x}:=LL
theorem aJ7{c a b:ab}:dY P ag ⟨dst,.pick c a b,ty,pos,af,g⟩ L ⟨env,heap⟩ ()=cE (eH dst ⟨env,heap⟩ L) (rY (ev env c) (ev env a) (ev env b)):=Pt
theorem Zl{T:ac}:dY P ag ⟨dst,.alloc T,ty,pos,af,g⟩ L ⟨env,heap⟩ ()=cE (eH dst ⟨env,heap⟩ L) (rM P T heap.length):=NK
theorem aJX{T:ac}{x:ab}:dY P ag ⟨dst,.box T x,ty,pos,af,g⟩ L ⟨env,heap⟩ ()=cE (eH dst ⟨env,heap⟩ L) (uy P T heap.length (ev env x)):=Sf
theorem Zk{T:ac}{a:Array (Nat×ab)}:dY P ag ⟨dst,.build T a,ty,pos,af,g⟩ L ⟨env,heap⟩ ()=cE (eH dst ⟨env,heap⟩ L) (rK P T (a.toList.map fun(i,x)=>(i,ev env x))):=NJ
theorem UZ{T:ac}{n:Nat}{a:Array (Nat×ab)}:dY P ag ⟨dst,.buildSlice T n a,ty,pos,af,g⟩ L ⟨env,heap⟩ ()=cE (eH dst ⟨env,heap⟩ L) (qP P T n (a.toList.map fun(i,x)=>(i,ev env x)) heap.length):=Ji
theorem aJ2{T:ac}{a:ab}:dY P ag ⟨dst,.load T a,ty,pos,af,g⟩ L ⟨env,heap⟩ ()=cE (eH dst ⟨env,heap⟩ L) (qe P T heap (ev env a)):=Pw
theorem Zf{T:ac}{a x:ab}:dY P ag ⟨dst,.store T a x,ty,pos,af,g⟩ L ⟨env,heap⟩ ()=cE (eH dst ⟨env,heap⟩ L) (pU P T heap (ev env a) (ev env x)):=N2
theorem aJW{op:BinOp}{T a:ac}{x y:ab}:dY P ag ⟨dst,.binOp op T x y a,ty,pos,af,g⟩ L ⟨env,heap⟩ ()=cE (eH dst ⟨env,heap⟩ L) (iu P op T (mJ y) heap (ev env x) (ev env y)):=Se
theorem aJ8{op:UnOp}{T:ac}{x:ab}:dY P ag ⟨dst,.unOp op T x,ty,pos,af,g⟩ L ⟨env,heap⟩ ()=cE (eH dst ⟨env,heap⟩ L) (sR op (ev env x)):=Sk
theorem aJZ{S D:ac}{x:ab}:dY P ag ⟨dst,.convert S D x,ty,pos,af,g⟩ L ⟨env,heap⟩ ()=cE (eH dst ⟨env,heap⟩ L) (rR P S D heap (ev env x)):=Py
theorem Wp{t:ab}{i:Nat}:dY P ag ⟨dst,.extract t i,ty,pos,af,g⟩ L ⟨env,heap⟩ ()=cE (eH dst ⟨env,heap⟩ L) (rj (ev env t) i):=KH
theorem U8{T:ac}{a:ab}{f:Nat}:dY P ag ⟨dst,.fieldAddr T a f,ty,pos,af,g⟩ L ⟨env,heap⟩ ()=cE (eH dst ⟨env,heap⟩ L) (pz P T (ev env a) f):=JD
theorem Vm{T:ac}{x i:ab}:dY P ag ⟨dst,.indexAddr T x i,ty,pos,af,g⟩ L ⟨env,heap⟩ ()=cE (eH dst ⟨env,heap⟩ L) (py P T heap (ev env x) (ev env i)):=JC
theorem Zi{T:ac}{x i:ab}:dY P ag ⟨dst,.index T x i,ty,pos,af,g⟩ L ⟨env,heap⟩ ()=cE (eH dst ⟨env,heap⟩ L) (rO P T (ev env x) (ev env i)):=NH
theorem aJ1{x:ab}{a:Array ac}:dY P ag ⟨dst,.call {callee:=.builtin .len,args:=#[x],argTypes:=a},ty,pos,af,g⟩ L ⟨env,heap⟩ ()=cE (eH dst ⟨env,heap⟩ L) (sM P (a.getD 0 0) a.size heap (ev env x)):=Sg
theorem aJY{f:ab}{args:List ab}{a:Array ac}:dY P ag ⟨dst,.call {callee:=.value f,args:=args.toArray,argTypes:=a},ty,pos,af,g⟩ L ⟨env,heap⟩ ()=Ay P heap (Sm dst ⟨env,heap⟩ L) (ev env f) (args.map (ev env)):=Pz
theorem ZC{T:ac}{x:ab}{lo hi:Option ab}:dV P ag ⟨dst,.slice T x lo hi none,ty,pos,af,g⟩ ⟨env,heap⟩ K ()=cE K (pW P T heap (ev env x) (lo.map (ev env)) (hi.map (ev env))):=N9
theorem Zg{T:ac}{x:ab}{lo hi:Option ab}:dY P ag ⟨dst,.slice T x lo hi none,ty,pos,af,g⟩ L ⟨env,heap⟩ ()=cE (eH dst ⟨env,heap⟩ L) (pW P T heap (ev env x) (lo.map (ev env)) (hi.map (ev env))):=ND
theorem XS{T:ac}{x i:ab}{ok:Bool}:dV P ag ⟨dst,.lookup T x i ok,ty,pos,af,g⟩ ⟨env,heap⟩ K ()=cE K (rV P T heap (ev env x) (ev env i) ok):=Mw
theorem Xs{T:ac}{x i:ab}{ok:Bool}:dY P ag ⟨dst,.lookup T x i ok,ty,pos,af,g⟩ L ⟨env,heap⟩ ()=cE (eH dst ⟨env,heap⟩ L) (rV P T heap (ev env x) (ev env i) ok):=LJ
theorem VG{T:ac}{m k x:ab}:dV P ag ⟨dst,.mapUpdate T m k x,ty,pos,af,g⟩ ⟨env,heap⟩ K ()=cE K (mI P T heap (ev env m) (ev env k) (ev env x)):=JZ
theorem Vk{T:ac}{m k x:ab}:dY P ag ⟨dst,.mapUpdate T m k x,ty,pos,af,g⟩ L ⟨env,heap⟩ ()=cE (eH dst ⟨env,heap⟩ L) (mI P T heap (ev env m) (ev env k) (ev env x)):=JA
theorem XT{T:ac}{m k x:ab}:dV P ag ⟨dst,.insert T m k x,ty,pos,af,g⟩ ⟨env,heap⟩ K ()=cE K (mI P T heap (ev env m) (ev env k) (ev env x)):=Mx
theorem Xt{T:ac}{m k x:ab}:dY P ag ⟨dst,.insert T m k x,ty,pos,af,g⟩ L ⟨env,heap⟩ ()=cE (eH dst ⟨env,heap⟩ L) (mI P T heap (ev env m) (ev env k) (ev env x)):=LK
theorem ZD{T:ac}{x:ab}:dV P ag ⟨dst,.range T x,ty,pos,af,g⟩ ⟨env,heap⟩ K ()=cE K (rF P T heap.length (ev env x)):=IZ
theorem Zh{T:ac}{x:ab}:dY P ag ⟨dst,.range T x,ty,pos,af,g⟩ L ⟨env,heap⟩ ()=cE (eH dst ⟨env,heap⟩ L) (rF P T heap.length (ev env x)):=NG
theorem azq{it:ab}:dV P ag ⟨dst,.next it true,ty,pos,af,g⟩ ⟨env,heap⟩ K ()=cE K (sc heap (ev env it)):=Qd
theorem aJ6{it:ab}:dY P ag ⟨dst,.next it true,ty,pos,af,g⟩ L ⟨env,heap⟩ ()=cE (eH dst ⟨env,heap⟩ L) (sc heap (ev env it)):=Pu
theorem VH{T:ac}{l c:ab}:dV P ag ⟨dst,.makeSlice T l c,ty,pos,af,g⟩ ⟨env,heap⟩ K ()=cE K (se P T heap.length (ev env l) (ev env c)):=J0
theorem Vl{T:ac}{l c:ab}:dY P ag ⟨dst,.makeSlice T l c,ty,pos,af,g⟩ L ⟨env,heap⟩ ()=cE (eH dst ⟨env,heap⟩ L) (se P T heap.length (ev env l) (ev env c)):=JB
theorem VM{x:ab}:dV P ag ⟨dst,.nilCheck x,ty,pos,af,g⟩ ⟨env,heap⟩ K ()=cE K (rA (ev env x)):=J3
theorem V4{x:ab}:dY P ag ⟨dst,.nilCheck x,ty,pos,af,g⟩ L ⟨env,heap⟩ ()=cE (eH dst ⟨env,heap⟩ L) (rA (ev env x)):=Kp
theorem azo{args:Array ab}{a:Array ac}:dV P ag ⟨dst,.call {callee:=.builtin .min,args,argTypes:=a},ty,pos,af,g⟩ ⟨env,heap⟩ K ()=cE K (lr false (args.toList.map (ev env))):=QY
theorem aJ4{args:Array ab}{a:Array ac}:dY P ag ⟨dst,.call {callee:=.builtin .min,args,argTypes:=a},ty,pos,af,g⟩ L ⟨env,heap⟩ ()=cE (eH dst ⟨env,heap⟩ L) (lr false (args.toList.map (ev env))):=Si
theorem azm{args:Array ab}{a:Array ac}:dV P ag ⟨dst,.call {callee:=.builtin .max,args,argTypes:=a},ty,pos,af,g⟩ ⟨env,heap⟩ K ()=cE K (lr true (args.toList.map (ev env))):=QX
theorem aJ3{args:Array ab}{a:Array ac}:dY P ag ⟨dst,.call {callee:=.builtin .max,args,argTypes:=a},ty,pos,af,g⟩ L ⟨env,heap⟩ ()=cE (eH dst ⟨env,heap⟩ L) (lr true (args.toList.map (ev env))):=Sh
theorem We{T:ac}:dV P ag ⟨dst,.makeMap T none,ty,pos,af,g⟩ ⟨env,heap⟩ K ()=K {v:=.map heap.length,aX:=[.map false []]}:=Ly
theorem Wo{T:ac}:dY P ag ⟨dst,.makeMap T none,ty,pos,af,g⟩ L ⟨env,heap⟩ ()=eH dst ⟨env,heap⟩ L {v:=.map heap.length,aX:=[.map false []]}:=Lj
theorem XV{s x:ab}{T X:ac}:dV P ag ⟨dst,.call {callee:=.builtin .append,args:=#[s,x],argTypes:=#[T,X]},ty,pos,af,g⟩ ⟨env,heap⟩ K ()=cE K (pT P T X heap (ev env s) (ev env x)):=Mz
theorem Xv{s x:ab}{T X:ac}:dY P ag ⟨dst,.call {callee:=.builtin .append,args:=#[s,x],argTypes:=#[T,X]},ty,pos,af,g⟩ L ⟨env,heap⟩ ()=cE (eH dst ⟨env,heap⟩ L) (pT P T X heap (ev env s) (ev env x)):=LM
theorem azj{s x:ab}{T X:ac}:dV P ag ⟨dst,.call {callee:=.builtin .copy,args:=#[s,x],argTypes:=#[T,X]},ty,pos,af,g⟩ ⟨env,heap⟩ K ()=cE K (copyV P T heap (ev env s) (ev env x)):=PJ
theorem aJ0{s x:ab}{T X:ac}:dY P ag ⟨dst,.call {callee:=.builtin .copy,args:=#[s,x],argTypes:=#[T,X]},ty,pos,af,g⟩ L ⟨env,heap⟩ ()=cE (eH dst ⟨env,heap⟩ L) (copyV P T heap (ev env s) (ev env x)):=Px
theorem axw{f:am}{fi ca:List AV}{args:List AV}{M:AV->an->Prop}:Ay P heap M (.func f fi ca) args=kY P false f M (fi++args++ca) heap:=QR
theorem axD{f:am}{fi ca:List AV}{args:List AV}:xj P heap K (.func f fi ca) args=nt P f K (fi++args++ca) heap:=PM
theorem axz{f:am}{fi ca:List PV}{args:List AV}{M:AV->an->Prop}:Ay P heap M (.p (.func f fi ca)) args=kY P false f M (fi.map .p++args++ca.map .p) heap:=QS
theorem axE{f:am}{fi ca:List PV}{args:List AV}:xj P heap K (.p (.func f fi ca)) args=nt P f K (fi.map .p++args++ca.map .p) heap:=QT
end ops
section guards
variable{ops:Array Oper}{o:Oper}{r:List Oper}{K:St->Prop}{want t:Bool}{s:St}{i:Nat}{acc:List Touch}
theorem Vz:Eb P ag ops o r K want s (.p (.bool t))=if t=want then dY P ag o (qy P ag ops r K) s ()else qy P ag ops r K ⟨put o.dst (.p (.aE [])) s.env,s.heap⟩:=JT
theorem V1:Eb P ag ops o r K want s (.p (.aE []))=qy P ag ops r K ⟨put o.dst (.p (.aE [])) s.env,s.heap⟩:=Ku
theorem U3:Dv P ag ops o r i acc K want s (.p (.bool t))=if t=want then dV P ag o s (Ad P ag ops r i acc K o.dst s) ()else oT P ag ops r (i+1) acc K ⟨put o.dst (.p (.aE [])) s.env,s.heap⟩:=Jm
theorem Vy:Dv P ag ops o r i acc K want s (.p (.aE []))=oT P ag ops r (i+1) acc K ⟨put o.dst (.p (.aE [])) s.env,s.heap⟩:=JS
end guards
theorem UW{id:Nat}{Q:bw->St->Prop}{s:St}:rL id Q .normal s=Q .normal s:=(rfl)
theorem Wb{id i:Nat}{Q:bw->St->Prop}{s:St}:rL id Q (.exit i) s=if i=id then Q .normal s else Q (.exit i) s:=(rfl)
theorem Xf{id:Nat}{Q:bw->St->Prop}{s:St}:rL id Q .ret s=Q .ret s:=(rfl)
section makeFunc
variable{dst:Option Tmp}{ty:Nat}{pos:String}{af:Array Edge}{g:Option (Nat×Bool)}{env:Env}{heap:an}{L:St->Prop}{K:aZ->Prop}{f:am}{fi ca:Array ab}
theorem V5(hf:ag f=false):dY P ag ⟨dst,.makeFunc (.func f) fi ca,ty,pos,af,g⟩ L ⟨env,heap⟩ ()=cE (eH dst ⟨env,heap⟩ L) (rT f (fi.toList.map (ev env)) (ca.toList.map (ev env))):=Kq hf
theorem VN(hf:ag f=false):dV P ag ⟨dst,.makeFunc (.func f) fi ca,ty,pos,af,g⟩ ⟨env,heap⟩ K ()=cE K (rT f (fi.toList.map (ev env)) (ca.toList.map (ev env))):=J4 hf
end makeFunc
theorem W1{p:Prop}{e:aZ}{K:aZ->Prop}:cE K (some (p,e))=(p/\K e):=(rfl)
theorem W2{K:aZ->Prop}:cE K none=False:=(rfl)
theorem WI{a:Array Oper}:wV a []=true:=(rfl)
theorem Vw{a:Array Oper}{t:Touch}{r:List Touch}:wV a (t::r)=(r.all (fun u=>!jx u t||aKo a u.i t.i)&&wV a r):=(rfl)
theorem XO{a:List ap}{v:PV}{s:St}:su P a v .ret s=∃vs,fN P s a=some vs/\gp s.heap 9 (oneOf vs) v:=by simp[su]
theorem VD{a:List ap}{v:PV}{s:St}:su P a v .normal s=∃vs,fN P s a=some vs/\gp s.heap 9 (oneOf vs) v:=by simp[su]
section pur
variable{H:an}
theorem x9{n:Nat}{a v:PV}:gp H n (.p a) v=Wk a v:=by cases n<;>rfl
theorem OQ{n b aC z off len:Nat}{fs:List PV}:gp H (n+1) (.sl b aC z off len) (.seq fs)=match H[b]? with
  |some (.arr _ a c es)=>aC=a/\z=c/\off+len<=es.length/\mQ H n ((es.drop off).take len) fs
  |_=>False:=(rfl)
theorem aKj{n:Nat}{u u':ac}{a:List AV}{vs:List PV}:gp H (n+1) (.st u a) (.st u' vs)=(u=u'/\mQ H n a vs):=(rfl)
theorem aKk{n:Nat}{a:List AV}{vs:List PV}:gp H (n+1) (.aE a) (.aE vs)=mQ H n a vs:=(rfl)
theorem N1{n b:Nat}{a:List (PV×PV)}:gp H (n+1) (.map b) (.eg a)=match H[b]? with
  |some (.map _ c)=>c=a
  |_=>False:=(rfl)
theorem aKi{n:Nat}{f a:am}{c d:List AV}{vs b:List PV}:gp H (n+1) (.func f c d) (.func a vs b)=(f=a/\mQ H n c vs/\mQ H n d b):=(rfl)
theorem yR{n:Nat}{vs:List PV}:mQ H n [] vs=(vs=[]):=(rfl)
theorem Cv{n:Nat}{x:AV}{a:List AV}{v:PV}{vs:List PV}:mQ H n (x::a) (v::vs)=(gp H n x v/\mQ H n a vs):=(rfl)
theorem LG{α:Type}{n:Nat}{g:α->AV}{f:α->PV}:∀{l:List α},mQ H n (l.map g) (l.map f)=∀x∈l,gp H n (g x) (f x)
 |[]=>by simp[yR]
 |a::l=>by simp[Cv,LG (l:=l)]
theorem tQ(n:Nat)(c:∀(x:AV)(v:PV),gp H n x v->∃v',eC H n x=some v'/\Wk v' v):∀(b:List AV)(vs:List PV),mQ H n b vs->∃a,kg (eC H n) b=some a/\bD a vs
 |[],vs,h=>by rw[yR]at h;subst h;exact⟨[],rfl,by simp[bD]⟩
 |x::b,vs,h=>by
  cases vs with
  |nil=>exact h.elim
  |cons v vs=>
   rw[Cv]at h;obtain⟨p,d,e⟩:=c x v h.1;obtain⟨a,f,g⟩:=tQ n c b vs h.2;exact⟨p::a,by simp[kg,d,f],by simp only[bD];exact⟨e,g⟩⟩
theorem rH:∀(n:Nat)(x:AV)(v:PV),gp H n x v->∃v',eC H n x=some v'/\Wk v' v
 |0,x,v,h=>by
  cases x with
  |p a=>exact⟨_,rfl,h⟩
  |_=>exact h.elim
 |n+1,x,v,h=>by
  cases x with
  |p a=>rw[x9]at h;exact⟨_,rfl,h⟩
  |sl b aC z off len=>
   cases v with
   |seq fs=>
    rw[OQ]at h
    split at h
    case h_2=>exact h.elim
    rename_i k C E j e;obtain⟨rfl,rfl,m,g⟩:=h;obtain⟨i,c,d⟩:=tQ n (rH n) _ _ g;simp only[eC,e,m,and_self,if_true]
    split
    ·rename_i r;rw[r.2]at g;simp only[List.drop_nil,List.take_nil,yR]at g;exact⟨_,rfl,by rw[g];simp[Wk]⟩
    ·rw[c];exact⟨_,rfl,by simp only[Wk];exact d⟩
   |_=>exact h.elim
  |st u xs=>
   cases v with
   |st u' vs=>
    obtain⟨rfl,h⟩:=h;obtain⟨i,c,d⟩:=tQ n (rH n) _ _ h;simp only[eC,c];exact⟨_,rfl,by simp only[Wk];exact⟨trivial,d⟩⟩
   |_=>exact h.elim
  |aE xs=>
   cases v with
   |aE vs=>
    obtain⟨i,c,d⟩:=tQ n (rH n) _ _ h;simp only[eC,c];exact⟨_,rfl,by simp only[Wk];exact d⟩
   |_=>exact h.elim
  |ptr b path=>
   cases v with
   |cq t=>
    change (match H[b]? with
     |some (.box _ y)=>match eU y path with
      |some s=>gp H n s t
      |none=>False
     |_=>False)at h
    split at h
    case h_2=>exact h.elim
    rename_i e
    split at h
    case h_2=>exact h.elim
    rename_i s hs;obtain⟨p,c,d⟩:=rH n _ _ h;simp only[eC,e,hs,c];exact⟨_,rfl,by simp only[Wk];exact d⟩
   |_=>exact h.elim
  |b8 _ _ _ _ _=>exact h.elim
  |map b=>
   cases v with
   |eg j=>
    rw[N1]at h
    split at h
    case h_2=>exact h.elim
    rename_i fz w e;subst h;simp only[eC,e];exact⟨_,rfl,Wk.refl _⟩
   |_=>exact h.elim
  |func f xs D=>
   cases v with
   |func A vs us=>
    obtain⟨rfl,h,l⟩:=h;obtain⟨i,c,d⟩:=tQ n (rH n) _ _ h;obtain⟨B,o,q⟩:=tQ n (rH n) _ _ l;simp only[eC,c,o];exact⟨_,rfl,by simp only[Wk];exact⟨trivial,d,q⟩⟩
   |_=>exact h.elim
end pur
theorem YC{f:am}{fn:Func}(ag:am->Bool)(h:az P f fn)(n:P.follows .mixedOrders=true){args:List PV}{v:PV}(o:args.length<=fn.ntmps)
 (d:eM P ag (fn.ntmps,0) (fn.body.getD .skip) (su P fn.results.toList v) ⟨iV 0 (args.map .p),[]⟩):so P f args v:=by
 have hs:=h.stat;simp only[Bool.and_eq_true,bne_iff_ne]at hs;have k:fn.body=some (fn.body.getD .skip):=by
  have a:=hs.1.1;clear d hs;cases l:fn.body with
  |none=>rw[l]at a;simp at a
  |some c=>rfl
 obtain⟨e,s,⟨a,vs,g,b⟩,j⟩:=nR _ _ _ (mb (Q':=su P fn.results.toList v) _ (fun _ _ h=>h) d);obtain⟨v',b,i⟩:=rH _ _ _ b;have m:so P f args v':=Mo (px ag) (yC (px ag) n) h.enters h.func k hs.2 o (j (Ends P fn.results.toList v') ⟨by cases e<;>exact a,vs,g,b⟩);exact m.de (bD.refl _) i
theorem aI{f:am}{fn:Func}(ag:am->Bool)(h:az P f fn)(a:P.follows .mixedOrders=true){args:List PV}{v:PV}(b:args.length<=fn.ntmps)
 (c:eM P ag (fn.ntmps,0) (fn.body.getD .skip) (su P fn.results.toList v) ⟨iV 0 (args.map .p),[]⟩):ar P f args v:=.inl (YC ag h a b c)
theorem Sq{α:Type}{N:Nat×Nat->Prop}{f:α->PV}{l:List α}:ba N (l.map fun x=>.p (f x))=True:=by
 rw[dc,eq_iff_iff,iff_true];intro v a;simp only[a5]at a;obtain⟨x,_,rfl⟩:=a;trivial
theorem aKv{α:Type}{N:Nat×Nat->Prop}{f:α->PV}{l:List α}{i:Nat}:ba N ((l.map fun x=>.p (f x)).take i)=True:=by
 rw[dc,eq_iff_iff,iff_true];intro v a;have a:=List.mem_of_mem_take a;simp only[a5]at a;obtain⟨x,_,rfl⟩:=a;trivial
theorem XF{N:Nat×Nat->Prop}{a b:List AV}:ba N (a++b)=(ba N a/\ba N b):=by
 simp only[dc,List.mem_append,eq_iff_iff];exact⟨fun h=>⟨fun v c=>h v (.inl c),fun v c=>h v (.inr c)⟩,fun h v c=>c.elim (h.1 v) (h.2 v)⟩
theorem UE{α:Type}{l:List α}{i:Nat}:(l.take i).take i=l.take i:=by simp[List.take_take]
theorem UD{α β:Type}{f:α->β}{l:List α}:(l.map f).take l.length=l.map f:=List.take_of_length_le (by simp)
section loops
variable{α:Type}(N:Nat)(mk:α->St)(ok:α->Prop)(m:α->Nat)(n:Nat)(Q:bw->St->Prop)
def FE(s:Tg (N,mk,ok,m,n) St):Prop:=uZ N mk ok m n s
def Ag(e:Tg (N,mk,ok,m,n,Q) bw)(s:Tg (N,mk,ok,m,n,Q) St):Prop:=rU N mk ok m n Q e s
variable{N}{mk}{ok}{m}{n}{Q}{s s':St}
theorem Ve:Ag N mk ok m n Q .normal s=FE N mk ok m n s:=(rfl)
theorem Ww{id:Nat}:Ag N mk ok m n Q (.exit id) s=Q (.exit id) s:=(rfl)
theorem Xq:Ag N mk ok m n Q .ret s=Q .ret s:=(rfl)
theorem lp{c:Nat}{b:Code}(mk:α->St)(ok:α->Prop)(m:α->Nat)(a0:α)(d:ok a0)(ij:∀a,ok a->eM P ag (c,N) b (Ag N mk ok m (m a) Q) (mk a))
 (hn:(mk a0).heap.take N=s.heap.take N:=by simp)(he:mu (mk a0).heap s.env (mk a0).env:=by simp)(hh:ie (mk a0).heap s.heap (mk a0).heap:=by simp)(hr:iq (mk a0).heap (mk a0).env:=by simp)(hr2:dG (mk a0).heap (mk a0).heap:=by simp):
 eM P ag (c,N) (.loop b) Q s:=wl (q:=(c,N)) mk ok m a0 d ij hn he hh hr hr2
theorem rd(a':α)(a:ok a')(h1:m a'<n:=by omega)(hn:(mk a').heap.take N=s.heap.take N:=by simp)(he:mu (mk a').heap s.env (mk a').env:=by simp)(hh:ie (mk a').heap s.heap (mk a').heap:=by simp)(hr:iq (mk a').heap (mk a').env:=by simp)(hr2:dG (mk a').heap (mk a').heap:=by simp):
 FE N mk ok m n s:=rnd a' a h1 hn he hh hr hr2
end loops
section calls
variable{f:am}{H H1:an}{K:AV->an->Prop}{L:aZ->Prop}{v a b c d e a' b' c' d' e':PV}
theorem c0(h:ar P f [] v)(hk:K (.p v) H):kY P false f K [] H:=cw0 h hk
theorem c1(h:ar P f [a'] v)(hk:K (.p v) H)(h1:Wk a a':=by first|exact Wk.refl _|simp):kY P false f K [.p a] H:=cw1 h hk h1
theorem c2(h:ar P f [a',b'] v)(hk:K (.p v) H)(h1:Wk a a':=by first|exact Wk.refl _|simp)(c:Wk b b':=by first|exact Wk.refl _|simp):kY P false f K [.p a,.p b] H:=cw2 h hk h1 c
theorem c3(h:ar P f [a',b',c'] v)(hk:K (.p v) H)(h1:Wk a a':=by first|exact Wk.refl _|simp)(d:Wk b b':=by first|exact Wk.refl _|simp)(e:Wk c c':=by first|exact Wk.refl _|simp):kY P false f K [.p a,.p b,.p c] H:=cw3 h hk h1 d e
theorem c4(h:ar P f [a',b',c',d'] v)(hk:K (.p v) H)(e:Wk a a':=by first|exact Wk.refl _|simp)(g:Wk b b':=by first|exact Wk.refl _|simp)(i:Wk c c':=by first|exact Wk.refl _|simp)(j:Wk d d':=by first|exact Wk.refl _|simp):kY P false f K [.p a,.p b,.p c,.p d] H:=cw4 h hk e g i j
theorem c5(h:ar P f [a',b',c',d',e'] v)(hk:K (.p v) H)(g:Wk a a':=by first|exact Wk.refl _|simp)(i:Wk b b':=by first|exact Wk.refl _|simp)(j:Wk c c':=by first|exact Wk.refl _|simp)(k:Wk d d':=by first|exact Wk.refl _|simp)(l:Wk e e':=by first|exact Wk.refl _|simp):kY P false f K [.p a,.p b,.p c,.p d,.p e] H:=cw5 h hk g i j k l
theorem e0(h:ar P f [] v)(hk:L {v:=.p v}):nt P f L [] H:=ce0 h hk
theorem e1(h:ar P f [a'] v)(hk:L {v:=.p v})(h1:Wk a a':=by first|exact Wk.refl _|simp):nt P f L [.p a] H:=ce1 h hk h1
theorem e2(h:ar P f [a',b'] v)(hk:L {v:=.p v})(h1:Wk a a':=by first|exact Wk.refl _|simp)(c:Wk b b':=by first|exact Wk.refl _|simp):nt P f L [.p a,.p b] H:=ce2 h hk h1 c
theorem e3(h:ar P f [a',b',c'] v)(hk:L {v:=.p v})(h1:Wk a a':=by first|exact Wk.refl _|simp)(d:Wk b b':=by first|exact Wk.refl _|simp)(e:Wk c c':=by first|exact Wk.refl _|simp):nt P f L [.p a,.p b,.p c] H:=ce3 h hk h1 d e
theorem e4(h:ar P f [a',b',c',d'] v)(hk:L {v:=.p v})(e:Wk a a':=by first|exact Wk.refl _|simp)(g:Wk b b':=by first|exact Wk.refl _|simp)(i:Wk c c':=by first|exact Wk.refl _|simp)(j:Wk d d':=by first|exact Wk.refl _|simp):nt P f L [.p a,.p b,.p c,.p d] H:=ce4 h hk e g i j
theorem e5(h:ar P f [a',b',c',d',e'] v)(hk:L {v:=.p v})(g:Wk a a':=by first|exact Wk.refl _|simp)(i:Wk b b':=by first|exact Wk.refl _|simp)(j:Wk c c':=by first|exact Wk.refl _|simp)(k:Wk d d':=by first|exact Wk.refl _|simp)(l:Wk e e':=by first|exact Wk.refl _|simp):nt P f L [.p a,.p b,.p c,.p d,.p e] H:=ce5 h hk g i j k l
theorem cp{args:List AV}{vs a:List PV}(h:ar P f a v)(b:nI H args=some (vs,H1))(hk:K (.p v) H1)(h1:bD vs a:=by first|exact bD.refl _|simp):kY P false f K args H:=cwp h b hk h1
theorem ep{args:List AV}{vs a:List PV}{bs:List Nat}{aq aM:List (Nat×Obj)}(h:ar P f a v)(b:oK H args=some (vs,bs))(hf:lO H bs=some (aq,aM))(hk:L {v:=.p v,aq,aM})(h1:bD vs a:=by first|exact bD.refl _|simp):nt P f L args H:=cep h b hf hk h1
theorem ci{args:List AV}{H':an}{v:AV}(h:cA P f H args H' v)(hk:K v H'):kY P false f K args H:=.inr ⟨rfl,.inr (.inl ⟨H',v,h,hk⟩)⟩
end calls
attribute [simp] Sq aKv XF UE x9 OQ aKj aKk N1 aKi yR Cv LG UD ba UW Wb Xf Vz V1 U3 Vy V5 VN W1 W2 WI Vw XO VD Ve Ww Xq nI lA oK mN lO mE
 aLA Yj aLy aLz Yh aLx Yi bt Me aLw Vi WT WZ VO XK Zv Zc aLB Yg Xm aLH Yf Xl azp XU azr ZH ayM ZG UR azl ZA ayH azt ayV Wf VJ VI ZE azk ayU aJ5 Xu aJ7 Zl aJX Zk UZ aJ2 Zf aJW aJ8 aJZ Wp U8 Vm Zi aJ1 aJY ZC Zg XS Xs VG Vk XT Xt ZD Zh azq aJ6 VH Vl VM V4 azo aJ4 azm aJ3 We Wo XV Xv azj aJ0 axw axD axz axE
end
section
variable{P:ao}{ag:am->Bool}{q:Cx}
theorem K6{r:eL}{K a:aZ->Prop}(hk:∀e,K e->a e)(h:bk r K):bk r a:=by
 unfold bk at h⊢
 split at h
 ·exact⟨h.1,hk _ h.2⟩
 ·exact h.elim
theorem Wu{o:Oper}{e:Env}{H:an}{K a:aZ->Prop}(hk:∀e,K e->a e)(h:fH P ag o (ev e) H K):fH P ag o (ev e) H a:=by
 obtain⟨x,b,c⟩:=Di (ag:=ag) o (ev e) H K h;exact c a (hk x b)
theorem ME{o:Oper}{e:Env}{H:an}{K a:aZ->Prop}(hk:∀e,K e->a e)(h:lx P ag o e H K):lx P ag o e H a:=by
 unfold lx at h⊢
 repeat' split at h
 all_goals first|exact hk _ h|exact K6 hk h|exact⟨h.1,K6 hk h.2⟩|exact Wu hk h|exact h.elim
theorem JP{d:Bool}{f:am}{args:List AV}{H:an}{K i:AV->an->Prop}(hk:∀v H,K v H->i v H)(h:ib P d f args H K):ib P d f args H i:=by
 rcases h with⟨vs,v,a,b,c⟩|⟨g,⟨vs,H1,v,a,b,c⟩|⟨H',v,a,b⟩|⟨e,a,b,c⟩|⟨aq,v,a,b,c⟩⟩
 ·exact .inl ⟨vs,v,a,b,hk _ _ c⟩
 ·exact .inr ⟨g,.inl ⟨vs,H1,v,a,b,hk _ _ c⟩⟩
 ·exact .inr ⟨g,.inr (.inl ⟨H',v,a,hk _ _ b⟩)⟩
 ·exact .inr ⟨g,.inr (.inr (.inl ⟨e,a,b,hk _ _ c⟩))⟩
 ·exact .inr ⟨g,.inr (.inr (.inr ⟨aq,v,a,b,hk _ _ c⟩))⟩
theorem Ka{f:am}{args:List AV}{H:an}{K d:aZ->Prop}(hk:∀e,K e->d e)(h:im P f args H K):im P f args H d:=by
 rcases h with⟨vs,v,a,b,c⟩|⟨vs,bs,aq,aM,v,a,b,c,g⟩|⟨e,a,b,c⟩|⟨aq,v,a,b,c⟩
 ·exact .inl ⟨vs,v,a,b,hk _ c⟩
 ·exact .inr (.inl ⟨vs,bs,aq,aM,v,a,b,c,hk _ g⟩)
 ·exact .inr (.inr (.inl ⟨e,a,b,hk _ c⟩))
 ·exact .inr (.inr (.inr ⟨aq,v,a,b,hk _ c⟩))
theorem Jy{o:Oper}{K b:St->Prop}{s:St}(hk:∀s,K s->b s)(h:dv P ag o K s):dv P ag o b s:=by
 unfold dv at h⊢
 split at h
 ·rename_i f args g i;unfold rS at h⊢
  split at h
  ·exact JP (fun v H a=>hk _ a) h
  ·exact JP (fun v H a=>hk _ a) h
  ·obtain⟨H',v,c,d⟩:=h;exact⟨H',v,c,hk _ d⟩
  ·exact h.elim
 ·exact ME (fun e a=>hk _ a) h
theorem JV{o:Oper}{s:St}{K a:aZ->Prop}(hk:∀e,K e->a e)(h:dw P ag o s K):dw P ag o s a:=by
 unfold dw at h⊢
 split at h
 ·rename_i f args g i;unfold rJ at h⊢
  split at h
  ·exact Ka hk h
  ·exact Ka hk h
  ·obtain⟨e,b,c,d⟩:=h;exact⟨e,b,c,hk _ d⟩
  ·exact h.elim
 ·exact ME hk h
theorem vz{c:Array Oper}:∀(l:List Oper){K a:St->Prop}{s:St},(∀s,K s->a s)->gh P ag c l K s->gh P ag c l a s
 |[],K,a,s,hk,h=>hk s h
 |o::l,K,a,s,hk,h=>by
  simp only[gh]at h⊢
  split at h
  ·exact Jy (fun s hs=>vz l hk hs) h
  ·split at h
   ·split at h
    ·rename_i b;rw[if_pos b];exact Jy (fun s hs=>vz l hk hs) h
    ·rename_i b;rw[if_neg b];exact vz l hk h
   ·exact vz l hk h
   ·exact h.elim
theorem vw{d:Array Oper}:∀(l:List Oper){i:Nat}{b:List Touch}{K a:St->Prop}{s:St},(∀s,K s->a s)->gz P ag d l i b K s->gz P ag d l i b a s
 |[],i,b,K,a,s,hk,h=>⟨h.1,hk s h.2⟩
 |o::l,i,b,K,a,s,hk,h=>by
  simp only[gz]at h⊢
  split at h
  ·exact JV (fun e hs=>vw l hk hs) h
  ·split at h
   ·split at h
    ·rename_i c;rw[if_pos c];exact JV (fun e hs=>vw l hk hs) h
    ·rename_i c;rw[if_neg c];exact vw l hk h
   ·exact vw l hk h
   ·exact h.elim
theorem nQ:∀(c:Code){Q g:bw->St->Prop}{s:St},(∀e s,Q e s->g e s)->du P ag q c Q s->du P ag q c g s
 | .skip,Q,g,s,hq,h=>hq _ _ h
 | .label _,Q,g,s,hq,h=>hq _ _ h
 | .exit _,Q,g,s,hq,h=>hq _ _ h
 | .ret,Q,g,s,hq,h=>hq _ _ h
 | .region _ ops draw,Q,g,s,hq,h=>by
  simp only[du]at h⊢
  split at h
  ·rename_i j;rw[if_pos j];exact vw _ (fun s hs=>hq _ _ hs) h
  ·rename_i j;rw[if_neg j];exact vz _ (fun s hs=>hq _ _ hs) h
 | .seq a b,Q,g,s,hq,h=>by
  simp only[du]at h⊢;refine nQ a (fun e s d=>?_) h;cases e with
  |normal=>exact nQ b hq d
  |exit i=>exact hq _ _ d
  |ret=>exact hq _ _ d
 | .cond c a b,Q,g,s,hq,h=>by
  simp only[du]at h⊢;unfold uj at h⊢
  split at h
  ·split at h
   ·rename_i k;rw[if_pos k];exact nQ a hq h
   ·rename_i k;rw[if_neg k];exact nQ b hq h
  ·exact h.elim
 | .block id b,Q,g,s,hq,h=>by
  simp only[du]at h⊢;refine nQ b (fun e s d=>?_) h;cases e with
  |normal=>exact hq _ _ d
  |exit i=>
   simp only[oD]at d⊢
   by_cases hi:i=id
   ·simp only[hi,if_true]at d⊢;exact hq _ _ d
   ·simp only[hi,if_false]at d⊢;exact hq _ _ d
  |ret=>exact hq _ _ d
 | .scope b,Q,g,s,hq,h=>nQ b hq h
 | .loop b,Q,g,s,hq,h=>by
  simp only[du]at h⊢;obtain⟨I,l,m⟩:=h;refine⟨I,l,fun n t hI=>nQ b (fun e s d=>?_) (m n t hI)⟩;cases e with
  |normal=>exact d
  |exit id=>exact hq _ _ d
  |ret=>exact hq _ _ d
 | .rangeFunc f o a b,Q,g,s,hq,h=>by
  simp only[du]at h⊢;exact⟨h.1,KE (fun H=>KI hq) h.2⟩
 | .goto _,_,_,_,_,h=>h.elim
 | .refuse _,_,_,_,_,h=>h.elim
def rW(R:St->Prop)(Q:bw->St->Prop)(e:Tg (R,Q) bw)(s:Tg (R,Q) St):Prop:=match e with
 | .normal=>R s
 |e=>Q e s
theorem U6{R:St->Prop}{Q:bw->St->Prop}{s:St}:rW R Q .normal s=R s:=(rfl)
theorem WA{R:St->Prop}{Q:bw->St->Prop}{id:Nat}{s:St}:rW R Q (.exit id) s=Q (.exit id) s:=(rfl)
theorem XZ{R:St->Prop}{Q:bw->St->Prop}{s:St}:rW R Q .ret s=Q .ret s:=(rfl)
theorem join{a b:Code}{Q:bw->St->Prop}{s:St}(R:St->Prop)(d:eM P ag q a (rW R Q) s)(f:∀s',R s'->eM P ag q b Q s'):eM P ag q (.seq a b) Q s:=by
 rw[bt];refine nQ a (fun e s c=>?_) d;cases e with
 |normal=>exact f s c
 |exit i=>exact c
 |ret=>exact c
theorem Sr{α:Type}{N:Nat×Nat->Prop}{f:α->PV}{l:List α}:ba N (l.map (AV.p∘f))=True:=Sq
attribute [simp] U6 WA XZ Sr
end
section
variable{P:ao}{ag:am->Bool}
def wR(P:ao)(a:List ap)(N:Nat)(H':an)(v:AV)(e:Tg (a,N,H',v) bw)(s:Tg (a,N,H',v) St):Prop:=uu P a N H' v e s
theorem WE{a:List ap}{N:Nat}{H':an}{v:AV}{s:St}:wR P a N H' v .ret s=∃vs,fN P s a=some vs/\oneOf vs=v/\(H'=s.heap\/(cV N s ⟨[],H'⟩/\aG (aJ H') v)):=by simp[wR,uu]
theorem UQ{a:List ap}{N:Nat}{H':an}{v:AV}{s:St}:wR P a N H' v .normal s=∃vs,fN P s a=some vs/\oneOf vs=v/\(H'=s.heap\/(cV N s ⟨[],H'⟩/\aG (aJ H') v)):=by simp[wR,uu]
theorem fh{f:am}{fn:Func}(ag:am->Bool)(h:az P f fn)(a:P.follows .mixedOrders=true){args:List AV}{H H':an}{v:AV}(b:args.length<=fn.ntmps)
 (c:eM P ag (fn.ntmps,H.length) (fn.body.getD .skip) (wR P fn.results.toList H.length H' v) ⟨iV 0 args,H⟩):cA P f H args H' v:=
 Rd ag h a b (mb (Q':=uu P fn.results.toList H.length H' v) _ (fun _ _ h=>h) c)
theorem aKM{n i:Nat}:sig [] n i=n+i:=by simp[sig]
theorem cn{f:am}{H H':an}{K:AV->an->Prop}{v:AV}{args:List PV}(h:cA P f [] (args.map .p) H' v)(hk:K (cJ (sig [] H.length) v) (H++H'.map (dd (sig [] H.length)))):kY P false f K (args.map .p) H:=by
 refine .inr ⟨rfl,.inr (.inr (.inl ⟨dB [] H.length [] H' v,?_,⟨by simp[dB],by simp[dB]⟩,?_⟩))⟩
 ·have b:ba (aJ ([]:an)) (args.map .p):=by rw[dc];intro v c;obtain⟨x,_,rfl⟩:=a5.1 c;trivial
  have:=h.frame [] H.length rfl List.nodup_nil (by simp) (by simp) b (by simp);have e:cU (sig [] H.length) (args.map .p)=args.map .p:=by
   clear h b this hk
   induction args with
   |nil=>rfl
   |cons a r d=>simp only[a3,cU,cJ,d]
  rwa [e]at this
 ·simpa[dB,bf]using hk
theorem QP{f:am}{H H':an}{K:AV->an->Prop}{v:AV}{a b:PV}(h:cA P f [] [.p a,.p b] H' v)(hk:K (cJ (sig [] H.length) v) (H++H'.map (dd (sig [] H.length)))):kY P false f K [.p a,.p b] H:=cn (args:=[a,b]) h hk
def Qa(P:ao)(T:ac)(f:Nat):Option (ac×jD):=match kindOf P T,P.underlying T with
 | .agg u,some (.struct _)=>((jF P u)[f]?).map fun F=>(u,kindOf P F)
 |_,_=>none
def zT(P:ao)(T:ac)(f:Nat)(x:AV):eL:=match Qa P T f,x with
 |some (u,k),.p t=>match(bY t)[f]? with
  |some g=>some (aL t=.agg u/\k=aL g,{v:=.p g})
  |none=>none
 |_,_=>none
theorem Mr{T:ac}{x:AV}{f:Nat}{K:aZ->Prop}:(match kindOf P T,P.underlying T,x with
  | .agg u,some (.struct _),.p t=>aL t=.agg u/\(match(bY t)[f]?,(jF P u)[f]? with
   |some g,some F=>kindOf P F=aL g/\K {v:=.p g}
   |_,_=>False)
  |_,_,_=>False)=bk (zT P T f x) K:=by
 unfold zT Qa;cases b:kindOf P T with
 |agg u=>cases c:P.underlying T with
  |none=>simp[bk]
  |some d=>cases d with
   |struct fs=>cases x with
    |p t=>cases hc:(jF P u)[f]?<;>cases a:(bY t)[f]?<;>simp[bk,a,hc,and_assoc]
    |_=>cases hc:(jF P u)[f]?<;>simp[bk,hc]
   |_=>simp[bk]
 |_=>simp[bk]
section fields
variable{dst:Option Tmp}{ty:Nat}{pos:String}{af:Array Edge}{g:Option (Nat×Bool)}{env:Env}{heap:an}{L:St->Prop}{K:aZ->Prop}{T:ac}{x:ab}{f:Nat}
theorem Zj:dY P ag ⟨dst,.field T x f,ty,pos,af,g⟩ L ⟨env,heap⟩ ()=cE (eH dst ⟨env,heap⟩ L) (zT P T f (ev env x)):=Mr
theorem ZF:dV P ag ⟨dst,.field T x f,ty,pos,af,g⟩ ⟨env,heap⟩ K ()=cE K (zT P T f (ev env x)):=Mr
end fields
theorem yQ{σ:Nat->Nat}{α:Type}{f:α->PV}:∀{l:List α},cU σ (l.map (AV.p∘f))=l.map (AV.p∘f)
 |[]=>rfl
 |a::l=>by simp only[a3,cU,yQ (l:=l)];rfl
theorem XG{σ:Nat->Nat}{α β:Type}{f:β->PV}{g:α->β}{l:List α}:cU σ (l.map ((AV.p∘f)∘g))=l.map ((AV.p∘f)∘g):=yQ (f:=f∘g)
theorem aKt{α β:Type}{N:Nat×Nat->Prop}{f:β->PV}{g:α->β}{l:List α}:ba N (l.map ((AV.p∘f)∘g))=True:=Sr (f:=f∘g)
attribute [simp] Zj ZF XG aKt WE UQ aKM cJ cU dd yQ
end
section
variable{P:ao}{ag:am->Bool}
theorem MR{T:an}:∀{h:an},ie T h h=True
 |[]=>by simp[ie]
 |o::h=>by simp[ie,Ow,MR (h:=h)]
theorem Dg{T:an}:∀{h k:an},dG T (h++k)=(dG T h/\dG T k)
 |[],k=>by simp[dG]
 |o::h,k=>by simp[dG,Dg (h:=h),and_assoc]
theorem aKu{N:Nat×Nat->Prop}{n:Nat}{v:PV}:ba N (bo n (.p v))=True:=by
 rw[dc,eq_iff_iff,iff_true];intro x hx;rw[(List.mem_replicate.1 hx).2];trivial
theorem Y9{σ:Nat->Nat}{α:Type}{f:α->PV}{l:List α}:cU σ (l.map fun x=>.p (f x))=l.map fun x=>.p (f x):=yQ (f:=f)
theorem Ft{L:dW}{e:Env}{H:an}(h:L.env=e)(a:iq H e):∀x,aG (aJ H) (aS L.env x):=by rw[h];exact a.get
def dW.bz(L:dW):dW:={L with st:=.busy}
def dW.dn(L:dW)(j:Code):dW:={L with st:=.done,pending:=some j}
def dW.xh(L:dW):dW:={L with st:=.exhausted}
theorem Gw{L:dW}{e:Env}{H:an}{j:Code}(h:L.env=e)(a:iq H e):∀x,aG (aJ H) (aS (L.dn j).env x):=Ft h a
def Stream(P:ao)(g:am)(fi ca:List PV)(d:List (List PV)):Prop:=
 ∀(b k:Nat)(c:Nat->an)(H':an),k<=d.length->(∀i,i<=k->dG (c i) (c i)/\aG (aJ (c i)) (.map b))->
  (∀i a,i<k->d[i]?=some a->ft P b (c i) (a.map .p) (c (i+1)) (.p (.bool true)))->
  (k=d.length/\H'=c k\/∃a,d[k]?=some a/\ft P b (c k) (a.map .p) H' (.p (.bool false)))->
  cA P g (c 0) (fi.map .p++[.map b]++ca.map .p) H' (.p (.aE []))
theorem axy{b:Nat}{args:List AV}{M:AV->an->Prop}{heap:an}:Ay P heap M (.map b) args=∃H' v,ft P b heap args H' v/\M v H':=(rfl)
def uP(b:Nat)(L:dW)(N:Nat)(H':an)(v:Bool)(e:Tg (b,L,N,H',v) bw)(s:Tg (b,L,N,H',v) St):Prop:=
 match e with
 | .normal=>v=true/\(St.heap s)[b]?=some (.loop L.bz)/\cV N ⟨[],(St.heap s).set b (.loop L)⟩ ⟨[],H'⟩
 | .exit id=>v=false/\(St.heap s)[b]?=some (.loop L.bz)/\cV N ⟨[],(St.heap s).set b (.loop (L.dn (.exit id)))⟩ ⟨[],H'⟩
 | .ret=>v=false/\(St.heap s)[b]?=some (.loop L.bz)/\cV N ⟨[],(St.heap s).set b (.loop (L.dn .ret))⟩ ⟨[],H'⟩
section
variable{b N:Nat}{L:dW}{H':an}{v:Bool}{s:St}
theorem WW:uP b L N H' v .normal s=(v=true/\s.heap[b]?=some (.loop L.bz)/\cV N ⟨[],s.heap.set b (.loop L)⟩ ⟨[],H'⟩):=(rfl)
theorem Zb{id:Nat}:uP b L N H' v (.exit id) s=(v=false/\s.heap[b]?=some (.loop L.bz)/\cV N ⟨[],s.heap.set b (.loop (L.dn (.exit id)))⟩ ⟨[],H'⟩):=(rfl)
theorem aKn:uP b L N H' v .ret s=(v=false/\s.heap[b]?=some (.loop L.bz)/\cV N ⟨[],s.heap.set b (.loop (L.dn .ret))⟩ ⟨[],H'⟩):=(rfl)
end
def Fs(P:ao)(ag:am->Bool)(q:Cx)(b:Nat)(c:Code)(L:dW)(H':an)(v:Bool)(e:Tg (q,b,c,L,H',v) bw)(s:Tg (q,b,c,L,H',v) St):Prop:=
 match e with
 | .normal=>(St.heap s)[b]?=some (.loop L)/\eM P ag q c (uP b L q.2 H' v) ⟨St.env s,(St.heap s).set b (.loop L.bz)⟩
 |_=>False
theorem WX{q:Cx}{b:Nat}{c:Code}{L:dW}{H':an}{v:Bool}{s:St}:Fs P ag q b c L H' v .normal s=(s.heap[b]?=some (.loop L)/\eM P ag q c (uP b L q.2 H' v) ⟨s.env,s.heap.set b (.loop L.bz)⟩):=(rfl)
theorem xS(ag:am->Bool)(r:P.follows .mixedOrders=true){b n:Nat}{L:dW}{H H':an}{args:List AV}{v:Bool}{j:List Tmp}{a c:Code}{env:Env}
 (d:L=⟨.ready,none,n,j,a,c,env⟩)(o:H[b]?=some (.loop L))(q:args.length=j.length)
 (t:(j.all (fun x=>decide (x<n))&&codeOk fit n a&&codeOk fit n c)=true)
 (u:eM P ag (n,H.length) a (Fs P ag (n,H.length) b c L H' v) ⟨rG j args env,H⟩):ft P b H args H' (.p (.bool v)):=by
 refine Re ag r o (by rw[d];exact q) (by rw[d];exact t) ?_;unfold zo;have e1:L.n=n:=by rw[d]
 have e2:L.assign=a:=by rw[d]
 have e3:L.body=c:=by rw[d]
 have e4:L.params=j:=by rw[d]
 have e5:L.env=env:=by rw[d]
 have k:L.st=.ready:=by rw[d]
 rw[e1,e2,e3,e4,e5];refine mb (Q:=Fs P ag (n,H.length) b c L H' v) _ (fun e s h=>?_) u;cases e with
 |normal=>
  obtain⟨l,m⟩:=h;simp only[yz,l];refine⟨k,mb (Q:=uP b L H.length H' v) _ (fun e s h=>?_) m⟩;cases e with
  |normal=>
   obtain⟨rfl,f,g⟩:=h;have i:s.heap[b]?=some (.loop L.bz):=f;simp only[tG,i,ia];refine⟨rfl,?_⟩;have:({L.bz with st:=LoopState.ready,pending:=none}:dW)=L:=by subst d;rfl
   simpa[this]using g
  |exit id=>
   obtain⟨rfl,f,g⟩:=h;have i:s.heap[b]?=some (.loop L.bz):=f;simp only[tG,i,ia];exact⟨rfl,g⟩
  |ret=>
   obtain⟨rfl,f,g⟩:=h;have i:s.heap[b]?=some (.loop L.bz):=f;simp only[tG,i,ia];exact⟨rfl,g⟩
 |exit id=>exact h.elim
 |ret=>exact h.elim
theorem rf{f:ab}{h:Array Tmp}{a c:Code}{Q:bw->St->Prop}{env:Env}{heap:an}{q:Cx}{g:am}{fi ca:List PV}{n:List (List PV)}(aO:Stream P g fi ca n)(hf:ev env f= .p (.func g fi ca))(hq:q.2<=heap.length)
 (X:dW->Nat->an)(k:Nat)(hk:k<=n.length)(u:∀L,X L 0=heap++[.loop L])
 (hx:∀L,L=⟨.ready,none,q.1,h.toList,a,c,env⟩->∀i,i<=k->(X L i)[heap.length]?=some (.loop L)/\iq (X L i) env/\(iq (X L i) env->(∀x,aG (aJ (X L i)) (aS L.env x))->dG (X L i) (X L i)))
 (t:∀L,L=⟨.ready,none,q.1,h.toList,a,c,env⟩->∀i x,i<k->n[i]?=some x->ft P heap.length (X L i) (x.map .p) (X L (i+1)) (.p (.bool true)))
 (y:∀L,L=⟨.ready,none,q.1,h.toList,a,c,env⟩->(k=n.length/\Q .normal ⟨env,(X L k).set heap.length (.loop L.xh)⟩)\/
  ∃x j l,n[k]?=some x/\l[heap.length]?=some (.loop (L.dn j))/\ft P heap.length (X L k) (x.map .p) l (.p (.bool false))/\jy Q (some j) ⟨env,l.set heap.length (.loop (L.dn j).xh)⟩):
 eM P ag q (.rangeFunc f h a c) Q ⟨env,heap⟩:=by
 obtain⟨L,b⟩:∃L:dW,L=⟨.ready,none,q.1,h.toList,a,c,env⟩:=⟨_,rfl⟩
 have s:=aO heap.length k (X L);refine⟨hq,?_⟩;show ju P (ev env f) heap.length (heap++[.loop ⟨.ready,none,q.1,h.toList,a,c,env⟩]) (iG heap.length env Q);rw[hf];simp only[ju];rw[<-b,<-u L];have r:∀i,i<=k->dG (X L i) (X L i)/\aG (aJ (X L i)) (.map heap.length):=by
  intro i hi;obtain⟨m,d,o⟩:=hx L b i hi;have e5:L.env=env:=by rw[b]
  refine⟨o d (by rw[e5];exact d.get),?_⟩;simp only[aG,aJ,m];exact⟨_,rfl,by simp[Obj.has]⟩
 rcases y L b with⟨m,d⟩|⟨x,j,l,m,d,o,v⟩
 ·refine⟨_,_,s (X L k) hk r (t L b) (.inl ⟨m,rfl⟩),?_⟩;have w:=(hx L b k (bp k)).1;simp only[iG,w];refine⟨by rw[b];simp,?_⟩;have:L.pending=none:=by rw[b]
  simp only[this,jy];have e:L.xh={L with st:=.exhausted}:=rfl;rw[this]at e;rw[e]at d;exact d
 ·refine⟨_,_,s l hk r (t L b) (.inr ⟨x,m,o⟩),?_⟩;simp only[iG,d];exact⟨by simp[dW.dn],v⟩
section azR
variable{f:am}{H0 bW H:an}{fR args:List AV}{v0:AV}{K:AV->an->Prop}{L:aZ->Prop}
theorem Hx(h:cA P f H0 fR bW v0)(bs:List Nat)(e:bs.length=H0.length)(i:bs.Nodup)(g:∀b∈bs,b<H.length)(d:H0.length<=bW.length)(a:ba (aJ H0) fR)(j:dG H0 H0)(c:cU (sig bs H.length) fR=args):
 sr P f args H.length (dB bs H.length H0 bW v0):=by
 have:=h.frame bs H.length e i g d a j.get
 rwa [c]at this
theorem cf(h:cA P f H0 fR bW v0)(bs:List Nat)(hk:K (cJ (sig bs H.length) v0) (bf H (bs.zip ((bW.take H0.length).map (dd (sig bs H.length))))++(bW.drop H0.length).map (dd (sig bs H.length))))(aq:∀p∈bs.zip (H0.map (dd (sig bs H.length))),H[p.1]?=some p.2:=by simp[sig])(aM:∀p∈bs.zip ((bW.take H0.length).map (dd (sig bs H.length))),p.1<H.length/\p.2≠ .hole:=by simp[sig])
 (e:bs.length=H0.length:=by simp)(i:bs.Nodup:=by simp)(g:∀b∈bs,b<H.length:=by simp)(d:H0.length<=bW.length:=by simp)(a:ba (aJ H0) fR:=by simp)(hr:dG H0 H0:=by simp)(c:cU (sig bs H.length) fR=args:=by simp[sig]):kY P false f K args H:=
 .inr ⟨rfl,.inr (.inr (.inl ⟨_,Hx h bs e i g d a hr c,⟨aq,aM⟩,hk⟩))⟩
theorem ef(h:cA P f H0 fR bW v0)(bs:List Nat)(hk:L {v:=cJ (sig bs H.length) v0,aq:=bs.zip (H0.map (dd (sig bs H.length))),aM:=bs.zip ((bW.take H0.length).map (dd (sig bs H.length))),aX:=(bW.drop H0.length).map (dd (sig bs H.length))})(aq:∀p∈bs.zip (H0.map (dd (sig bs H.length))),H[p.1]?=some p.2:=by simp[sig])(aM:∀p∈bs.zip ((bW.take H0.length).map (dd (sig bs H.length))),p.1<H.length/\p.2≠ .hole:=by simp[sig])
 (e:bs.length=H0.length:=by simp)(i:bs.Nodup:=by simp)(g:∀b∈bs,b<H.length:=by simp)(d:H0.length<=bW.length:=by simp)(a:ba (aJ H0) fR:=by simp)(j:dG H0 H0:=by simp)(c:cU (sig bs H.length) fR=args:=by simp[sig]):nt P f L args H:=
 .inr (.inr (.inl ⟨_,Hx h bs e i g d a j c,⟨aq,aM⟩,hk⟩))
end azR
section bytes
variable{dst:Option Tmp}{ty:Nat}{pos:String}{af:Array Edge}{g:Option (Nat×Bool)}{env:Env}{heap:an}{L:St->Prop}{K:aZ->Prop}
theorem azs{x:ab}{d:Array ac}{b aC aj off len:Nat}{k:AK}{es:List AV}(hx:ev env x= .sl b aC aj off len)(f:heap[b]?=some (.arr k aC aj es))(e:0<len)(h:off+len<=es.length)
 (hk:K {v:=.b8 b aC aj off [],aq:=[(b,.arr k aC aj es)]}):dV P ag ⟨dst,.call {callee:=.builtin .unsafeSliceData,args:=#[x],argTypes:=d},ty,pos,af,g⟩ ⟨env,heap⟩ K ():=by
 show(match ev env x with
   | .p .aP=>K {v:=.p .dM}
   | .sl b aC aj off len=>(match heap[b]? with
    |some (.arr k c a es)=>aC=c/\aj=a/\((k.gr=true/\es=[]/\K {v:=.p .dM,aq:=[(b,.arr k c a es)]})\/(0<len/\off+len<=es.length/\K {v:=.b8 b aC aj off [],aq:=[(b,.arr k c a es)]}))
    |_=>False)
   |_=>False)
 rw[hx];simp only[f];exact⟨trivial,trivial,.inr ⟨e,h,hk⟩⟩
theorem azu{x y:ab}{a:Array ac}{b aC:Nat}{m:Int}{es:List AV}{l:List Nat}(hx:ev env x= .b8 b aC 1 0 [])(o:ev env y= .p (.int .i64 m))(i:heap[b]?=some (.arr .bytes aC 1 es))(c:0<m)(k:m.toNat<=es.length)(d:m<=9223372036854775807)
 (f:a.size=2)(e:ptrTo P (a.getD 0 0)=some Gl.u8)(n:P.cellsOf Gl.u8=1)(j:bytesOf (es.take m.toNat)=some l)
 (hk:K {v:=.p (.str l),aq:=[(b,.arr .bytes aC 1 es)],aM:=[(b,.dead)]}):dV P ag ⟨dst,.call {callee:=.builtin .unsafeString,args:=#[x,y],argTypes:=a},ty,pos,af,g⟩ ⟨env,heap⟩ K ():=by
 have h:fH P ag ⟨dst,.call {callee:=.builtin .unsafeString,args:=#[x,y],argTypes:=a},ty,pos,af,g⟩ (ev env) heap K:=by
  unfold fH;simp only[a3,List.map_nil,hx,o,i];exact⟨trivial,trivial,trivial,trivial,c,k,d,f,e,n,by rw[j];exact hk⟩
 exact h
end bytes
theorem rf2{f:ab}{h:Array Tmp}{a c:Code}{Q:bw->St->Prop}{env:Env}{heap:an}{q:Cx}{g:am}{fi ca:List PV}{b:List (List PV)}(aO:Stream P g fi ca b)(hf:ev env f= .p (.func g fi ca))(hq:q.2<=heap.length)
 (X F:dW->Nat->an)(okB:Nat->Bool)(j:Code)(k:Nat)(hk:k<=b.length)(u:∀i,i<k->okB i=true)(r:k=b.length\/(k<b.length/\okB k=false))(m:∀L,X L 0=heap++[.loop L])
 (hx:∀L,L=⟨.ready,none,q.1,h.toList,a,c,env⟩->∀i,i<=k->(X L i)[heap.length]?=some (.loop L)/\iq (X L i) env/\(iq (X L i) env->(∀x,aG (aJ (X L i)) (aS L.env x))->dG (X L i) (X L i)))
 (l:∀L,L=⟨.ready,none,q.1,h.toList,a,c,env⟩->∀i x,i<=k->b[i]?=some x->ft P heap.length (X L i) (x.map .p) (if okB i=true then X L (i+1)else F L (i+1)) (.p (.bool (okB i))))
 (n:∀L,(F L (k+1))[heap.length]?=some (.loop (L.dn j)))
 (s:k=b.length->∀L,Q .normal ⟨env,(X L k).set heap.length (.loop L.xh)⟩)
 (v:k<b.length->∀L,jy Q (some j) ⟨env,(F L (k+1)).set heap.length (.loop (L.dn j).xh)⟩):
 eM P ag q (.rangeFunc f h a c) Q ⟨env,heap⟩:=by
 refine rf aO hf hq X k hk m hx (fun L e i x hi t=>?_) (fun L e=>?_)
 ·have:=l L e i x (by omega) t;rw[u i hi]at this;exact this
 ·rcases r with d|⟨d,o⟩
  ·exact .inl ⟨d,s d L⟩
  ·right;refine⟨b[k],j,F L (k+1),ax d,n L,?_,v d L⟩;have:=l L e k b[k] (bp _) (ax d);rw[o]at this;exact this
attribute [simp] Y9 aKu MR Dg WW Zb aKn WX axy rG
end
section
variable{P:ao}{ag:am->Bool}{w:av}{ad ai:Nat->Prop}{β:Bd}{H:an}
def nw(K:Nat->Bool)(H:an):an:=H.mapIdx fun i o=>if K i then .dead else o
theorem CI{K:Nat->Bool}{b:Nat}:(nw K H)[b]?=(H[b]?).map fun o=>if K b then .dead else o:=by simp[nw]
theorem lK{K:Nat->Bool}{b:Nat}{o:Obj}(h:(nw K H)[b]?=some o):∃a,H[b]?=some a/\((K b=true/\o=.dead)\/(K b=false/\o=a)):=by
 rw[CI,Option.map_eq_some_iff]at h;obtain⟨a,d,c⟩:=h;refine⟨a,d,?_⟩;cases hk:K b<;>simp[hk]at c
 ·exact .inr ⟨rfl,c.symm⟩
 ·exact .inl ⟨rfl,c.symm⟩
theorem Db{K:Nat->Bool}{x:Nat×Nat}(h:aJ H x):aJ (nw K H) x:=by
 obtain⟨o,a,b⟩:=h;refine⟨if K x.1 then .dead else o,by rw[CI,a];rfl,?_⟩
 split
 ·trivial
 ·exact b
theorem Ci{K:Nat->Bool}:cC β H β (nw K H):=by
 refine⟨fun b _ h=>⟨?_,rfl⟩,fun b _ h=>⟨?_,rfl⟩,fun b _ h=>⟨?_,rfl⟩,fun b aC aj k e _ h=>⟨k,e,?_,bp _,Iff.rfl,fun _=>⟨rfl,rfl⟩⟩,fun b _ h=>⟨?_,rfl⟩⟩
 ·obtain⟨fz,t,h⟩:=h;obtain⟨d,c,a⟩:=lK h;rcases a with⟨_,a⟩|⟨_,rfl⟩
  ·cases a
  ·exact⟨fz,t,c⟩
 ·obtain⟨s,q,h⟩:=h;obtain⟨d,c,a⟩:=lK h;rcases a with⟨_,a⟩|⟨_,rfl⟩
  ·cases a
  ·exact⟨s,q,c⟩
 ·obtain⟨s,q,h⟩:=h;obtain⟨d,c,a⟩:=lK h;rcases a with⟨_,a⟩|⟨_,rfl⟩
  ·cases a
  ·exact⟨s,q,c⟩
 ·obtain⟨d,c,a⟩:=lK h;rcases a with⟨_,a⟩|⟨_,rfl⟩
  ·cases a
  ·exact c
 ·obtain⟨L,h⟩:=h;obtain⟨d,c,a⟩:=lK h;rcases a with⟨_,a⟩|⟨_,rfl⟩
  ·cases a
  ·exact⟨L,c⟩
def Bf(K:Nat->Bool)(ad:Nat->Prop)(β:Bd)(H:an)(k:Nat):Prop:=ad k\/∃(b:Nat)(o:Obj),H[b]?=some o/\o.live/\K b=true/\β.au b=k
theorem bX.kill(K:Nat->Bool)(a:bX P w ad β H ai):bX P w ad β (nw K H) ai:=by
 refine⟨fun b o e=>?_,fun b b' o o' e n f g m l=>?_,fun b o e=>?_,a.bS,a.eh,a.iJ⟩
 ·obtain⟨i,c,d⟩:=lK e;rcases d with⟨_,rfl⟩|⟨_,rfl⟩
  ·trivial
  ·exact fo.carry (fun _ x=>x) (fun _ _=>rfl) Ci (a.refs b o c) (fun _=>⟨rfl,rfl,rfl⟩) (fun _ _ h=>h) (a.cO b o c)
 ·obtain⟨i,c,d⟩:=lK e;obtain⟨p,j,k⟩:=lK n;rcases d with⟨_,rfl⟩|⟨_,rfl⟩
  ·exact f.elim
  rcases k with⟨_,rfl⟩|⟨_,rfl⟩
  ·exact g.elim
  exact a.inj b b' _ _ c j f g m l
 ·obtain⟨i,c,d⟩:=lK e;rcases d with⟨_,rfl⟩|⟨_,rfl⟩
  ·trivial
  ·exact Obj.vN (fun _ h=>Db h) (a.refs b o c)
theorem bX.aJl(K:Nat->Bool)(a:bX P w ad β H ai):bX P w (Bf K ad β H) β (nw K H) ai:=by
 have hk:=a.kill K;have hi:∀k,ad k->Bf K ad β H k:=fun k h=>.inl h;refine⟨fun b o c=>?_,fun b b' o o' c q d n p m=>hk.inj b b' o o' c q d n (fun h=>p (hi _ h)) m,hk.refs,fun k h=>?_,a.eh,⟨fun g=>aF.mono hi (fun _ _=>rfl) _ _ (a.iJ.val g),fun g cs h=>⟨hi _ (a.iJ.raw g cs h).1,(a.iJ.raw g cs h).2⟩⟩⟩
 ·have e:=c;obtain⟨s,i,j⟩:=lK c;rcases j with⟨_,rfl⟩|⟨r,rfl⟩
  ·trivial
  ·refine fo.carry hi (fun _ _=>rfl) (cC.refl β _) (hk.refs b o e) (fun _=>⟨rfl,rfl,rfl⟩) (fun d fz h=>?_) (hk.cO b o e);cases fz with
   |true=>exact hi _ h
   |false=>
    refine⟨?_,h.2⟩;rintro(l|⟨b1,f,g1,g2,g3,g4⟩)
    ·exact h.1 l
    ·have:=a.inj b1 b f o g1 i g2 d (by rw[g4];exact h.1) g4;rw[this,r]at g3;cases g3
 ·rcases h with h|⟨b1,f,g1,g2,g3,rfl⟩
  ·exact a.bS k h
  ·exact a.mY g1 g2
theorem fo.held{b:Nat}{o:Obj}(h:fo P w ad β H ai b o)(a:o.live):ad (β.au b)\/¬ai (β.au b):=by
 by_cases hi:ad (β.au b)
 ·exact .inl hi
 ·exact .inr (h.mut a hi)
theorem cA.pure{f:am}{args:List AV}{H':an}{v:AV}{n:Nat}{p:PV}(K:Nat->Bool)(h:cA P f H args H' v)(C:eC (nw (fun i=>!K i) H') n v=some p)(B:∀b L,K b=true->H[b]?≠some (.loop L)):
 cA P f H args (nw K H') (.p p):=by
 refine⟨h.1,fun w ad ai β t E z F=>(h.2 w ad ai β t E z F).mono ?_⟩;rintro e w' ⟨j,aK,aH,rfl,d,G,r⟩;have q:=d.rel;have A:=q.kill (fun i=>!K i);have I:aD P w' aH aK (nw (fun i=>!K i) H') v j:=aD.mono (fun _ x=>x) (fun _ _=>rfl) Ci _ _ r G;have D:=yA A n v p C (aG.mono (fun _ h=>Db h) v r) j I;refine⟨j,aK,Bf K aH aK H',rfl,⟨fun k hk=>.inl (d.bS k hk),?_,d.ext,?_,q.aJl K,fun x hx=>Db (d.fa x hx),?_⟩,?_,trivial⟩
 ·rintro k (hk|⟨b,o,g1,g2,g3,rfl⟩)
  ·exact d.fresh k hk
  ·rcases(q.cO b o g1).held g2 with h|h
   ·exact d.fresh _ h
   ·exact .inr h
 ·have aO:=d.step;have hk:=Ci (K:=K) (β:=aK) (H:=H');refine⟨fun b a c=>?_,fun b a c=>?_,fun b a c=>?_,fun b aC aj k es a c=>?_,fun b a c=>?_⟩
  ·exact aO.box b a (hk.box b (d.fa _ a) c).1
  ·exact aO.it b a (hk.it b (d.fa _ a) c).1
  ·exact aO.map b a (hk.map b (d.fa _ a) c).1
  ·have u:fq H' b aC aj k es:=by
    obtain⟨M,l,g⟩:=lK c;rcases g with⟨_,g⟩|⟨_,rfl⟩
    ·cases g
    ·exact l
   exact aO.arr b aC aj k es a u
  ·exact aO.loop b a (hk.loop b (d.fa _ a) c).1
 ·rintro b ⟨L,c⟩;obtain⟨s,y⟩:=d.loop b ⟨L,c⟩;have m:K b=false:=by
   cases m:K b with
   |false=>rfl
   |true=>exact(B b L m c).elim
  exact⟨s,by rw[CI,y];simp[m]⟩
 ·show aF P w' _ p j;refine aF.mono ?_ (fun _ _=>rfl) _ _ D;rintro k (hk|⟨b,o,g1,g2,rfl⟩)
  ·exact .inl hk
  ·obtain⟨M,l,g⟩:=lK g1;rcases g with⟨_,rfl⟩|⟨J,rfl⟩
   ·exact g2.elim
   ·exact .inr ⟨b,o,l,g2,by simpa using J,rfl⟩
end
section
variable{P:ao}{w:av}{ad ai:Nat->Prop}{β:Bd}
theorem tv{t t':AV}{r:an}:cC β (.box false t::r) β (.box false t'::r):=by
 refine⟨fun b _ h=>⟨?_,rfl⟩,fun b _ h=>⟨?_,rfl⟩,fun b _ h=>⟨?_,rfl⟩,fun b aC aj k a _ h=>⟨k,a,?_,bp _,Iff.rfl,fun _=>⟨rfl,rfl⟩⟩,fun b _ h=>⟨?_,rfl⟩⟩
 ·cases b with
  |zero=>exact⟨false,t,rfl⟩
  |succ b=>exact h
 ·obtain⟨s,q,h⟩:=h;cases b with
  |zero=>simp at h
  |succ b=>exact⟨s,q,h⟩
 ·obtain⟨s,q,h⟩:=h;cases b with
  |zero=>simp at h
  |succ b=>exact⟨s,q,h⟩
 ·cases b with
  |zero=>simp[fq]at h
  |succ b=>exact h
 ·obtain⟨L,h⟩:=h;cases b with
  |zero=>simp at h
  |succ b=>exact⟨L,h⟩
theorem rl{t t':AV}{r:an}{x:Nat×Nat}(h:aJ (.box false t::r) x):aJ (.box false t'::r) x:=by
 obtain⟨o,a,c⟩:=h;obtain⟨b,v⟩:=x;cases b with
 |zero=>exact⟨_,rfl,trivial⟩
 |succ b=>exact⟨o,a,c⟩
theorem bX.swap{t d:AV}{r:an}(c:bX P w ad β (.box false t::r) ai)(hc:∀cs,br P w ad β (.box false t::r) t cs->br P w ad β (.box false t::r) d cs)(l:∀T,jA T (aa d)=true)
 (g:∀n,aG n t->aG n d):bX P w ad β (.box false d::r) ai:=by
 refine⟨fun b o a=>?_,fun b b' o o' a s f p q m=>?_,fun b o a=>?_,c.bS,c.eh,c.iJ⟩
 ·cases b with
  |zero=>
   simp at a;subst a;obtain⟨cs,T,i,j,k,y,z⟩:=c.cO 0 _ rfl;have u:=c.refs 0 _ rfl;exact⟨cs,T,i,br.mono (fun _ x=>x) (fun _ _=>rfl) tv _ _ (g _ u) (hc _ j),k,(fun h=>absurd h (by simp)),l T⟩
  |succ b=>exact fo.carry (fun _ x=>x) (fun _ _=>rfl) tv (c.refs (b+1) o a) (fun _=>⟨rfl,rfl,rfl⟩) (fun _ _ h=>h) (c.cO (b+1) o a)
 ·have key:∀{b:Nat}{o:Obj},(Obj.box false d::r)[b]?=some o->o.live->∃e,(Obj.box false t::r)[b]?=some e/\e.live:=by
   intro b o a f;cases b with
   |zero=>exact⟨_,rfl,trivial⟩
   |succ b=>exact⟨o,a,f⟩
  obtain⟨e,k1,k2⟩:=key a f;obtain⟨v,k3,k4⟩:=key s p;exact c.inj b b' e v k1 k3 k2 k4 q m
 ·cases b with
  |zero=>
   simp at a;subst a;exact aG.mono (fun _ h=>rl h) _ (g _ (c.refs 0 _ rfl))
  |succ b=>exact Obj.vN (fun _ h=>rl h) (c.refs (b+1) o a)
theorem M6{H:an}{u:ac}{n:Nat}(f:dD P u=some [n]){t:AV}{cs:List Value}:br P w ad β H (.st u [t]) cs↔br P w ad β H t cs/\cs.length=n:=by
 simp only[br,f,Option.some.injEq];constructor
 ·rintro⟨l,g,rfl,a,rfl⟩;simp only[bM]at a;obtain⟨c,d,rfl,b,e,rfl⟩:=a;simpa using⟨b,e⟩
 ·rintro⟨a,b⟩;exact⟨[n],[cs],rfl,by simp only[bM];exact⟨cs,[],rfl,a,b,rfl⟩,by simp⟩
theorem cA.wrap{f:am}{u:ac}{n:Nat}{t i:AV}{r j:an}{args:List AV}{v:AV}(q:dD P u=some [n])(a:∀T,jA T (.agg u)=true)(F:∀T,jA T (aa t)=true)(G:∀(w:av)(ad:Nat->Prop)(β:Bd)(H:an)(cs:List Value),br P w ad β H i cs->cs.length=n)
 (h:cA P f (.box false t::r) (.ptr 0 []::args) (.box false i::j) v):cA P f (.box false (.st u [t])::r) (.ptr 0 [(u,0)]::args) (.box false (.st u [i])::j) v:=by
 refine⟨h.1,fun w ad ai β O J D y=>?_⟩;have K:bX P w ad β (.box false t::r) ai:=J.swap (fun cs h=>((M6 q).1 h).1) F (fun n h=>by simpa[aG,ba]using h);obtain⟨x,xs,rfl,h1,C⟩:=D;have E:bJ P w ad β (.box false t::r) (.ptr 0 []::args) (x::xs):=by
  refine⟨x,xs,rfl,?_,bJ.mono (fun _ x=>x) (fun _ _=>rfl) tv _ _ y.2 C⟩;obtain⟨q1,au,off,o,s,N,q4⟩:=h1;refine⟨q1,au,off,0,s,rfl,fun _=>?_⟩;have I:o=0:=by simpa[gu,q]using N.symm
  have:=q4 (.inl ⟨false,_,rfl⟩);rw[I]at this;exact this
 refine(h.2 w ad ai β (x::xs) K E ⟨⟨_,rfl,trivial⟩,ba.mono (fun _ h=>rl h) _ y.2⟩).mono ?_;rintro e w' ⟨B,aK,aH,rfl,g,M,z⟩;refine⟨B,aK,aH,rfl,⟨g.bS,g.fresh,g.ext,?_,?_,fun x hx=>rl (g.fa x (rl hx)),?_⟩,aD.mono (fun _ x=>x) (fun _ _=>rfl) tv _ _ z M,aG.mono (fun _ h=>rl h) _ z⟩
 ·have aO:=g.step;have m:=tv (β:=β) (t:=.st u [t]) (t':=t) (r:=r);have p:=tv (β:=aK) (t:=i) (t':=.st u [i]) (r:=j);have d:∀x,aJ (.box false (.st u [t])::r) x->aJ (.box false t::r) x:=fun x h=>rl h;have l:∀x,aJ (.box false t::r) x->aJ (.box false i::j) x:=g.fa;refine⟨fun b a c=>?_,fun b a c=>?_,fun b a c=>?_,fun b aC aj k es a c=>?_,fun b a c=>?_⟩
  ·obtain⟨k1,k2⟩:=p.box b (l _ (d _ a)) c;obtain⟨k3,k4⟩:=aO.box b (d _ a) k1;exact⟨(m.box b a k3).1,k4⟩
  ·obtain⟨k1,k2⟩:=p.it b (l _ (d _ a)) c;obtain⟨k3,k4⟩:=aO.it b (d _ a) k1;exact⟨(m.it b a k3).1,k4⟩
  ·obtain⟨k1,k2⟩:=p.map b (l _ (d _ a)) c;obtain⟨k3,k4⟩:=aO.map b (d _ a) k1;exact⟨(m.map b a k3).1,k4⟩
  ·have k1:fq (.box false i::j) b aC aj k es:=by
    cases b with
    |zero=>simp[fq]at c
    |succ b=>exact c
   obtain⟨k0,gO,q1,s⟩:=aO.arr b aC aj k es (d _ a) k1;refine⟨k0,gO,?_,s⟩;cases b with
   |zero=>simp[fq]at q1
   |succ b=>exact q1
  ·obtain⟨k1,k2⟩:=p.loop b (l _ (d _ a)) c;obtain⟨k3,k4⟩:=aO.loop b (d _ a) k1;exact⟨(m.loop b a k3).1,k4⟩
 ·exact g.rel.swap (fun cs h=>(M6 q).2 ⟨h,G _ _ _ _ _ h⟩) a (fun n h=>by simpa[aG,ba]using h)
 ·rintro b ⟨L,c⟩;have k1:gZ (.box false t::r) b:=by
   cases b with
   |zero=>simp at c
   |succ b=>exact⟨L,c⟩
  obtain⟨A,k2⟩:=g.loop b k1;cases b with
  |zero=>simp at k2
  |succ b=>exact⟨A,k2⟩
end
section
variable{P:ao}{w:av}{ad ai:Nat->Prop}{β:Bd}
def ur(n:Nat):an:=bo n .dead
theorem nS{n b:Nat}{o:Obj}(h:(ur n)[b]?=some o):o=.dead:=by
 simp only[ur,a4]at h
 split at h
 ·injection h with h;exact h.symm
 ·cases h
theorem cA.cut{f:am}{H:an}{args:List AV}{n:Nat}{p:PV}(h:cA P f H args (ur n) (.p p)):cA P f H args (ur H.length) (.p p):=by
 refine⟨h.1,fun w ad ai β g u q v=>(h.2 w ad ai β g u q v).mono ?_⟩;rintro e w' ⟨i,aK,aH,rfl,a,y,z⟩;have no:∀{m b:Nat}{o:Obj},(ur m)[b]?=some o->o.live->False:=fun h d=>by rw[nS h]at d;exact d
 refine⟨i,aK,aH,rfl,⟨a.bS,a.fresh,a.ext,⟨?_,?_,?_,?_,?_⟩,⟨fun b o c=>by rw[nS c];trivial,fun b b' o o' c _ d=>(no c d).elim,fun b o c=>by rw[nS c];trivial,a.rel.bS,a.rel.eh,a.rel.iJ⟩,?_,?_⟩,y,trivial⟩
 ·rintro b _ ⟨fz,t,h⟩;cases nS h
 ·rintro b _ ⟨fz,t,h⟩;cases nS h
 ·rintro b _ ⟨fz,t,h⟩;cases nS h
 ·intro b aC aj k es _ h;cases nS h
 ·rintro b _ ⟨L,h⟩;cases nS h
 ·rintro x ⟨o,j,_⟩;have s:=(ay.1 j).1;exact⟨.dead,by rw[ur,a4,if_pos s],trivial⟩
 ·intro b r;obtain⟨L,l⟩:=a.loop b r;cases nS l
theorem cA.de{f:am}{H H':an}{args:List AV}{v v':PV}(h:cA P f H args H' (.p v))(k:Wk v v'):cA P f H args H' (.p v'):=by
 refine⟨h.1,fun w ad ai β a i d j=>(h.2 w ad ai β a i d j).mono ?_⟩;rintro e w' ⟨b,aK,aH,rfl,g,c,l⟩;exact⟨b,aK,aH,rfl,g,aF.de _ _ _ k c,trivial⟩
end
section
variable{P:ao}
def Ar(P:ao)(a:List ap)(N:Nat)(Q:AV->an->Prop)(e:Tg (a,N,Q) bw)(s:Tg (a,N,Q) St):Prop:=
 (match e with
  | .exit _=>False
  |_=>True)/\∃vs,fN P s a=some vs/\∃H',Q (oneOf vs) H'/\(H'=St.heap s\/(cV N s ⟨[],H'⟩/\aG (aJ H') (oneOf vs)))
theorem XM{a:List ap}{N:Nat}{Q:AV->an->Prop}{s:St}:Ar P a N Q .ret s=∃vs,fN P s a=some vs/\∃H',Q (oneOf vs) H'/\(H'=s.heap\/(cV N s ⟨[],H'⟩/\aG (aJ H') (oneOf vs))):=by simp[Ar]
theorem VB{a:List ap}{N:Nat}{Q:AV->an->Prop}{s:St}:Ar P a N Q .normal s=∃vs,fN P s a=some vs/\∃H',Q (oneOf vs) H'/\(H'=s.heap\/(cV N s ⟨[],H'⟩/\aG (aJ H') (oneOf vs))):=by simp[Ar]
attribute [simp] XM VB
end
section
variable{P:ao}
theorem ar.heap{f:am}{vs j:List PV}{v:PV}{H H1:an}{args:List AV}(h:ar P f vs v)(g:Enters P f)(o:nI H args=some (j,H1))(l:bD j vs:=by first|exact bD.refl _|simp):cA P f H args H1 (.p v):=by
 refine⟨g,fun w ad ai β x u r q=>?_⟩;obtain⟨b,a,i⟩:=Cw o u r q;rcases h.de l (Wk.refl _)with m|n
 ·intro cs;obtain⟨e,w',k,⟨c,aH,he,m1,m2,m3,m4,m5,m6,m7⟩,aO,s,t⟩:=m.2 w b _ a.rel.bS a.rel.iJ i cs;subst he;exact⟨_,w',k,⟨c,β,aH,rfl,a.trans (a.rel.later m1 m2 m3 m4 m5 m6),by simpa[aD]using m7,by simp[aG]⟩,aO,s,t⟩
 ·obtain⟨c,d,_⟩:=n w b _ i;rw[g]at d;cases d
end
section
variable{P:ao}{ag:am->Bool}
theorem Bp(H:an):(fK H).map (·.1)=a9 H.length:=by
 rw[fK,List.map_fst_zip];simp
theorem Td{H a:an}(f:a.length=H.length):bf H (fK a)=a:=by
 have d:((fK a).map (·.1)).Nodup:=by rw[Bp];exact aT
 refine be fun i=>?_
 by_cases hi:i<a.length
 ·have c:(i,a[i])∈fK a:=by
   rw[fK,a7];exact⟨i,by simp;exact hi,by rw[bi];simp⟩
  rw[ub d _ c (by simp only;omega),ax hi]
 ·have b:(bf H (fK a))[i]?=H[i]?:=rz fun p e=>by
   have:p.1∈(fK a).map (·.1):=List.mem_map_of_mem e
   rw[Bp,List.mem_range]at this;omega
  rw[b,a6 (by omega),a6 (by omega)]
end
section
variable{P:ao}{ag:am->Bool}
theorem ft.azJ{b:Nat}{H a:an}{args:List AV}{v:AV}(h:ft P b H args a v)(g:H.length<=a.length)(d:ba (aJ H) args)(j:dG H H):
 oL P b args H.length {v:=v,aq:=fK H,aM:=fK (a.take H.length),aX:=a.drop H.length}:=by
 have hf:=h.frame (a9 H.length) H.length (by simp) aT (fun b f=>by simpa using f) g d j.get;rw[Al]at hf;have e:dB (a9 H.length) H.length H a v={v:=v,aq:=fK H,aM:=fK (a.take H.length),aX:=a.drop H.length}:=by
  have c:(a.take H.length).length=H.length:=by rw[a2];omega
  simp only[dB,Al,wU];rw[show(dd fun i=>i)=id from funext Qy,a8,a8,a8,fK,fK,c]
 rw[e,pJ]at hf;exact hf
open Classical in
noncomputable def sB(H H2:an):List (Nat×Obj):=(fK (H2.take H.length)).filter fun p=>decide (H[p.1]?≠some p.2)
open Classical in
theorem xQ{H H2:an}{p:Nat×Obj}:p∈sB H H2↔p∈fK (H2.take H.length)/\H[p.1]?≠some p.2:=by
 simp[sB,List.mem_filter]
theorem Gc{H:an}{i:Nat}{o:Obj}(h:H[i]?=some o):(i,o)∈fK H:=by
 have hi:=(ay.1 h).1;rw[fK,a7];refine⟨i,by simp;exact hi,?_⟩;rw[bi,List.getElem_range];rw[ax hi]at h;injection h with h
 rw[h]
theorem FZ(H:an):((fK H).map (·.1)).Nodup:=by rw[Bp];exact aT
theorem Tb(H a:an):((sB H a).map (·.1)).Nodup:=by
 refine List.Nodup.sublist ?_ (FZ (a.take H.length));exact List.Sublist.map _ List.filter_sublist
theorem F1{H a c:an}(n:H.length<=a.length)(h:∀i,i<H.length->c[i]?=H[i]?):bf c (sB H a)=bf c (fK (a.take H.length)):=by
 refine be fun i=>?_;have m:(a.take H.length).length=H.length:=by rw[a2];omega
 by_cases hi:i<H.length
 ·have j:i<c.length:=by
   have:=h i hi;rw[ax hi]at this;exact(ay.1 this).1
  have f:(a.take H.length)[i]?=some a[i]:=by rw[bb,if_pos hi,ax (by omega)]
  have k:=Gc f;rw[ub (FZ _) _ k j]
  by_cases hc:H[i]?=some a[i]
  ·rw[rz (fun p b=>?_),h i hi,hc];rw[xQ]at b;intro e;have d:=uw b.1;rw[e,f]at d;injection d with d
   have g:=b.2;rw[e,<-d]at g;exact g hc
  ·have l:(i,a[i])∈sB H a:=by
    rw[xQ];exact⟨k,hc⟩
   rw[ub (Tb _ _) _ l j]
 ·rw[rz (fun p b=>?_),rz (fun p b=>?_)]
  ·have:=(ay.1 (uw b)).1;omega
  ·rw[xQ]at b;have:=(ay.1 (uw b.1)).1;omega
theorem ft.azI{b:Nat}{H a:an}{args:List AV}{v:AV}(h:ft P b H args a v)(f:H.length<=a.length)(n:ba (aJ H) args)(q:dG H H):
 oL P b args H.length {v:=v,aq:=fK H,aM:=sB H a,aX:=a.drop H.length}:=by
 have o:=h.azJ f n q;intro c w ad ai β g j k l d m;have p:∀i,i<H.length->c[i]?=H[i]?:=fun i hi=>by
  rw[ax hi];exact d _ (Gc (ax hi))
 have e:bf c (sB H a++newAt H.length (a.drop H.length))=bf c (fK (a.take H.length)++newAt H.length (a.drop H.length)):=by
  rw[vp,vp,F1 f p]
 have:=o c w ad ai β g j k l d m;dsimp only at this⊢;rw[e];exact this
theorem yg{b:Nat}{H a:an}{args:List PV}{as:List AV}{v:PV}{K:aZ->Prop}(h:ft P b H (args.map .p) a (.p v))(has:as=args.map .p)(k:H.length<=a.length)(o:dG H H)(n:∀i,i<H.length->a[i]?=some .hole->H[i]?=some .hole)
 (hk:∀e:aZ,(∀dst env,aZ.app e dst ⟨env,H⟩=⟨put dst (.p v) env,a⟩)->K e):xj P H K (.map b) as:=by
 subst has;have m:ba (aJ H) (args.map AV.p):=jg _ _;show∃e,oL P b (args.map .p) H.length e/\oQ H e/\K e;have g:(a.take H.length).length=H.length:=by rw[a2];omega
 refine⟨_,h.azI k m o,⟨fun p c=>uw c,fun p c=>?_⟩,hk _ fun dst env=>?_⟩
 ·rw[xQ]at c;have f:=uw c.1;have d:=(ay.1 f).1;rw[g]at d;refine⟨d,fun e=>?_⟩;rw[bb,if_pos d,e]at f;have l:=n _ d f;have j:=c.2;rw[e]at j;exact j l
 ·simp only[aZ.app];rw[F1 k (fun _ _=>rfl),Td g,List.take_append_drop]
def GI(P:ao)(g:am)(fi ca:List PV)(h:List (List PV))(d:Nat->an):Prop:=
 ∀(b k:Nat)(c f:Nat->an)(H':an),k<=h.length->(∀i,i<=k->dG (c i) (c i)/\aG (aJ (c i)) (.map b))->
  (∀i a,i<k->h[i]?=some a->ft P b (c i++d i) (a.map .p) (f i) (.p (.bool true))/\(c i++d i).length<=(f i).length/\(∀j,j<(c i++d i).length->(f i)[j]?=some .hole->(c i++d i)[j]?=some .hole)/\
   (c (i+1)).take (c 0).length=(f i).take (c 0).length/\ie (c (i+1)) (f i) (c (i+1)))->
  (k=h.length/\H'=c k\/∃a e,h[k]?=some a/\ft P b (c k++d k) (a.map .p) e (.p (.bool false))/\(c k++d k).length<=e.length/\(∀j,j<(c k++d k).length->e[j]?=some .hole->(c k++d k)[j]?=some .hole)/\
   H'.take (c 0).length=e.take (c 0).length/\ie H' e H'/\dG H' H')->
  cA P g (c 0) (fi.map .p++[.map b]++ca.map .p) H' (.p (.aE []))
theorem rfd{f:ab}{n:Array Tmp}{a c:Code}{Q:bw->St->Prop}{env:Env}{heap:an}{q:Cx}{g:am}{fi ca:List PV}{r:List (List PV)}{h:Nat->an}(aO:GI P g fi ca r h)(hf:ev env f= .p (.func g fi ca))(hq:q.2<=heap.length)
 (X Y:dW->Nat->an)(k:Nat)(hk:k<=r.length)(u:∀L,X L 0=heap++[.loop L])
 (hx:∀L,L=⟨.ready,none,q.1,n.toList,a,c,env⟩->∀i,i<=k->(X L i)[heap.length]?=some (.loop L)/\iq (X L i) env/\(iq (X L i) env->(∀x,aG (aJ (X L i)) (aS L.env x))->dG (X L i) (X L i)))
 (w:∀L,L=⟨.ready,none,q.1,n.toList,a,c,env⟩->∀i x,i<k->r[i]?=some x->ft P heap.length (X L i++h i) (x.map .p) (Y L i) (.p (.bool true))/\(X L i++h i).length<=(Y L i).length/\(∀j,j<(X L i++h i).length->(Y L i)[j]?=some .hole->(X L i++h i)[j]?=some .hole)/\
  (X L (i+1)).take (heap.length+1)=(Y L i).take (heap.length+1)/\ie (X L (i+1)) (Y L i) (X L (i+1)))
 (G:∀L,L=⟨.ready,none,q.1,n.toList,a,c,env⟩->(k=r.length/\Q .normal ⟨env,(X L k).set heap.length (.loop L.xh)⟩)\/
  ∃x j l b,r[k]?=some x/\b[heap.length]?=some (.loop (L.dn j))/\ft P heap.length (X L k++h k) (x.map .p) l (.p (.bool false))/\(X L k++h k).length<=l.length/\(∀i,i<(X L k++h k).length->l[i]?=some .hole->(X L k++h k)[i]?=some .hole)/\
  b.take (heap.length+1)=l.take (heap.length+1)/\ie b l b/\dG b b/\jy Q (some j) ⟨env,b.set heap.length (.loop (L.dn j).xh)⟩):
 eM P ag q (.rangeFunc f n a c) Q ⟨env,heap⟩:=by
 obtain⟨L,d⟩:∃L:dW,L=⟨.ready,none,q.1,n.toList,a,c,env⟩:=⟨_,rfl⟩
 have t:=aO heap.length k (X L) (Y L);refine⟨hq,?_⟩;show ju P (ev env f) heap.length (heap++[.loop ⟨.ready,none,q.1,n.toList,a,c,env⟩]) (iG heap.length env Q);rw[hf];simp only[ju];rw[<-d,<-u L];have y:(X L 0).length=heap.length+1:=by rw[u L];simp
 have v:∀i,i<=k->dG (X L i) (X L i)/\aG (aJ (X L i)) (.map heap.length):=by
  intro i hi;obtain⟨o,m,s⟩:=hx L d i hi;have e5:L.env=env:=by rw[d]
  refine⟨s m (by rw[e5];exact m.get),?_⟩;simp only[aG,aJ,o];exact⟨_,rfl,by simp[Obj.has]⟩
 rw[y]at t;rcases G L d with⟨o,m⟩|⟨x,j,l,b,o,m,s,z,A,B,C,D,E⟩
 ·refine⟨_,_,t (X L k) hk v (w L d) (.inl ⟨o,rfl⟩),?_⟩;have F:=(hx L d k (bp k)).1;simp only[iG,F];refine⟨by rw[d];simp,?_⟩;have:L.pending=none:=by rw[d]
  simp only[this,jy];have e:L.xh={L with st:=.exhausted}:=rfl;rw[this]at e;rw[e]at m;exact m
 ·refine⟨_,_,t b hk v (w L d) (.inr ⟨x,l,o,s,z,A,B,C,D⟩),?_⟩;simp only[iG,m];exact⟨by simp[dW.dn],E⟩
theorem SS{H J:an}{x:Nat×Nat}(h:aJ H x):aJ (H++J) x:=by
 obtain⟨o,a,b⟩:=h;exact⟨o,by rw[List.getElem?_append_left (ay.1 a).1];exact a,b⟩
theorem dG.up{S T:an}(a:∀x,aJ S x->aJ T x):∀{h:an},dG S h->dG T h
 |[],_=>trivial
 |_::_,h=>⟨Obj.vN a h.1,dG.up a h.2⟩
theorem dG.app{H J:an}(h:dG H H)(a:dG (H++J) J):dG (H++J) (H++J):=by
 rw[Dg];exact⟨h.up fun _=>SS,a⟩
theorem aK7{a:Array Oper}{b:List Touch}{i n:Nat}{e:aZ}(h:iM a b=true)(c:b.all (fun u=>reach a a.size u.i i)=true):iM a (gd i n e b)=true:=by
 rw[gd]
 split
 ·exact h
 ·rw[iM,h,Bool.and_true,bl];intro u d;rw[bl]at c;rw[show(gY i n e).i=i from rfl,c u d,Bool.or_true]
theorem yk{b:Nat}{H c:an}{args:List PV}{as:List AV}{v:PV}{a:Array Oper}{r:List Oper}{i:Nat}{d:List Touch}{K:St->Prop}{dst:Option Tmp}{env:Env}(h:ft P b H (args.map .p) c (.p v))(has:as=args.map .p)(l:H.length<=c.length)(hr:dG H H)(hh:∀i,i<H.length->c[i]?=some .hole->H[i]?=some .hole)
 (g:iM a d=true)(j:d.all (fun u=>reach a a.size u.i i)=true)(hk:∀f,wV a f=true->oT P ag a r (i+1) f K ⟨put dst (.p v) env,c⟩):xj P H (Ad P ag a r i d K dst ⟨env,H⟩) (.map b) as:=by
 refine yg h has l hr hh fun e k=>?_;show oT P ag a r (i+1) (gd i H.length e d) K (aZ.app e dst ⟨env,H⟩);rw[k];exact hk _ (aK7 g j)
end
end Go.ah
