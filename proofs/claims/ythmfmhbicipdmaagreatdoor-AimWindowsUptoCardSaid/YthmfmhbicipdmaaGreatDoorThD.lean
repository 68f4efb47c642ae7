import Derived.Test.YthmfmhbicipdmaaGreatDoorThC
/- Parts of a proof. -/
set_option linter.unusedSimpArgs false
set_option linter.unusedVariables false
set_option linter.unusedSectionVars false
open BitVec renaming ofInt->am
open Bool renaming cond_eq_ite->ao, and_eq_true->ap, false_eq_true->av
open Go renaming Operand->ax, TypeId->ay, FuncId->aT, Program->a3, ResultVar->a4, Value->a5, IntKind->a6, BinOp->a7, World->a8
open Int renaming natCast_nonneg->a9, ofNat_eq_natCast->bb, toNat_natCast->be
open List renaming getElem?_eq_getElem->bi, getElem?_eq_some_iff->bl, mem_cons->bo, mem_iff_getElem->bp, range->bv, replicate->bI, isEmpty_cons->bV, of_mem_zip->b2, mem_map->b3, mem_of_getElem?->b4, map_id->b5, mem_range'_1->cb, getElem_mem->cc, nodup_cons->ce, map_cons->ch, rec->ck
open Nat renaming ble->cx, beq->cy, ble_eq_true_of_le->c6, beq_refl->c9, pow_succ->da, mod_lt->db
open Option renaming ite_none_right_eq_some->dg
open Option.some renaming injEq->dk
open Prod.mk renaming injEq->dl
namespace Go.ah
set_option linter.unusedSectionVars false
variable[Gl]
section
variable{P:a3}{ag:aT->Bool}{q:Cx}
theorem OV{Q:bw->St->Prop}{s:St}:du P ag q .skip Q s=Q .normal s:=(rfl)
theorem Nw{l:Nat}{Q:bw->St->Prop}{s:St}:du P ag q (.label l) Q s=Q .normal s:=(rfl)
theorem OW{id:Nat}{Q:bw->St->Prop}{s:St}:du P ag q (.exit id) Q s=Q (.exit id) s:=(rfl)
theorem SM{Q:bw->St->Prop}{s:St}:du P ag q .ret Q s=Q .ret s:=(rfl)
theorem Nu{b:Code}{Q:bw->St->Prop}{s:St}:du P ag q (.scope b) Q s=du P ag q b Q s:=(rfl)
theorem OX{id:Nat}{l:List Oper}{Q:bw->St->Prop}{s:St}:du P ag q (.region id l.toArray true) Q s=gz P ag l.toArray l 0 [] (Q .normal) s:=by simp[du]
theorem Nv{id:Nat}{l:List Oper}{Q:bw->St->Prop}{s:St}:du P ag q (.region id l.toArray false) Q s=gh P ag l.toArray l (Q .normal) s:=by simp[du]
theorem SN{a b:Code}{Q:bw->St->Prop}{s:St}:du P ag q (.seq a b) Q s=du P ag q a (uR (du P ag q b Q) Q) s:=(rfl)
theorem Nx{id:Nat}{b:Code}{Q:bw->St->Prop}{s:St}:du P ag q (.block id b) Q s=du P ag q b (oD id Q) s:=(rfl)
theorem OY{c:ax}{a b:Code}{Q:bw->St->Prop}{s:St}:du P ag q (.cond c a b) Q s=uj (ev s.env c) (du P ag q a Q) (du P ag q b Q) s:=(rfl)
theorem JL{K:St->Prop}{Q:bw->St->Prop}{s:St}:uR K Q .normal s=K s:=(rfl)
theorem K5{id:Nat}{K:St->Prop}{Q:bw->St->Prop}{s:St}:uR K Q (.exit id) s=Q (.exit id) s:=(rfl)
theorem L7{K:St->Prop}{Q:bw->St->Prop}{s:St}:uR K Q .ret s=Q .ret s:=(rfl)
theorem J6{t:Bool}{a b:St->Prop}{s:St}:uj (.p (.bool t)) a b s=if t then a s else b s:=(rfl)
def xe(P:a3)(ag:aT->Bool)(b:Array Oper)(r:List Oper)(i:Nat)(a:List Touch)(K:St->Prop)(dst:Option Tmp)(s:St)(e:aZ):Prop:=
 gz P ag b r (i+1) (gd i s.heap.length e a) K (e.app dst s)
theorem MA{b:Array Oper}{r:List Oper}{i:Nat}{a:List Touch}{K:St->Prop}{dst:Option Tmp}{env:Env}{heap:an}{v:AV}{aq aM:List (Nat×Obj)}{aX:List Obj}:
 xe P ag b r i a K dst ⟨env,heap⟩ ⟨v,aq,aM,aX⟩=gz P ag b r (i+1) (gd i heap.length ⟨v,aq,aM,aX⟩ a) K ⟨put dst v env,bf heap aM++aX⟩:=(rfl)
theorem Ot{dst:Option Tmp}{env:Env}{heap:an}{K:St->Prop}{v:AV}{aq aM:List (Nat×Obj)}{aX:List Obj}:ez dst ⟨env,heap⟩ K ⟨v,aq,aM,aX⟩=K ⟨put dst v env,bf heap aM++aX⟩:=(rfl)
theorem NZ{dst:Option Tmp}{env:Env}{heap H:an}{K:St->Prop}{v:AV}:A1 dst ⟨env,heap⟩ K v H=K ⟨put dst v env,H⟩:=(rfl)
def zH(P:a3)(ag:aT->Bool)(b:Array Oper)(o:Oper)(r:List Oper)(i:Nat)(a:List Touch)(K:St->Prop)(c:Bool)(s:St)(g:AV):Prop:=
 match g with
 | .p (.bool t)=>if t=c then dw P ag o s (xe P ag b r i a K o.dst s)else gz P ag b r (i+1) a K ⟨put o.dst (.p (.aE [])) s.env,s.heap⟩
 | .p (.aE [])=>gz P ag b r (i+1) a K ⟨put o.dst (.p (.aE [])) s.env,s.heap⟩
 |_=>False
def zR(P:a3)(ag:aT->Bool)(a:Array Oper)(o:Oper)(r:List Oper)(K:St->Prop)(b:Bool)(s:St)(g:AV):Prop:=
 match g with
 | .p (.bool t)=>if t=b then dv P ag o (gh P ag a r K) s else gh P ag a r K ⟨put o.dst (.p (.aE [])) s.env,s.heap⟩
 | .p (.aE [])=>gh P ag a r K ⟨put o.dst (.p (.aE [])) s.env,s.heap⟩
 |_=>False
theorem OU{b:Array Oper}{i:Nat}{a:List Touch}{K:St->Prop}{s:St}:gz P ag b [] i a K s=(iM b a=true/\K s):=(rfl)
theorem Nt{b:Array Oper}{i c:Nat}{pos:String}{a:List Touch}{K:St->Prop}{s:St}{dst:Option Tmp}{op:Op}{af:Array Edge}{r:List Oper}:
 gz P ag b ({dst,op,type:=c,pos,after:=af,guard:=none}::r) i a K s=dw P ag {dst,op,type:=c,pos,after:=af,guard:=none} s (xe P ag b r i a K dst s):=(rfl)
theorem Md{a:Array Oper}{i d j:Nat}{b:Bool}{pos:String}{c:List Touch}{K:St->Prop}{s:St}{dst:Option Tmp}{op:Op}{af:Array Edge}{r:List Oper}:
 gz P ag a ({dst,op,type:=d,pos,after:=af,guard:=some (j,b)}::r) i c K s=zH P ag a {dst,op,type:=d,pos,after:=af,guard:=some (j,b)} r i c K b s (guardOf a j s.env):=(rfl)
theorem OS{a:Array Oper}{K:St->Prop}{s:St}:gh P ag a [] K s=K s:=(rfl)
theorem Nr{a:Array Oper}{b:Nat}{pos:String}{K:St->Prop}{s:St}{dst:Option Tmp}{op:Op}{af:Array Edge}{r:List Oper}:
 gh P ag a ({dst,op,type:=b,pos,after:=af,guard:=none}::r) K s=dv P ag {dst,op,type:=b,pos,after:=af,guard:=none} (gh P ag a r K) s:=(rfl)
theorem Mc{a:Array Oper}{c j:Nat}{b:Bool}{pos:String}{K:St->Prop}{s:St}{dst:Option Tmp}{op:Op}{af:Array Edge}{r:List Oper}:
 gh P ag a ({dst,op,type:=c,pos,after:=af,guard:=some (j,b)}::r) K s=zR P ag a {dst,op,type:=c,pos,after:=af,guard:=some (j,b)} r K b s (guardOf a j s.env):=(rfl)
end
section Ez
variable{P:a3}{ag:aT->Bool}{q:Cx}
end Ez
section ops
variable{P:a3}{ag:aT->Bool}{dst:Option Tmp}{ty:Nat}{pos:String}{af:Array Edge}{g:Option (Nat×Bool)}{env:Env}{heap:an}{K:aZ->Prop}{L:St->Prop}
theorem Qe{x:ax}:dw P ag ⟨dst,.move x,ty,pos,af,g⟩ ⟨env,heap⟩ K=K {v:=ev env x}:=(rfl)
theorem My{x:ax}:dw P ag ⟨dst,.assign x,ty,pos,af,g⟩ ⟨env,heap⟩ K=K {v:=ev env x}:=(rfl)
theorem Qc{c a b:ax}:dw P ag ⟨dst,.pick c a b,ty,pos,af,g⟩ ⟨env,heap⟩ K=bk (rY (ev env c) (ev env a) (ev env b)) K:=(rfl)
theorem Oc{T:ay}:dw P ag ⟨dst,.alloc T,ty,pos,af,g⟩ ⟨env,heap⟩ K=bk (rM P T heap.length) K:=(rfl)
theorem QV{T:ay}{x:ax}:dw P ag ⟨dst,.box T x,ty,pos,af,g⟩ ⟨env,heap⟩ K=bk (uy P T heap.length (ev env x)) K:=(rfl)
theorem Ob{T:ay}{a:Array (Nat×ax)}:dw P ag ⟨dst,.build T a,ty,pos,af,g⟩ ⟨env,heap⟩ K=bk (rK P T (a.toList.map fun(i,x)=>(i,ev env x))) K:=(rfl)
theorem Jo{T:ay}{n:Nat}{a:Array (Nat×ax)}:dw P ag ⟨dst,.buildSlice T n a,ty,pos,af,g⟩ ⟨env,heap⟩ K=bk (qP P T n (a.toList.map fun(i,x)=>(i,ev env x)) heap.length) K:=(rfl)
theorem PI{T:ay}{a:ax}:dw P ag ⟨dst,.load T a,ty,pos,af,g⟩ ⟨env,heap⟩ K=bk (qe P T heap (ev env a)) K:=(rfl)
theorem N8{T:ay}{a x:ax}:dw P ag ⟨dst,.store T a x,ty,pos,af,g⟩ ⟨env,heap⟩ K=bk (pU P T heap (ev env a) (ev env x)) K:=(rfl)
theorem QU{op:a7}{T a:ay}{x y:ax}:dw P ag ⟨dst,.binOp op T x y a,ty,pos,af,g⟩ ⟨env,heap⟩ K=bk (iu P op T (mJ y) heap (ev env x) (ev env y)) K:=(rfl)
theorem QZ{op:UnOp}{T:ay}{x:ax}:dw P ag ⟨dst,.unOp op T x,ty,pos,af,g⟩ ⟨env,heap⟩ K=bk (sR op (ev env x)) K:=(rfl)
theorem PK{S D:ay}{x:ax}:dw P ag ⟨dst,.convert S D x,ty,pos,af,g⟩ ⟨env,heap⟩ K=bk (rR P S D heap (ev env x)) K:=(rfl)
theorem Lz{t:ax}{i:Nat}:dw P ag ⟨dst,.extract t i,ty,pos,af,g⟩ ⟨env,heap⟩ K=bk (rj (ev env t) i) K:=(rfl)
theorem JN{T:ay}{a:ax}{f:Nat}:dw P ag ⟨dst,.fieldAddr T a f,ty,pos,af,g⟩ ⟨env,heap⟩ K=bk (pz P T (ev env a) f) K:=(rfl)
theorem JM{T:ay}{x i:ax}:dw P ag ⟨dst,.indexAddr T x i,ty,pos,af,g⟩ ⟨env,heap⟩ K=bk (py P T heap (ev env x) (ev env i)) K:=(rfl)
theorem Oa{T:ay}{x i:ax}:dw P ag ⟨dst,.index T x i,ty,pos,af,g⟩ ⟨env,heap⟩ K=bk (rO P T (ev env x) (ev env i)) K:=(rfl)
theorem QW{x:ax}{a:Array ay}:dw P ag ⟨dst,.call {callee:=.builtin .len,args:=#[x],argTypes:=a},ty,pos,af,g⟩ ⟨env,heap⟩ K=bk (sM P (a.getD 0 0) a.size heap (ev env x)) K:=(rfl)
theorem PL{f:ax}{args:List ax}{a:Array ay}:dw P ag ⟨dst,.call {callee:=.value f,args:=args.toArray,argTypes:=a},ty,pos,af,g⟩ ⟨env,heap⟩ K=rJ P (ev env f) (args.map (ev env)) heap K:=(rfl)
theorem Pv{x:ax}:dv P ag ⟨dst,.move x,ty,pos,af,g⟩ L ⟨env,heap⟩=ez dst ⟨env,heap⟩ L {v:=ev env x}:=(rfl)
theorem LL{x:ax}:dv P ag ⟨dst,.assign x,ty,pos,af,g⟩ L ⟨env,heap⟩=ez dst ⟨env,heap⟩ L {v:=ev env x}:=(rfl)
theorem Pt{c a b:ax}:dv P ag ⟨dst,.pick c a b,ty,pos,af,g⟩ L ⟨env,heap⟩=bk (rY (ev env c) (ev env a) (ev env b)) (ez dst ⟨env,heap⟩ L):=(rfl)
theorem NK{T:ay}:dv P ag ⟨dst,.alloc T,ty,pos,af,g⟩ L ⟨env,heap⟩=bk (rM P T heap.length) (ez dst ⟨env,heap⟩ L):=(rfl)
theorem Sf{T:ay}{x:ax}:dv P ag ⟨dst,.box T x,ty,pos,af,g⟩ L ⟨env,heap⟩=bk (uy P T heap.length (ev env x)) (ez dst ⟨env,heap⟩ L):=(rfl)
theorem NJ{T:ay}{a:Array (Nat×ax)}:dv P ag ⟨dst,.build T a,ty,pos,af,g⟩ L ⟨env,heap⟩=bk (rK P T (a.toList.map fun(i,x)=>(i,ev env x))) (ez dst ⟨env,heap⟩ L):=(rfl)
theorem Ji{T:ay}{n:Nat}{a:Array (Nat×ax)}:dv P ag ⟨dst,.buildSlice T n a,ty,pos,af,g⟩ L ⟨env,heap⟩=bk (qP P T n (a.toList.map fun(i,x)=>(i,ev env x)) heap.length) (ez dst ⟨env,heap⟩ L):=(rfl)
theorem Pw{T:ay}{a:ax}:dv P ag ⟨dst,.load T a,ty,pos,af,g⟩ L ⟨env,heap⟩=bk (qe P T heap (ev env a)) (ez dst ⟨env,heap⟩ L):=(rfl)
theorem N2{T:ay}{a x:ax}:dv P ag ⟨dst,.store T a x,ty,pos,af,g⟩ L ⟨env,heap⟩=bk (pU P T heap (ev env a) (ev env x)) (ez dst ⟨env,heap⟩ L):=(rfl)
theorem Se{op:a7}{T a:ay}{x y:ax}:dv P ag ⟨dst,.binOp op T x y a,ty,pos,af,g⟩ L ⟨env,heap⟩=bk (iu P op T (mJ y) heap (ev env x) (ev env y)) (ez dst ⟨env,heap⟩ L):=(rfl)
theorem Sk{op:UnOp}{T:ay}{x:ax}:dv P ag ⟨dst,.unOp op T x,ty,pos,af,g⟩ L ⟨env,heap⟩=bk (sR op (ev env x)) (ez dst ⟨env,heap⟩ L):=(rfl)
theorem Py{S D:ay}{x:ax}:dv P ag ⟨dst,.convert S D x,ty,pos,af,g⟩ L ⟨env,heap⟩=bk (rR P S D heap (ev env x)) (ez dst ⟨env,heap⟩ L):=(rfl)
theorem KH{t:ax}{i:Nat}:dv P ag ⟨dst,.extract t i,ty,pos,af,g⟩ L ⟨env,heap⟩=bk (rj (ev env t) i) (ez dst ⟨env,heap⟩ L):=(rfl)
theorem JD{T:ay}{a:ax}{f:Nat}:dv P ag ⟨dst,.fieldAddr T a f,ty,pos,af,g⟩ L ⟨env,heap⟩=bk (pz P T (ev env a) f) (ez dst ⟨env,heap⟩ L):=(rfl)
theorem JC{T:ay}{x i:ax}:dv P ag ⟨dst,.indexAddr T x i,ty,pos,af,g⟩ L ⟨env,heap⟩=bk (py P T heap (ev env x) (ev env i)) (ez dst ⟨env,heap⟩ L):=(rfl)
theorem NH{T:ay}{x i:ax}:dv P ag ⟨dst,.index T x i,ty,pos,af,g⟩ L ⟨env,heap⟩=bk (rO P T (ev env x) (ev env i)) (ez dst ⟨env,heap⟩ L):=(rfl)
theorem Sg{x:ax}{a:Array ay}:dv P ag ⟨dst,.call {callee:=.builtin .len,args:=#[x],argTypes:=a},ty,pos,af,g⟩ L ⟨env,heap⟩=bk (sM P (a.getD 0 0) a.size heap (ev env x)) (ez dst ⟨env,heap⟩ L):=(rfl)
theorem Pz{f:ax}{args:List ax}{a:Array ay}:dv P ag ⟨dst,.call {callee:=.value f,args:=args.toArray,argTypes:=a},ty,pos,af,g⟩ L ⟨env,heap⟩=rS P (ev env f) (args.map (ev env)) heap (A1 dst ⟨env,heap⟩ L):=(rfl)
theorem N9{T:ay}{x:ax}{lo hi:Option ax}:dw P ag ⟨dst,.slice T x lo hi none,ty,pos,af,g⟩ ⟨env,heap⟩ K=bk (pW P T heap (ev env x) (lo.map (ev env)) (hi.map (ev env))) K:=(rfl)
theorem ND{T:ay}{x:ax}{lo hi:Option ax}:dv P ag ⟨dst,.slice T x lo hi none,ty,pos,af,g⟩ L ⟨env,heap⟩=bk (pW P T heap (ev env x) (lo.map (ev env)) (hi.map (ev env))) (ez dst ⟨env,heap⟩ L):=(rfl)
theorem Mw{T:ay}{x i:ax}{ok:Bool}:dw P ag ⟨dst,.lookup T x i ok,ty,pos,af,g⟩ ⟨env,heap⟩ K=bk (rV P T heap (ev env x) (ev env i) ok) K:=(rfl)
theorem LJ{T:ay}{x i:ax}{ok:Bool}:dv P ag ⟨dst,.lookup T x i ok,ty,pos,af,g⟩ L ⟨env,heap⟩=bk (rV P T heap (ev env x) (ev env i) ok) (ez dst ⟨env,heap⟩ L):=(rfl)
theorem JZ{T:ay}{m k x:ax}:dw P ag ⟨dst,.mapUpdate T m k x,ty,pos,af,g⟩ ⟨env,heap⟩ K=bk (mI P T heap (ev env m) (ev env k) (ev env x)) K:=(rfl)
theorem JA{T:ay}{m k x:ax}:dv P ag ⟨dst,.mapUpdate T m k x,ty,pos,af,g⟩ L ⟨env,heap⟩=bk (mI P T heap (ev env m) (ev env k) (ev env x)) (ez dst ⟨env,heap⟩ L):=(rfl)
theorem Mx{T:ay}{m k x:ax}:dw P ag ⟨dst,.insert T m k x,ty,pos,af,g⟩ ⟨env,heap⟩ K=bk (mI P T heap (ev env m) (ev env k) (ev env x)) K:=(rfl)
theorem LK{T:ay}{m k x:ax}:dv P ag ⟨dst,.insert T m k x,ty,pos,af,g⟩ L ⟨env,heap⟩=bk (mI P T heap (ev env m) (ev env k) (ev env x)) (ez dst ⟨env,heap⟩ L):=(rfl)
theorem IZ{T:ay}{x:ax}:dw P ag ⟨dst,.range T x,ty,pos,af,g⟩ ⟨env,heap⟩ K=bk (rF P T heap.length (ev env x)) K:=(rfl)
theorem NG{T:ay}{x:ax}:dv P ag ⟨dst,.range T x,ty,pos,af,g⟩ L ⟨env,heap⟩=bk (rF P T heap.length (ev env x)) (ez dst ⟨env,heap⟩ L):=(rfl)
theorem Qd{it:ax}:dw P ag ⟨dst,.next it true,ty,pos,af,g⟩ ⟨env,heap⟩ K=bk (sc heap (ev env it)) K:=(rfl)
theorem Pu{it:ax}:dv P ag ⟨dst,.next it true,ty,pos,af,g⟩ L ⟨env,heap⟩=bk (sc heap (ev env it)) (ez dst ⟨env,heap⟩ L):=(rfl)
theorem J0{T:ay}{l c:ax}:dw P ag ⟨dst,.makeSlice T l c,ty,pos,af,g⟩ ⟨env,heap⟩ K=bk (se P T heap.length (ev env l) (ev env c)) K:=(rfl)
theorem JB{T:ay}{l c:ax}:dv P ag ⟨dst,.makeSlice T l c,ty,pos,af,g⟩ L ⟨env,heap⟩=bk (se P T heap.length (ev env l) (ev env c)) (ez dst ⟨env,heap⟩ L):=(rfl)
theorem J3{x:ax}:dw P ag ⟨dst,.nilCheck x,ty,pos,af,g⟩ ⟨env,heap⟩ K=bk (rA (ev env x)) K:=(rfl)
theorem Kp{x:ax}:dv P ag ⟨dst,.nilCheck x,ty,pos,af,g⟩ L ⟨env,heap⟩=bk (rA (ev env x)) (ez dst ⟨env,heap⟩ L):=(rfl)
theorem QY{args:Array ax}{a:Array ay}:dw P ag ⟨dst,.call {callee:=.builtin .min,args,argTypes:=a},ty,pos,af,g⟩ ⟨env,heap⟩ K=bk (lr false (args.toList.map (ev env))) K:=(rfl)
theorem Si{args:Array ax}{a:Array ay}:dv P ag ⟨dst,.call {callee:=.builtin .min,args,argTypes:=a},ty,pos,af,g⟩ L ⟨env,heap⟩=bk (lr false (args.toList.map (ev env))) (ez dst ⟨env,heap⟩ L):=(rfl)
theorem QX{args:Array ax}{a:Array ay}:dw P ag ⟨dst,.call {callee:=.builtin .max,args,argTypes:=a},ty,pos,af,g⟩ ⟨env,heap⟩ K=bk (lr true (args.toList.map (ev env))) K:=(rfl)
theorem Sh{args:Array ax}{a:Array ay}:dv P ag ⟨dst,.call {callee:=.builtin .max,args,argTypes:=a},ty,pos,af,g⟩ L ⟨env,heap⟩=bk (lr true (args.toList.map (ev env))) (ez dst ⟨env,heap⟩ L):=(rfl)
theorem Ly{T:ay}:dw P ag ⟨dst,.makeMap T none,ty,pos,af,g⟩ ⟨env,heap⟩ K=K {v:=.map heap.length,aX:=[.map false []]}:=(rfl)
theorem Lj{T:ay}:dv P ag ⟨dst,.makeMap T none,ty,pos,af,g⟩ L ⟨env,heap⟩=ez dst ⟨env,heap⟩ L {v:=.map heap.length,aX:=[.map false []]}:=(rfl)
theorem Mz{s x:ax}{T X:ay}:dw P ag ⟨dst,.call {callee:=.builtin .append,args:=#[s,x],argTypes:=#[T,X]},ty,pos,af,g⟩ ⟨env,heap⟩ K=bk (pT P T X heap (ev env s) (ev env x)) K:=by simp[dw,lx]
theorem LM{s x:ax}{T X:ay}:dv P ag ⟨dst,.call {callee:=.builtin .append,args:=#[s,x],argTypes:=#[T,X]},ty,pos,af,g⟩ L ⟨env,heap⟩=bk (pT P T X heap (ev env s) (ev env x)) (ez dst ⟨env,heap⟩ L):=by simp[dv,lx]
theorem PJ{s x:ax}{T X:ay}:dw P ag ⟨dst,.call {callee:=.builtin .copy,args:=#[s,x],argTypes:=#[T,X]},ty,pos,af,g⟩ ⟨env,heap⟩ K=bk (copyV P T heap (ev env s) (ev env x)) K:=by simp[dw,lx]
theorem Px{s x:ax}{T X:ay}:dv P ag ⟨dst,.call {callee:=.builtin .copy,args:=#[s,x],argTypes:=#[T,X]},ty,pos,af,g⟩ L ⟨env,heap⟩=bk (copyV P T heap (ev env s) (ev env x)) (ez dst ⟨env,heap⟩ L):=by simp[dv,lx]
theorem QR{f:aT}{fi ca:List AV}{args:List AV}{M:AV->an->Prop}:rS P (.func f fi ca) args heap M=ib P false f (fi++args++ca) heap M:=(rfl)
theorem PM{f:aT}{fi ca:List AV}{args:List AV}:rJ P (.func f fi ca) args heap K=im P f (fi++args++ca) heap K:=(rfl)
theorem QS{f:aT}{fi ca:List PV}{args:List AV}{M:AV->an->Prop}:rS P (.p (.func f fi ca)) args heap M=ib P false f (fi.map .p++args++ca.map .p) heap M:=(rfl)
theorem QT{f:aT}{fi ca:List PV}{args:List AV}:rJ P (.p (.func f fi ca)) args heap K=im P f (fi.map .p++args++ca.map .p) heap K:=(rfl)
end ops
section
variable{P:a3}
@[simp] theorem aOE{b:Bool}:aL (.bool b)=.leaf:=(rfl)
@[simp] theorem aO8{k:a6}{n:Int}:aL (.int k n)=.leaf:=(rfl)
@[simp] theorem aPe{l:List Nat}:aL (.str l)=.leaf:=(rfl)
@[simp] theorem aPa:aL .aP=.leaf:=(rfl)
@[simp] theorem aPb{l:List PV}:aL (.seq l)=.leaf:=(rfl)
@[simp] theorem aO7{l:List (PV×PV)}:aL (.eg l)=.leaf:=(rfl)
@[simp] theorem aO9:aL .gQ=.leaf:=(rfl)
@[simp] theorem aPd{u:ay}{fs:List PV}:aL (.st u fs)=.agg u:=(rfl)
@[simp] theorem aOB{v:PV}:aa (.p v)=aL v:=(rfl)
@[simp] theorem aOD{u:ay}{fs:List AV}:aa (.st u fs)=.agg u:=(rfl)
@[simp] theorem aOC{b v e o l:Nat}:aa (.sl b v e o l)=.leaf:=(rfl)
@[simp] theorem aOA{f:aT}{a b:List AV}:aa (.func f a b)=.leaf:=(rfl)
@[simp] theorem aNx{u:ay}{fs:List PV}:bY (.st u fs)=fs:=(rfl)
theorem XP{a:List a4}{Q:PV->Prop}{s:St}:Au P a Q .ret s=∃vs,fN P s a=some vs/\∃v,eC s.heap 9 (oneOf vs)=some v/\Q v:=by simp[Au]
theorem VE{a:List a4}{Q:PV->Prop}{s:St}:Au P a Q .normal s=∃vs,fN P s a=some vs/\∃v,eC s.heap 9 (oneOf vs)=some v/\Q v:=by simp[Au]
attribute [simp] XP VE jx OV Nw OW SM Nu OX Nv SN Nx OY JL K5 L7 J6 MA Ot NZ OU Nt OS Nr Md Mc
 Qe My Qc Oc QV Ob Jo PI N8 QU QZ PK Lz JN JM Oa QW PL
 Pv LL Pt NK Sf NJ Ji Pw N2 Se Sk Py KH JD JC NH Sg Pz QS QT N9 ND Mw LJ JZ JA Mx LK IZ NG Qd Pu J0 JB J3 Kp QY Si QX Sh Ly Lj Mz LM PJ Px QR PM pT lh pW rV mI rF sc se copyV rA lr gW dF eZ ga lR qq mv tV gk iN ml W3 XC
 UX Wc Xg UL Vs WU
 aS put iV ev ofConst bf gd gY oy eU lC fX iw eO rY rM uy jA rK qP iu uK Fv sR rR rj rO sM qe pU pz py lenOf ig iL mj bF
 mJ fN pX oneOf eC
end
section
variable{P:a3}{ag:aT->Bool}
def sE:jD->jD->Bool
 | .leaf,.leaf=>true
 | .agg u,.agg v=>cy u v
 |_,_=>false
theorem iW{a b:jD}(h:sE a b=true):a=b/\b≠.bad:=by
 cases a<;>cases b<;>simp_all [sE]
def kE:AK->AK->Bool
 | .exact,.exact| .grow,.grow| .frozen,.frozen| .bytes,.bytes=>true
 |_,_=>false
def xy:AK->Bool
 | .frozen=>false
 |_=>true
theorem D3{k:AK}(h:xy k=true):k≠.frozen:=by cases k<;>simp_all [xy]
def o6(k:AK)(a:List AV):Bool:=match k.gr,a with
 |true,[]=>false
 |_,_=>true
theorem wK{k:AK}{a:List AV}(h:o6 k a=true):¬(k.gr=true/\a=[]):=by
 rintro⟨b,rfl⟩;simp[o6,b]at h
theorem dx{a b:Nat}(h:cy a b=true):a=b:=Nat.eq_of_beq_eq_true h
theorem cZ{a b:Nat}(h:cx a b=true):a<=b:=Nat.le_of_ble_eq_true h
def Rj:a6->a6->Bool:=fun a b=>decide (a=b)
def wM(P:a3)(l:List Nat):List (Nat×AV)->Bool
 |[]=>true
 |(i,v)::r=>(match l[i]? with
  |some n=>cy (bF P (aa v)) n&&(match aa v with
   | .bad=>false
   |_=>true)
  |none=>false)&&wM P l r
theorem Cy{l:List Nat}:∀{r:List (Nat×AV)},wM P l r=true->mj P l r
 |[],_=>trivial
 |(i,v)::r,h=>by
  simp only[wM,ap]at h;refine⟨?_,Cy h.2⟩;have a:=h.1
  split at a
  ·rename_i n c;simp only[ap]at a;refine⟨n,c,dx a.1,fun b=>?_⟩;rw[b]at a;simp at a
  ·simp at a
def qf(P:a3)(sz:Nat):List AV->Bool
 |[]=>true
 |v::r=>(match aa v with
  | .bad=>false
  |s=>cy (bF P s) sz)&&qf P sz r
theorem ua{sz:Nat}:∀{r:List AV},qf P sz r=true->eZ P sz r
 |[],_=>trivial
 |v::r,h=>by
  simp only[qf,ap]at h;refine⟨?_,ua h.2⟩;have a:=h.1
  split at a
  ·simp at a
  ·rename_i b;exact⟨b,dx a⟩
def Fc(P:a3)(T:ay)(H:an)(a:AV):Option aZ:=
 match a with
 | .ptr b path=>match H[b]? with
  |some (.box fz t)=>match eU t path with
   |some s=>bif sE (kindOf P T) (aa s)then some {v:=s,aq:=[(b,.box fz t)]}else none
   |none=>none
  |_=>none
 | .b8 b aC aj i path=>match H[b]? with
  |some (.arr k d c es)=>bif cy aC d&&cy aj c then match es[i]? with
   |some x=>match eU x path with
    |some s=>bif sE (kindOf P T) (aa s)then some {v:=s,aq:=[(b,.arr k d c es)]}else none
    |none=>none
   |none=>none
   else none
  |_=>none
 | .p (.cq t)=>bif sE (kindOf P T) (aL t)then some {v:=.p t}else none
 |_=>none
theorem YV{T:ay}{H:an}{a:AV}{e:aZ}{K:aZ->Prop}(h:Fc P T H a=some e)(hk:K e):oI P T H a K:=by
 unfold Fc at h;unfold oI
 split at h
 ·split at h
  ·split at h
   ·rename_i hs;simp only[ao,dg,dk]at h;rename_i c _ _;obtain⟨b,rfl⟩:=h;simp only[c,hs];exact⟨(iW b).1,hk⟩
   ·simp at h
  ·simp at h
 ·split at h
  ·rename_i c;simp only[ao,dg,ap]at h;obtain⟨⟨b,d⟩,h⟩:=h
   split at h
   ·rename_i hx
    split at h
    ·rename_i hs;simp only[dg,dk]at h;obtain⟨f,rfl⟩:=h;obtain⟨hi,rfl⟩:=bl.1 hx;simp only[c];refine⟨dx b,dx d,hi,?_⟩;simp only[hs];exact⟨(iW f).1,hk⟩
    ·simp at h
   ·simp at h
  ·simp at h
 ·simp only[ao,dg,dk]at h;obtain⟨b,rfl⟩:=h;exact⟨(iW b).1,hk⟩
 ·simp at h
def DT(P:a3)(T:ay)(H:an)(a x:AV):Option aZ:=
 bif sE (kindOf P T) (aa x)then match a with
 | .ptr b path=>match H[b]? with
  |some (.box false t)=>match eU t path,fX t path x with
   |some s,some d=>bif sE (aa s) (aa x)then some {v:=.p (.aE []),aq:=[(b,.box false t)],aM:=[(b,.box false d)]}else none
   |_,_=>none
  |_=>none
 | .b8 b aC aj i path=>match H[b]? with
  |some (.arr k e c es)=>bif cy aC e&&(cy aj c&&xy k)then match es[i]? with
   |some y=>match eU y path,fX y path x with
    |some s,some d=>bif sE (aa s) (aa x)then some {v:=.p (.aE []),aq:=[(b,.arr k e c es)],aM:=[(b,.arr k e c (es.set i d))]}else none
    |_,_=>none
   |none=>none
   else none
  |_=>none
 |_=>none
 else none
theorem W8{T:ay}{H:an}{a x:AV}{e:aZ}{K:aZ->Prop}(h:DT P T H a x=some e)(hk:K e):om P T H a x K:=by
 unfold DT at h;unfold om;simp only[ao,dg]at h;obtain⟨f,h⟩:=h;refine⟨(iW f).1,(iW f).2,?_⟩
 split at h
 ·split at h
  ·rename_i c
   split at h
   ·rename_i hs d;simp only[dg,dk]at h;obtain⟨b,rfl⟩:=h;simp only[c,hs,d];exact⟨(iW b).1,hk⟩
   ·simp at h
  ·simp at h
 ·split at h
  ·rename_i c;simp only[dg,ap]at h;obtain⟨⟨b,g,i⟩,h⟩:=h
   split at h
   ·rename_i k
    split at h
    ·rename_i hs d;simp only[dg,dk]at h;obtain⟨j,rfl⟩:=h;obtain⟨hi,rfl⟩:=bl.1 k;simp only[c];refine⟨dx b,dx g,D3 i,hi,?_⟩;simp only[hs,d];exact⟨(iW j).1,hk⟩
    ·simp at h
   ·simp at h
  ·simp at h
 ·simp at h
def EI(op:a7)(k:a6)(a b:Int):Option PV:=
 match op with
 | .add=>some (.int k (k.wrap (a+b)))
 | .sub=>some (.int k (k.wrap (a-b)))
 | .mul=>some (.int k (k.wrap (a*b)))
 | .quo=>match b with
  | .ofNat 0=>none
  |b=>some (.int k (k.wrap (a.tdiv b)))
 | .rem=>match b with
  | .ofNat 0=>none
  |b=>some (.int k (a.tmod b))
 | .and=>some (.int k (k.wrap (am k.bits a&&&am k.bits b).toNat))
 | .or=>some (.int k (k.wrap (am k.bits a|||am k.bits b).toNat))
 | .xor=>some (.int k (k.wrap (am k.bits a^^^am k.bits b).toNat))
 | .andNot=>some (.int k (k.wrap (am k.bits a&&&~~~am k.bits b).toNat))
 | .eql=>some (.bool (a==b))
 | .neq=>some (.bool (a !=b))
 | .lss=>some (.bool (decide (a<b)))
 | .leq=>some (.bool (decide (a<=b)))
 | .gtr=>some (.bool (decide (a>b)))
 | .geq=>some (.bool (decide (a>=b)))
 | .shl=>match b with
  | .ofNat _=>some (.int k (k.wrap (a*2^(min b.toNat k.bits))))
  |_=>none
 | .shr=>match b with
  | .ofNat _=>some (.int k (a.fdiv (2^(min b.toNat k.bits))))
  |_=>none
theorem aAl{op:a7}{k:a6}{a b:Int}{v:PV}{K:PV->Prop}(h:EI op k a b=some v)(hk:K v):qd op k a b K:=by
 cases op<;>simp only[EI]at h<;>simp only[qd]
 case quo|rem=>
  split at h
  ·simp at h
  ·rename_i d;simp only[dk]at h;subst h;exact⟨fun c=>d (by rw[c];rfl),hk⟩
 case shl|shr=>
  split at h
  ·simp only[dk]at h;subst h;exact⟨a9 _,hk⟩
  ·simp at h
 all_goals (simp only[dk]at h;subst h;exact hk)
def Et(P:a3)(op:a7)(T:ay)(c:Bool)(H:an)(x y:AV):Option PV:=
 match x,y with
 | .p (.int k a),.p (.int d b)=>bif Rj k d||(match op with
  | .shl| .shr=>true
  |_=>false)then EI op k a b else none
 | .p (.str a),.p (.str b)=>match op with
  | .add=>bif cx (a.length+b.length) 9223372036854775807 then some (.str (a++b))else none
  | .eql=>some (.bool (a==b))
  | .neq=>some (.bool (!(a==b)))
  | .lss=>some (.bool (jt a b))
  | .leq=>some (.bool (jt a b||a==b))
  | .gtr=>some (.bool (!(jt a b||a==b)))
  | .geq=>some (.bool (!(jt a b)))
  |_=>none
 | .p (.bool a),.p (.bool b)=>bif rD P T then match op with
  | .eql=>some (.bool (a==b))
  | .neq=>some (.bool (!(a==b)))
  |_=>none
  else none
 | .p (.st u fs),.p (.st u' gs)=>bif sF P T then match ja P 9 T (.st u fs) (.st u' gs),op with
  |some r,.eql=>some (.bool r)
  |some r,.neq=>some (.bool !r)
  |_,_=>none
  else none
 |x,y=>match dE P T c y with
  |some k=>match cW H k x,op with
   |some r,.eql=>some (.bool r)
   |some r,.neq=>some (.bool !r)
   |_,_=>none
  |none=>none
theorem ZT{op:a7}{T:ay}{c:Bool}{H:an}{x y:AV}{v:PV}{K:PV->Prop}(h:Et P op T c H x y=some v)(hk:K v):kV P op T c H x y K:=by
 unfold Et at h;unfold kV
 split at h
 ·simp only[ao,dg,Bool.or_eq_true,Rj,decide_eq_true_eq]at h;refine⟨?_,aAl h.2 hk⟩;rcases h.1 with b|b
  ·exact .inl b
  ·cases op<;>simp at b<;>simp
 ·split at h<;>simp only[qc]
  ·simp only[ao,dg,dk]at h;obtain⟨b,rfl⟩:=h;exact⟨by have:=cZ b;omega,hk⟩
  ·simp only[dk]at h;subst h;exact hk
  ·simp only[dk]at h;subst h;exact hk
  ·simp only[dk]at h;subst h;exact hk
  ·simp only[dk]at h;subst h;exact hk
  ·simp only[dk]at h;subst h;exact hk
  ·simp only[dk]at h;subst h;exact hk
  ·simp at h
 ·simp only[ao,dg]at h;refine⟨h.1,?_⟩;have a:=h.2
  split at a
  ·simp only[dk]at a;subst a;exact hk
  ·simp only[dk]at a;subst a;exact hk
  ·simp at a
 ·simp only[ao,dg]at h;refine⟨h.1,?_⟩;have a:=h.2
  split at a
  ·rename_i d;simp only[dk]at a;subst a;simp only[d];exact hk
  ·rename_i d;simp only[dk]at a;subst a;simp only[d];exact hk
  ·simp at a
 ·split at h
  case h_2=>simp at h
  rename_i k f;show kV P op T c H x y _;rw[Ln f];obtain⟨r,e,d⟩:∃r,cW H k x=some r/\((op=.eql/\v=.bool r)\/(op=.neq/\v=.bool !r)):=by
   revert h;generalize cW H k x=q;intro h;cases q with
   |none=>simp at h
   |some r=>cases op<;>simp at h<;>exact⟨r,rfl,by simp[h]⟩
  rw[e];rcases d with⟨rfl,rfl⟩|⟨rfl,rfl⟩<;>exact hk
def Cn(P:a3)(T:ay)(a:AV)(f:Nat):Option aZ:=
 match fg P T with
 |some (u,n)=>bif cx (f+1) n then match a with
  | .ptr b path=>some {v:=.ptr b (path++[(u,f)])}
  | .b8 b aC aj i path=>some {v:=.b8 b aC aj i (path++[(u,f)])}
  | .p (.cq t)=>bif sE (aL t) (.agg u)then match(bY t)[f]? with
   |some g=>some {v:=.p (.cq g)}
   |none=>none
   else none
  |_=>none
  else none
 |_=>none
theorem UP{T:ay}{a:AV}{f:Nat}{e:aZ}{K:aZ->Prop}(h:Cn P T a f=some e)(hk:K e):nU P T a f K:=by
 unfold Cn at h;unfold nU
 split at h
 ·rename_i hs;simp only[ao,dg]at h;obtain⟨b,h⟩:=h;simp only[hs];refine⟨by have:=cZ b;omega,?_⟩
  split at h
  ·simp only[dk]at h;subst h;exact hk
  ·simp only[dk]at h;subst h;exact hk
  ·simp only[dg]at h;obtain⟨c,h⟩:=h
   split at h
   ·rename_i d;simp only[dk]at h;subst h;simp only[d];exact⟨(iW c).1,hk⟩
   ·simp at h
  ·simp at h
 ·simp at h
def oE(a:Option Nat)(b:Nat):Bool:=match a with
 |some x=>cy x b
 |none=>false
theorem xc{a:Option Nat}{b:Nat}(h:oE a b=true):a=some b:=by
 unfold oE at h;split at h
 ·rw[dx h]
 ·simp at h
def Ck(P:a3)(T:ay)(H:an)(x i:AV):Option aZ:=
 match i with
 | .p (.int _ (.ofNat i))=>match x with
  | .p (.cT _ es)=>match es[i]? with
   |some y=>bif oE (cH P T) (bF P (aL y))then some {v:=.p (.cq y)}else none
   |none=>none
  | .p (.seq es)=>match es[i]? with
   |some y=>bif oE (cH P T) (bF P (aL y))then some {v:=.p (.cq y)}else none
   |none=>none
  | .sl b aC aj off len=>bif oE (cH P T) aj&&cx (i+1) len then match H[b]? with
   |some (.arr k c a es)=>bif cy aC c&&(cy aj a&&o6 k es)then some {v:=.b8 b aC aj (off+i) [],aq:=[(b,.arr k c a es)]}else none
   |_=>none
   else none
  | .ptr b path=>match ir P T with
   |some (u,n)=>bif cx (i+1) n then some {v:=.ptr b (path++[(u,i)])}else none
   |_=>none
  | .b8 b aC aj j path=>match ir P T with
   |some (u,n)=>bif cx (i+1) n then some {v:=.b8 b aC aj j (path++[(u,i)])}else none
   |_=>none
  | .p (.cq t)=>match ir P T with
   |some (u,n)=>bif sE (aL t) (.agg u)&&cx (i+1) n then match(bY t)[i]? with
    |some g=>some {v:=.p (.cq g)}
    |none=>none
    else none
   |_=>none
  |_=>none
 |_=>none
theorem U2{T:ay}{H:an}{x i:AV}{e:aZ}{K:aZ->Prop}(h:Ck P T H x i=some e)(hk:K e):nT P T H x i K:=by
 unfold Ck at h;unfold nT
 split at h
 case h_2=>simp at h
 rename_i i;refine⟨a9 _,?_⟩;simp only[bb,be]
 split at h
 ·split at h
  ·rename_i y d;simp only[ao,dg,dk]at h;obtain⟨a,rfl⟩:=h;obtain⟨hi,rfl⟩:=bl.1 d;exact⟨hi,xc a,hk⟩
  ·simp at h
 ·split at h
  ·rename_i y d;simp only[ao,dg,dk]at h;obtain⟨a,rfl⟩:=h;obtain⟨hi,rfl⟩:=bl.1 d;exact⟨hi,xc a,hk⟩
  ·simp at h
 ·simp only[ao,dg,ap]at h;obtain⟨⟨a,c⟩,h⟩:=h;refine⟨xc a,by have:=cZ c;omega,?_⟩
  split at h
  ·rename_i k;simp only[dg,dk]at h;obtain⟨⟨f,g,j⟩,rfl⟩:=h;simp only[k];exact⟨dx f,dx g,wK j,hk⟩
  ·simp at h
 ·split at h
  ·rename_i b;simp only[ao,dg,dk]at h;obtain⟨a,rfl⟩:=h;simp only[b];exact⟨by have:=cZ a;omega,hk⟩
  ·simp at h
 ·split at h
  ·rename_i b;simp only[ao,dg,dk]at h;obtain⟨a,rfl⟩:=h;simp only[b];exact⟨by have:=cZ a;omega,hk⟩
  ·simp at h
 ·split at h
  ·rename_i b;simp only[ao,dg,ap]at h;obtain⟨⟨a,c⟩,h⟩:=h
   split at h
   ·rename_i l;simp only[dk]at h;subst h;simp only[b,l];exact⟨(iW a).1,by have:=cZ c;omega,hk⟩
   ·simp at h
  ·simp at h
 ·simp at h
def DJ(P:a3)(T X:ay)(H:an)(s x:AV):Option aZ:=
 match cH P T,gW H x with
 |some sz,some xs=>bif iX P X&&((cz P (er P T)).isSome&&qf P sz xs)then
  match s with
  | .p .aP=>match xs with
   |[]=>some {v:=s,aq:=dF H x}
   |y::r=>bif cx (y::r).length cN then some {v:=.sl H.length 0 sz 0 (y::r).length,aq:=dF H x,aX:=[.arr (gk P T) 0 sz (y::r)]}else none
  | .p (.cT full es)=>bif qf P sz (es.map .p)then match xs with
   |[]=>some {v:=s,aq:=dF H x}
   |y::r=>bif full&&cx (es.length+(y::r).length) cN then
    some {v:=.sl H.length 0 sz 0 (es.length+(y::r).length),aq:=dF H x,aX:=[.arr (gk P T) 0 sz (es.map .p++(y::r))]}else none
   else none
  | .sl b aC aj off len=>match H[b]? with
   |some (.arr k c a es)=>bif cy aC c&&(cy aj a&&(cy aj sz&&cx (off+len) es.length))then
    match xs with
    |[]=>some {v:=s,aq:=(b,.arr k c a es)::dF H x}
    |y::r=>bif cx (es.length+(y::r).length) cN then match k with
     | .frozen=>none
     | .exact=>bif cx (off+len+(y::r).length) es.length then
      some {v:=.sl b aC aj off (len+(y::r).length),aq:=(b,.arr .exact c a es)::dF H x,aM:=[(b,.arr .exact aC aj (es.take (off+len)++(y::r)++es.drop (off+len+(y::r).length)))]}
      else some {v:=.sl H.length 0 sz 0 (len+(y::r).length),aq:=(b,.arr .exact c a es)::dF H x,aX:=[.arr (gk P T) 0 sz ((es.drop off).take len++(y::r))]}
     | .grow=>bif cy off 0 then some {v:=.sl b (aC+1) aj 0 (len+(y::r).length),aq:=(b,.arr .grow c a es)::dF H x,aM:=[(b,.arr .grow (aC+1) aj (es.take len++(y::r)))]}else none
     | .bytes=>bif cy off 0&&cy (er P T) Gl.u8 then some {v:=.sl b (aC+1) aj 0 (len+(y::r).length),aq:=(b,.arr .bytes c a es)::dF H x,aM:=[(b,.arr .bytes (aC+1) aj (es.take len++(y::r)))]}else none
     else none
    else none
   |_=>none
  |_=>none
  else none
 |_,_=>none
theorem are{T X:ay}{H:an}{s x:AV}{e:aZ}{K:aZ->Prop}(h:DJ P T X H s x=some e)(hk:K e):nW P T X H s x K:=by
 unfold DJ at h;unfold nW
 split at h
 case h_2=>simp at h
 rename_i sz r n p;simp only[ao,dg,ap]at h;obtain⟨⟨g,j,k⟩,h⟩:=h;simp only[n,p];refine⟨g,j,ua k,?_⟩
 split at h
 ·split at h
  ·simp only[dk]at h;subst h;simpa using hk
  ·simp only[dg,dk]at h;obtain⟨a,rfl⟩:=h;simp only[bV,av,if_false];exact⟨cZ a,hk⟩
 ·simp only[dg]at h;obtain⟨a,h⟩:=h;refine⟨ua a,?_⟩
  split at h
  ·simp only[dk]at h;subst h;simpa using hk
  ·simp only[dg,dk]at h;obtain⟨⟨b,c⟩,rfl⟩:=h;simp only[bV,av,if_false];exact⟨b,cZ c,hk⟩
 ·split at h
  case h_2=>simp at h
  rename_i o;simp only[dg]at h;obtain⟨⟨a,b,c,l⟩,h⟩:=h;simp only[o];refine⟨dx a,dx b,dx c,cZ l,?_⟩
  split at h
  ·simp only[dk]at h;subst h;simpa using hk
  ·simp only[dg]at h;obtain⟨m,h⟩:=h;simp only[bV,av,if_false];refine⟨cZ m,?_⟩
   split at h
   ·simp at h
   ·split at h
    ·rename_i f;simp only[dk]at h;subst h;simp only[cZ f,if_true];exact hk
    ·rename_i f;simp only[dk]at h;subst h;rw[if_neg (fun q=>f (c6 q))];exact hk
   ·simp only[dg,dk]at h;obtain⟨d,rfl⟩:=h;exact⟨dx d,(fun h=>by cases h),hk⟩
   ·simp only[dg,dk]at h;obtain⟨⟨d,i⟩,rfl⟩:=h;exact⟨dx d,fun _=>dx i,hk⟩
 ·simp at h
end
section
variable{P:a3}{ag:aT->Bool}
def jL(x:Option AV)(d:Nat):Option Nat:=
 match x with
 |none=>some d
 |some (.p (.int _ (.ofNat i)))=>some i
 |_=>none
theorem kK{x:Option AV}{d n:Nat}{K:Nat->Prop}(h:jL x d=some n)(hk:K n):gK x d K:=by
 unfold jL at h;unfold gK
 split at h
 ·simp only[dk]at h;subst h;exact hk
 ·simp only[dk]at h;subst h;exact⟨a9 _,hk⟩
 ·simp at h
def DV(P:a3)(T:ay)(H:an)(x:AV)(lo hi e:Option AV):Option aZ:=
 match e with
 |some _=>none
 |none=>match x with
  | .p (.str s)=>match jL hi s.length,jL lo 0 with
   |some h,some l=>bif iN P T&&(cx h s.length&&cx l h)then some {v:=.p (.str ((s.take h).drop l))}else none
   |_,_=>none
  | .p .aP=>match jL hi 0,jL lo 0 with
   |some h,some l=>bif (cH P T).isSome&&(cx h 0&&cx l h)then some {v:=x}else none
   |_,_=>none
  | .p (.cT full es)=>match jL hi es.length,jL lo 0,cH P T with
   |some h,some l,some sz=>bif cx h es.length&&(cx l h&&qf P sz (es.map .p))then some {v:=.p (.cT (full&&h==es.length) ((es.take h).drop l))}else none
   |_,_,_=>none
  | .p (.seq es)=>match jL hi es.length,jL lo 0,cH P T with
   |some h,some l,some sz=>bif cx h es.length&&(cx l h&&qf P sz (es.map .p))then some {v:=.p (.seq ((es.take h).drop l))}else none
   |_,_,_=>none
  | .sl b aC aj off len=>match H[b]? with
   |some (.arr k c a es)=>match jL hi len,jL lo 0 with
    |some h,some l=>bif cy aC c&&(cy aj a&&(oE (cH P T) aj&&(o6 k es&&(cx (off+len) es.length&&(cx (off+h) es.length&&cx l h)))))then
     match l with
     |0=>some {v:=.sl b aC aj off h,aq:=[(b,.arr k c a es)]}
     |d+1=>bif cy (d+1) h then some {v:=.p (.cT false []),aq:=[(b,.arr k c a es)]}else some {v:=.sl b aC aj (off+(d+1)) (h-(d+1)),aq:=[(b,.arr k c a es)]}
     else none
    |_,_=>none
   |_=>none
  |_=>none
theorem Xc{T:ay}{H:an}{x:AV}{lo hi j:Option AV}{e:aZ}{K:aZ->Prop}(h:DV P T H x lo hi j=some e)(hk:K e):ot P T H x lo hi j K:=by
 unfold DV at h;unfold ot
 split at h
 ·simp at h
 refine⟨rfl,?_⟩
 split at h
 ·split at h
  case h_2=>simp at h
  rename_i a b;simp only[ao,dg,ap,dk]at h;obtain⟨⟨c,d,f⟩,rfl⟩:=h;exact⟨c,kK a (kK b ⟨cZ d,cZ f,hk⟩)⟩
 ·split at h
  case h_2=>simp at h
  rename_i a b;simp only[ao,dg,ap,dk]at h;obtain⟨⟨c,d,f⟩,rfl⟩:=h;exact⟨c,kK a (kK b ⟨cZ d,cZ f,hk⟩)⟩
 ·split at h
  case h_2=>simp at h
  rename_i a b c;simp only[ao,dg,ap,dk]at h;obtain⟨⟨d,f,g⟩,rfl⟩:=h;refine kK a (kK b ⟨cZ d,cZ f,?_⟩);simp only[c];exact⟨ua g,hk⟩
 ·split at h
  case h_2=>simp at h
  rename_i a b c;simp only[ao,dg,ap,dk]at h;obtain⟨⟨d,f,g⟩,rfl⟩:=h;refine kK a (kK b ⟨cZ d,cZ f,?_⟩);simp only[c];exact⟨ua g,hk⟩
 ·split at h
  case h_2=>simp at h
  rename_i n
  split at h
  case h_2=>simp at h
  rename_i a b;simp only[ao,dg,ap]at h;obtain⟨⟨c,d,f,g,k,l,m⟩,h⟩:=h;simp only[n];refine⟨dx c,dx d,xc f,wK g,cZ k,kK a (kK b ⟨cZ l,cZ m,?_⟩)⟩
  split at h
  ·simp only[dk]at h;subst h;simpa using hk
  ·rw[if_neg (by omega)]
   split at h
   ·rename_i i;simp only[dk]at h;subst h;rw[if_pos (dx i)];exact hk
   ·rename_i i;simp only[dk]at h;subst h;rw[if_neg (fun e=>i (by rw[<-e];exact c9 _))];exact hk
 ·simp at h
def Dh(P:a3)(T:ay)(H:an)(x:AV)(lo hi:Option AV)(m:AV):Option aZ:=
 match x with
 | .sl b aC aj off len=>match H[b]? with
  |some (.arr k c a es)=>match jL hi len,jL lo 0,jL (some m) 0 with
   |some h,some l,some m=>bif cy aC c&&(cy aj a&&((cH P T).isSome&&(o6 k es&&(cx (off+len) es.length&&(hi.isSome&&(cx (off+m) es.length&&(cx h m&&cx l h)))))))then
    some {v:=.p .undef,aq:=[(b,.arr k c a es)]}else none
   |_,_,_=>none
  |_=>none
 |_=>none
theorem WN{T:ay}{H:an}{x:AV}{lo hi:Option AV}{m:AV}{e:aZ}{K:aZ->Prop}(h:Dh P T H x lo hi m=some e)(hk:K e):q9 P T H x lo hi m K:=by
 unfold Dh at h;unfold q9
 split at h
 case h_2=>simp at h
 split at h
 case h_2=>simp at h
 rename_i d
 split at h
 case h_2=>simp at h
 rename_i a b c;simp only[ao,dg,ap,dk]at h;obtain⟨⟨g1,g2,g3,g4,g5,g6,g7,g8,g9⟩,rfl⟩:=h;simp only[d];exact⟨dx g1,dx g2,g3,wK g4,cZ g5,g6,kK a (kK b (kK c ⟨cZ g7,cZ g8,cZ g9,hk⟩))⟩
def Ah(ok:Bool)(z:PV)(r:Option PV):PV:=
 match r with
 |some v=>bif ok then .aE [v,.bool true]else v
 |none=>bif ok then .aE [z,.bool false]else z
def NC(P:a3)(T:ay)(H:an)(x i:AV)(ok:Bool):Option aZ:=
 match lR P T,i with
 |some (a,E),.p key=>match cz P E with
  |some z=>bif ga P a key then match x with
   | .p .fk=>some {v:=.p (Ah ok z none)}
   | .p (.eg es)=>match fP P a es key with
    |some r=>some {v:=.p (Ah ok z r)}
    |none=>none
   | .map b=>match H[b]? with
    |some (.map fz es)=>match fP P a es key with
     |some r=>some {v:=.p (Ah ok z r),aq:=[(b,.map fz es)]}
     |none=>none
    |_=>none
   |_=>none
   else none
  |none=>none
 |_,_=>none
def Ny(P:a3)(T:ay)(H:an)(m k x:AV):Option aZ:=
 match lR P T,m,k,x with
 |some (a,_),.map b,.p key,.p v=>bif ga P a key then match H[b]? with
  |some (.map false es)=>match mv P a es key with
   |some _=>some {v:=.p (.aE []),aq:=[(b,.map false es)],aM:=[(b,.map false (fZ es key v))]}
   |none=>none
  |_=>none
  else none
 |_,_,_,_=>none
def R7(H:an)(it:AV):Option aZ:=
 match it with
 | .ptr b []=>match H[b]? with
  |some (.dy s pos)=>bif cx (pos+1) s.length then
   some {v:=.p (.aE [.bool true,.int .i64 pos,.int .i32 (Utf8.decode (gD s) pos).1]),aq:=[(b,.dy s pos)],aM:=[(b,.dy s (pos+(Utf8.decode (gD s) pos).2))]}
   else some {v:=.p (.aE [.bool false]),aq:=[(b,.dy s pos)]}
  |_=>none
 |_=>none
def Mj(P:a3)(H:an)(b:Builtin)(c:Array ay)(args:List AV):Option aZ:=
 match b,args with
 | .len,[x]=>match lenOf H x with
  |some (n,aq)=>bif ig P (c.getD 0 0) x&&cx 1 c.size then some {v:=.p (.int .i64 n),aq}else none
  |none=>none
 | .append,[s,x]=>bif cy c.size 2 then DJ P (c.getD 0 0) (c.getD 1 0) H s x else none
 | .min,.p (.int k a)::r=>match ml k false r a with
  |some n=>some {v:=.p (.int k n)}
  |none=>none
 | .max,.p (.int k a)::r=>match ml k true r a with
  |some n=>some {v:=.p (.int k n)}
  |none=>none
 | .copy,[d,x]=>match cH P (c.getD 0 0),d,gW H x with
  |some sz,.sl b aC aj off len,some xs=>bif cy aj sz&&(qf P sz xs&&cy c.size 2)then match H[b]? with
   |some (.arr k f e es)=>bif cy aC f&&(cy aj e&&(xy k&&(cx (off+len) es.length&&o6 k es)))then
    some {v:=.p (.int .i64 (min xs.length len:Nat)),aq:=(b,.arr k f e es)::dF H x,aM:=[(b,.arr k f e (es.take off++xs.take (min xs.length len)++es.drop (off+min xs.length len)))]}
    else none
   |_=>none
   else none
  |_,_,_=>none
 | .cap,[x]=>match Ax H x with
  |some (n,aq)=>bif ig P (c.getD 0 0) x&&cx 1 c.size then some {v:=.p (.int .i64 n),aq}else none
  |none=>none
 | .clear,[x]=>match x with
  | .p .aP=>bif ig P (c.getD 0 0) x&&cx 1 c.size then some {v:=.p (.aE [])}else none
  | .sl b aC aj off len=>match cH P (c.getD 0 0),cz P (er P (c.getD 0 0)),H[b]? with
   |some sz,some z,some (.arr k f e es)=>bif cy aC f&&(cy aj e&&(cy aj sz&&(cy (bF P (aL z)) sz&&(xy k&&(cx (off+len) es.length&&(o6 k es&&(cx 1 c.size&&cx 1 len)))))))then
    some {v:=.p (.aE []),aq:=[(b,.arr k f e es)],aM:=[(b,.arr k f e (es.take off++bI len (.p z)++es.drop (off+len)))]}else none
   |_,_,_=>none
  |_=>none
 | .unsafeSliceData,[x]=>match x with
  | .p .aP=>some {v:=.p .dM}
  | .sl b aC aj off len=>match H[b]? with
   |some (.arr k f e es)=>bif cy aC f&&cy aj e then
    bif o6 k es then(bif cx 1 len&&cx (off+len) es.length then some {v:=.b8 b aC aj off [],aq:=[(b,.arr k f e es)]}else none)
    else some {v:=.p .dM,aq:=[(b,.arr k f e es)]}
    else none
   |_=>none
  |_=>none
 | .unsafeString,[x,.p (.int .i64 (.ofNat n))]=>match x with
  | .p .dM=>bif cy n 0&&cy c.size 2 then some {v:=.p (.str [])}else none
  | .b8 b aC aj i []=>match H[b]? with
   |some (.arr .bytes f e es)=>bif cy aC f&&(cy aj e&&(cy aj 1&&(cy i 0&&(cx 1 n&&(cx n es.length&&(cx n 9223372036854775807&&(cy c.size 2&&(oE (ptrTo P (c.getD 0 0)) Gl.u8&&cy (P.cellsOf Gl.u8) 1))))))))then
    match bytesOf (es.take n)with
    |some l=>some {v:=.p (.str l),aq:=[(b,.arr .bytes f e es)],aM:=[(b,.dead)]}
    |none=>none
    else none
   |_=>none
  |_=>none
 |_,_=>none
def AY(P:a3)(ag:aT->Bool)(o:Oper)(ρ:ax->AV)(H:an):Option aZ:=
 match o.op with
 | .move x| .assign x=>some {v:=ρ x}
 | .pick c a b=>match ρ c with
  | .p (.bool t)=>some {v:=bif t then ρ a else ρ b}
  |_=>none
 | .alloc T=>match cz P T with
  |some z=>bif sE (kindOf P T) (aL z)&&jA T (aL z)then some {v:=.ptr H.length [],aX:=[.box false (.p z)]}else none
  |none=>none
 | .box T x=>bif sE (kindOf P T) (aa (ρ x))&&jA T (aa (ρ x))then some {v:=.ptr H.length [],aX:=[.box false (ρ x)]}else none
 | .build T parts=>match kindOf P T,cz P T with
  | .agg u,some z=>match dD P u with
   |some l=>bif sE (aL z) (.agg u)&&wM P l (parts.toList.map fun(i,x)=>(i,ρ x))then some {v:=iw u (iL ((bY z).map .p) (parts.toList.map fun(i,x)=>(i,ρ x)))}else none
   |none=>none
  |_,_=>none
 | .buildSlice T n parts=>match cH P T,cz P (er P T)with
  |some sz,some z=>bif cy (bF P (aL z)) sz&&(cx (n*sz) 1000000&&wM P (bI n sz) (parts.toList.map fun(i,x)=>(i,ρ x)))then
   some {v:=.sl H.length 0 sz 0 n,aX:=[.arr .exact 0 sz (iL (bI n (.p z)) (parts.toList.map fun(i,x)=>(i,ρ x)))]}else none
  |_,_=>none
 | .load T a=>Fc P T H (ρ a)
 | .store T a x=>DT P T H (ρ a) (ρ x)
 | .binOp op T x y _=>match Et P op T (mJ y) H (ρ x) (ρ y)with
  |some v=>some {v:=.p v,aq:=dF H (ρ x)}
  |none=>none
 | .unOp op _ x=>match op,ρ x with
  | .not,.p (.bool b)=>some {v:=.p (.bool (!b))}
  | .neg,.p (.int k n)=>some {v:=.p (.int k (k.wrap (0-n)))}
  | .xor,.p (.int k n)=>some {v:=.p (.int k (k.wrap (am k.bits (if k.signed then -1 else k.max)^^^am k.bits n).toNat))}
  |_,_=>none
 | .convert S D x=>match P.underlying S,P.underlying D,ρ x with
  |some _,some (.int k),.p (.int _ n)=>some {v:=.p (.int k (k.wrap n))}
  |some _,some .string,.p (.str s)=>some {v:=.p (.str s)}
  |_,_,_=>none
 | .extract t i=>match ρ t with
  | .p (.aE vs)=>match vs[i]? with
   |some v=>some {v:=.p v}
   |none=>none
  | .aE vs=>match vs[i]? with
   |some v=>some {v}
   |none=>none
  |_=>none
 | .fieldAddr T a f=>Cn P T (ρ a) f
 | .indexAddr T x i=>Ck P T H (ρ x) (ρ i)
 | .field T x f=>match kindOf P T,P.underlying T,ρ x with
  | .agg u,some (.struct _),.p t=>match(bY t)[f]?,(jF P u)[f]? with
   |some g,some F=>bif sE (aL t) (.agg u)&&sE (kindOf P F) (aL g)then some {v:=.p g}else none
   |_,_=>none
  |_,_,_=>none
 | .index T x i=>match ρ x,ρ i with
  | .p (.str s),.p (.int _ (.ofNat i))=>match s[i]? with
   |some c=>bif iN P T then some {v:=.p (.int .u8 c)}else none
   |none=>none
  | .p (.st u es),.p (.int _ (.ofNat i))=>match ir P T,(jF P u)[i]?,es[i]? with
   |some (u',n),some F,some g=>bif cy u' u&&(cx (i+1) n&&sE (kindOf P F) (aL g))then some {v:=.p g}else none
   |_,_,_=>none
  |_,_=>none
 | .makeFunc (.func f) fi ca=>bif ag f then match fO H (fi.toList.map ρ),fO H (ca.toList.map ρ)with
   |some (a,[],[]),some (b,aq,aM)=>some {v:=.p (.func f a b),aq,aM}
   |_,_=>none
  else match eO (fi.toList.map ρ),eO (ca.toList.map ρ)with
   |some a,some b=>some {v:=.p (.func f a b)}
   |_,_=>some {v:=.func f (fi.toList.map ρ) (ca.toList.map ρ)}
 | .makeSlice T l c=>match cH P T,cz P (er P T),ρ l,ρ c with
  |some sz,some z,.p (.int .i64 (.ofNat l)),.p (.int .i64 (.ofNat c))=>bif cy (bF P (aL z)) sz&&(cy l c&&cx l cN)then
   some {v:=.sl H.length 0 sz 0 l,aX:=[.arr .exact 0 sz (bI l (.p z))]}else none
  |_,_,_,_=>none
 | .slice T x lo hi d=>match d with
  |none=>DV P T H (ρ x) (lo.map ρ) (hi.map ρ) none
  |some m=>Dh P T H (ρ x) (lo.map ρ) (hi.map ρ) (ρ m)
 | .makeMap _ none=>some {v:=.map H.length,aX:=[.map false []]}
 | .lookup T x i ok=>NC P T H (ρ x) (ρ i) ok
 | .mapUpdate T m k x| .insert T m k x=>Ny P T H (ρ m) (ρ k) (ρ x)
 | .range T x=>match ρ x with
  | .p (.str s)=>bif iN P T then some {v:=.ptr H.length [],aX:=[.dy s 0]}else none
  |_=>none
 | .next it true=>R7 H (ρ it)
 | .nilCheck x=>match ρ x with
  | .ptr _ _| .b8 _ _ _ _ _| .p (.cq _)=>some {v:=ρ x}
  |_=>none
 | .call c=>match c.callee with
  | .builtin b=>Mj P H b c.argTypes (c.args.toList.map ρ)
  |_=>none
 |_=>none
theorem PB{o:Oper}{ρ:ax->AV}{H:an}{e:aZ}{K:aZ->Prop}(h:AY P ag o ρ H=some e)(hk:K e):fH P ag o ρ H K:=by
 unfold AY at h;unfold fH;cases ab:o.op<;>simp only[ab]at h<;>simp only
 case move|assign=>simp only[dk]at h;subst h;exact hk
 case pick c a b=>
  split at h
  ·rename_i t hc;simp only[dk]at h;subst h;simp only[hc];cases t<;>exact hk
  ·simp at h
 case alloc T=>
  split at h
  ·rename_i z G;simp only[ao,dg,dk,ap]at h;obtain⟨⟨d,j⟩,rfl⟩:=h;simp only[G];exact⟨(iW d).1,(iW d).2,j,hk⟩
  ·simp at h
 case box T x=>
  simp only[ao,dg,dk,ap]at h;obtain⟨⟨d,j⟩,rfl⟩:=h;exact⟨(iW d).1,(iW d).2,j,hk⟩
 case build T parts=>
  split at h
  ·rename_i u z ac G
   split at h
   ·rename_i l E;simp only[ao,dg,dk,ap]at h;obtain⟨⟨d,j⟩,rfl⟩:=h;simp only[ac,G,E];exact⟨(iW d).1,Cy j,hk⟩
   ·simp at h
  ·simp at h
 case buildSlice T n parts=>
  split at h
  ·rename_i sz z J G;simp only[ao,dg,dk,ap]at h;obtain⟨⟨d,j,q⟩,rfl⟩:=h;simp only[J,G];exact⟨dx d,cZ j,Cy q,hk⟩
  ·simp at h
 case load T a=>exact YV h hk
 case store T a x=>exact W8 h hk
 case binOp op T x y ae=>
  split at h
  ·rename_i v L;simp only[dk]at h;subst h;exact ZT (K:=fun v=>K {v:=.p v,aq:=dF H (ρ x)}) L hk
  ·simp at h
 case unOp op T x=>
  split at h
  all_goals first
   |(rename_i hx;simp only[dk]at h;subst h;simp only[hx];exact hk)
   |simp at h
 case convert S D x=>
  split at h
  ·rename_i d j q;simp only[dk]at h;subst h;simp only[d,j,q];exact hk
  ·rename_i d j q;simp only[dk]at h;subst h;simp only[d,j,q];exact hk
  ·simp at h
 case extract t i=>
  split at h
  ·rename_i U
   split at h
   ·rename_i L;simp only[dk]at h;subst h;simp only[U,L];exact hk
   ·simp at h
  ·rename_i U
   split at h
   ·rename_i L;simp only[dk]at h;subst h;simp only[U,L];exact hk
   ·simp at h
  ·simp at h
 case fieldAddr T a f=>exact UP h hk
 case indexAddr T x i=>exact U2 h hk
 case field T x f=>
  split at h
  ·rename_i d j q
   split at h
   ·rename_i s w;simp only[ao,dg,dk,ap]at h;obtain⟨⟨B,C⟩,rfl⟩:=h;simp only[d,j,q,s,w];exact⟨(iW B).1,(iW C).1,hk⟩
   ·simp at h
  ·simp at h
 case index T x i=>
  split at h
  ·rename_i d j
   split at h
   ·rename_i c hc;simp only[ao,dg,dk]at h;obtain⟨q,rfl⟩:=h;obtain⟨hi,rfl⟩:=bl.1 hc;simp only[d,j];exact⟨q,a9 _,hi,hk⟩
   ·simp at h
  ·rename_i u W aj i d j
   split at h
   ·rename_i u' n F g q s w;simp only[ao,dg,dk,ap]at h;obtain⟨⟨g1,g2,g3⟩,rfl⟩:=h;have e:(Int.ofNat i).toNat=i:=rfl;simp only[d,j,e,q,s,w];exact⟨dx g1,a9 _,cZ g2,(iW g3).1,hk⟩
   ·simp at h
  ·simp at h
 case makeFunc fn fi ca=>
  cases fn<;>simp only at h<;>try (simp at h;done)
  rename_i f;simp only;simp only[ao]at h
  split at h
  ·rename_i hf;rw[if_pos hf]
   split at h
   ·rename_i d j;simp only[dk]at h;subst h;simp only[d,j];exact hk
   ·simp at h
  ·rename_i hf;rw[if_neg hf]
   split at h
   ·rename_i d j;simp only[dk]at h;subst h;simp only[d,j];exact hk
   ·rename_i aa;simp only[dk]at h;subst h
    split
    ·rename_i d j;exact(aa _ _ d j).elim
    ·exact hk
 case makeSlice T l c=>
  split at h
  ·rename_i d j q s;simp only[ao,dg,dk,ap]at h;obtain⟨⟨w,B,C⟩,rfl⟩:=h;have e:=dx B;simp only[d,j,q,s];refine⟨dx w,a9 _,by rw[e],?_,hk⟩;have:=cZ C;show((_:Nat):Int)<=_
   exact_mod_cast this
  ·simp at h
 case slice T x lo hi ad=>
  cases ad with
  |none=>exact Xc h hk
  |some m=>exact WN h hk
 case makeMap T r=>
  cases r<;>simp only at h
  ·simp only[dk]at h;subst h;exact hk
  ·simp at h
 case lookup T x i ok=>
  unfold NC at h
  split at h
  case h_2=>simp at h
  rename_i d j
  split at h
  case h_2=>simp at h
  rename_i z G;simp only[ao,dg]at h;obtain⟨q,h⟩:=h;simp only[d,j,G];refine⟨q,?_⟩
  have M:∀r:Option PV,Ah ok z r=match r with
    |some v=>if ok=true then .aE [v,.bool true]else v
    |none=>if ok=true then .aE [z,.bool false]else z:=by
   intro r;cases r<;>cases ok<;>rfl
  split at h
  ·rename_i hx;simp only[dk]at h;subst h;simp only[hx];rw[M]at hk;exact hk
  ·rename_i hx
   split at h
   ·rename_i r R;simp only[dk]at h;subst h;rw[M]at hk;simp only[hx,R];cases r<;>exact hk
   ·simp at h
  ·rename_i hx
   split at h
   ·rename_i A
    split at h
    ·rename_i r R;simp only[dk]at h;subst h;rw[M]at hk;simp only[hx,A,R];cases r<;>exact hk
    ·simp at h
   ·simp at h
  ·simp at h
 case mapUpdate T m k x|insert T m k x=>
  unfold Ny at h
  split at h
  case h_2=>simp at h
  rename_i d j q s;simp only[ao,dg]at h;obtain⟨w,h⟩:=h;simp only[d,j,q,s];refine⟨w,?_⟩
  split at h
  ·rename_i A
   split at h
   ·rename_i E;simp only[dk]at h;subst h;simp only[A,E];exact hk
   ·simp at h
  ·simp at h
 case range T x=>
  split at h
  ·rename_i hx;simp only[ao,dg,dk]at h;obtain⟨d,rfl⟩:=h;simp only[hx];exact⟨d,hk⟩
  ·simp at h
 case next it isStr=>
  cases isStr<;>simp only at h
  ·simp at h
  unfold R7 at h
  split at h
  ·rename_i hx
   split at h
   ·rename_i A;simp only[hx,A];simp only[ao]at h
    split at h
    ·rename_i Q;simp only[dk]at h;subst h;rw[if_pos (by have:=cZ Q;omega)];exact hk
    ·rename_i Q;simp only[dk]at h;subst h;rw[if_neg (fun Z=>Q (c6 (Nat.succ_le_of_lt Z)))];exact hk
   ·simp at h
  ·simp at h
 case nilCheck x=>
  split at h
  all_goals first
   |(rename_i hx;simp only[dk]at h;subst h;simp only[hx]at hk⊢;exact hk)
   |simp at h
 case call c=>
  split at h
  case h_2=>simp at h
  rename_i b hc;simp only[hc];generalize c.args.toList.map ρ=args at*;generalize c.argTypes=af at*;unfold Mj at h
  split at h
  ·split at h
   ·rename_i E;simp only[ao,dg,dk,ap]at h;obtain⟨⟨d,j⟩,rfl⟩:=h;simp only[E];exact⟨d,cZ j,hk⟩
   ·simp at h
  ·simp only[ao,dg]at h;exact⟨dx h.1,are h.2 hk⟩
  ·split at h
   ·rename_i O;simp only[dk]at h;subst h;simp only[O];exact hk
   ·simp at h
  ·split at h
   ·rename_i O;simp only[dk]at h;subst h;simp only[O];exact hk
   ·simp at h
  ·split at h
   ·rename_i J Y;simp only[ao,dg,ap]at h;obtain⟨⟨d,j,q⟩,h⟩:=h;simp only[J,Y];refine⟨dx d,ua j,dx q,?_⟩
    split at h
    ·rename_i A;simp only[dg,dk]at h;obtain⟨⟨s,w,B,C,I⟩,rfl⟩:=h;simp only[A];exact⟨dx s,dx w,D3 B,cZ C,wK I,hk⟩
    ·simp at h
   ·simp at h
  ·split at h
   ·rename_i E;simp only[ao,dg,dk,ap]at h;obtain⟨⟨d,j⟩,rfl⟩:=h;simp only[E];exact⟨d,cZ j,hk⟩
   ·simp at h
  ·split at h
   ·simp only[ao,dg,dk,ap]at h;obtain⟨⟨d,j⟩,rfl⟩:=h;exact⟨d,cZ j,hk⟩
   ·split at h
    ·rename_i J G A;simp only[ao,dg,dk,ap]at h;obtain⟨⟨d,j,q,s,w,B,C,I,N⟩,rfl⟩:=h;simp only[J,G,A];exact⟨dx d,dx j,dx q,dx s,D3 w,cZ B,wK C,cZ I,cZ N,hk⟩
    ·simp at h
   ·simp at h
  ·split at h
   ·simp only[dk]at h;subst h;exact hk
   ·split at h
    ·rename_i A;simp only[ao,dg,ap]at h;obtain⟨⟨d,j⟩,h⟩:=h;simp only[A];refine⟨dx d,dx j,?_⟩
     split at h
     ·simp only[dg,dk]at h;obtain⟨⟨s,w⟩,rfl⟩:=h;exact .inr ⟨cZ s,cZ w,hk⟩
     ·rename_i V;simp only[dk]at h;subst h;rename_i k _ _ W _ _;refine .inl ⟨?_,?_,hk⟩<;>(unfold o6 at V;split at V<;>simp_all)
    ·simp at h
   ·simp at h
  ·split at h
   ·simp only[ao,dg,dk,ap]at h;obtain⟨⟨d,j⟩,rfl⟩:=h;exact⟨by rw[dx d];rfl,dx j,hk⟩
   ·split at h
    ·rename_i A;simp only[ao,dg,ap]at h;obtain⟨⟨d,j,q,s,w,B,C,I,N,X⟩,h⟩:=h;have ah:=cZ w;have ai:=cZ C;simp only[A];refine⟨dx d,dx j,dx q,dx s,by simp;omega,by simpa using cZ B,by simp;omega,dx I,xc N,dx X,?_⟩;simp only[bb,be]
     split at h
     ·rename_i E;simp only[dk]at h;subst h;simp only[E];exact hk
     ·simp at h
    ·simp at h
   ·simp at h
  ·simp at h
 all_goals simp at h
end
end Go.ah
namespace Go.ah
variable[Gl]
section
variable(σ:Nat->Nat)
mutual
def cJ:AV->AV
 | .p v=>.p v
 | .ptr b path=>.ptr (σ b) path
 | .b8 b aC aj i path=>.b8 (σ b) aC aj i path
 | .sl b aC aj off len=>.sl (σ b) aC aj off len
 | .map b=>.map (σ b)
 | .func f fi ca=>.func f (cU fi) (cU ca)
 | .st u fs=>.st u (cU fs)
 | .aE vs=>.aE (cU vs)
def cU:List AV->List AV
 |[]=>[]
 |v::vs=>cJ v::cU vs
end
def uf:Env->Env
 |[]=>[]
 |(x,v)::r=>(x,cJ σ v)::uf r
def dd:Obj->Obj
 | .box fz t=>.box fz (cJ σ t)
 | .arr k aC aj es=>.arr k aC aj (cU σ es)
 | .loop L=>.loop {L with env:=uf σ L.env}
 |o=>o
end
section
variable{σ:Nat->Nat}
theorem Dc:∀(e:Env)(x:Nat),aS (uf σ e) x=cJ σ (aS e x)
 |[],_=>rfl
 |(y,v)::r,x=>by
  simp only[uf,aS]
  split
  ·rfl
  ·exact Dc r x
theorem s8:∀l:List AV,(cU σ l).length=l.length
 |[]=>rfl
 |_::r=>by simp[cU,s8 r]
theorem Y8{l:List AV}:cU σ l=[]↔l=[]:=by cases l<;>simp[cU]
theorem ov{k:AK}{a:List AV}:di k (cU σ a)↔di k a:=by simp[di,Y8]
theorem Of{v:AV}:(cJ σ v).sG↔v.sG:=by cases v<;>simp[cJ,AV.sG]
theorem Ya{v:AV}:aa (cJ σ v)=aa v:=by cases v<;>rfl
theorem MT:∀{l:List AV},(∀e∈cU σ l,e.sG)↔∀e∈l,e.sG
 |[]=>by simp[cU]
 |v::r=>by simp[cU,Of,MT (l:=r)]
theorem ri{o:Obj}:(dd σ o).live↔o.live:=by cases o<;>simp[dd,Obj.live,ov]
theorem Om{o:Obj}{v:Nat}:(dd σ o).has v↔o.has v:=by cases o<;>simp[dd,Obj.has]
theorem Yz{o:Obj}:dd σ o=.hole↔o=.hole:=by cases o<;>simp[dd]
mutual
theorem CT{S:Nat×Nat->Prop}:∀(v:AV),aG S (cJ σ v)↔aG (fun x=>S (σ x.1,x.2)) v
 | .p _=>by simp[cJ,aG]
 | .ptr _ _| .b8 _ _ _ _ _| .sl _ _ _ _ _| .map _=>by simp[cJ,aG]
 | .func _ fi ca=>by simp only[cJ,aG];rw[tz fi,tz ca]
 | .st _ fs=>by simp only[cJ,aG];exact tz fs
 | .aE vs=>by simp only[cJ,aG];exact tz vs
theorem tz{S:Nat×Nat->Prop}:∀(l:List AV),ba S (cU σ l)↔ba (fun x=>S (σ x.1,x.2)) l
 |[]=>by simp[cU,ba]
 |v::r=>by simp only[cU,ba];rw[CT v,tz r]
end
theorem Xw{S:Nat×Nat->Prop}{o:Obj}:(dd σ o).refs S↔o.refs (fun x=>S (σ x.1,x.2)):=by
 cases o<;>simp only[dd,Obj.refs,CT,tz,Dc]
theorem Obj.refs.mono{S T:Nat×Nat->Prop}(h:∀x,S x->T x){o:Obj}(a:o.refs S):o.refs T:=by
 cases o with
 |box fz t=>exact aG.mono h _ a
 |arr k aC aj es=>exact ba.mono h _ a
 |loop L=>exact fun x=>aG.mono h _ (a x)
 |_=>trivial
structure dS(σ:Nat->Nat)(dR:Bd)(H0:an)(β:Bd)(H:an):Prop where
 obj:∀(b:Nat)(o:Obj),H0[b]?=some o->H[σ b]?=some (dd σ o)
 au:∀b,b<H0.length->β.au (σ b)=dR.au b/\β.cap (σ b)=dR.cap b
section
variable{P:a3}{w:a8}{ad:Nat->Prop}{dR β:Bd}{H0 H:an}
theorem dS.box(h:dS σ dR H0 β H){b:Nat}(a:b<H0.length):nh H (σ b)↔nh H0 b:=by
 have c:=h.obj b _ (bi a);have d:=bi a;unfold nh;rw[c,d];cases H0[b]<;>simp[dd]
theorem dS.it(h:dS σ dR H0 β H){b:Nat}(a:b<H0.length):nq H (σ b)↔nq H0 b:=by
 have c:=h.obj b _ (bi a);have d:=bi a;unfold nq;rw[c,d];cases H0[b]<;>simp[dd]
theorem dS.map(h:dS σ dR H0 β H){b:Nat}(a:b<H0.length):ng H (σ b)↔ng H0 b:=by
 have h1:=h.obj b _ (bi a);have c:=bi a;unfold ng;rw[h1,c];cases H0[b]<;>simp[dd]
theorem dS.loop(h:dS σ dR H0 β H){b:Nat}(a:b<H0.length):gZ H (σ b)↔gZ H0 b:=by
 have c:=h.obj b _ (bi a);have d:=bi a;unfold gZ;rw[c,d];cases H0[b]<;>simp[dd]
theorem dS.arr(h:dS σ dR H0 β H){b aC aj:Nat}{k:AK}{es:List AV}(a:b<H0.length):fq H (σ b) aC aj k es↔∃gO,fq H0 b aC aj k gO/\es=cU σ gO:=by
 have c:=h.obj b _ (bi a);have d:=bi a;unfold fq;rw[c,d];cases H0[b]<;>simp[dd];constructor
 ·rintro⟨rfl,rfl,rfl,rfl⟩;exact⟨_,⟨rfl,rfl,rfl,rfl⟩,rfl⟩
 ·rintro⟨_,⟨rfl,rfl,rfl,rfl⟩,rfl⟩;exact⟨rfl,rfl,rfl,rfl⟩
theorem dS.EH(h:dS σ dR H0 β H){x:Nat×Nat}(a:x.1<H0.length):aJ H (σ x.1,x.2)↔aJ H0 x:=by
 have b:=h.obj x.1 _ (bi a);have c:=bi a;unfold aJ;rw[b,c];simp[Om]
def Small(n:Nat):Nat×Nat->Prop:=fun x=>x.1<n
theorem dS.qz(h:dS σ dR H0 β H):∀{a:AV}{v:a5},aG (Small H0.length) a->(bU P β H (cJ σ a) v↔bU P dR H0 a v)
 | .p _,_,_| .func _ _ _,_,_| .st _ _,_,_| .aE _,_,_=>by simp[cJ,bU]
 | .ptr b path,v,c=>by
  simp only[aG,Small]at c;simp only[cJ,bU,h.box c,h.it c,(h.au b c).1]
 | .b8 b aC aj i path,v,c=>by
  simp only[aG,Small]at c;simp only[cJ,bU,h.arr c,(h.au b c).1];constructor
  ·rintro⟨au,off,o,f,g,j⟩;exact⟨au,off,o,f,g,fun k d e m=>j k _ ⟨d,e,rfl⟩ (by rwa [ov])⟩
  ·rintro⟨au,off,o,f,g,j⟩;refine⟨au,off,o,f,g,?_⟩;rintro k _ ⟨d,e,rfl⟩ m;exact j k d e (by rwa [ov]at m)
 | .sl b aC aj off len,v,c=>by
  simp only[aG,Small]at c;simp only[cJ,bU,h.arr c,(h.au b c).1,(h.au b c).2];constructor
  ·intro l k d e;have:=l k _ ⟨d,e,rfl⟩;simpa only[s8,ov]using this
  ·rintro l k _ ⟨d,e,rfl⟩;have:=l k d e;simpa only[s8,ov]using this
 | .map b,v,c=>by
  simp only[aG,Small]at c;simp only[cJ,bU,h.map c,h.loop c,(h.au b c).1]
mutual
theorem dS.OJ(h:dS σ dR H0 β H):∀(a:AV)(cs:List a5),aG (Small H0.length) a->(br P w ad β H (cJ σ a) cs↔br P w ad dR H0 a cs)
 | .p _,_,_=>by simp[cJ,br]
 | .aE _,_,_=>by simp[cJ,br]
 | .st u fs,cs,d=>by
  simp only[aG]at d;simp only[cJ,br];exact exists_congr fun l=>exists_congr fun e=>and_congr_right fun _=>and_congr_left fun _=>dS.Ak h l fs e d
 | .func f fi ca,cs,d=>by
  simp only[aG]at d;simp only[cJ,br];exact exists_congr fun l=>exists_congr fun e=>and_congr (dS.sy h fi l d.1) (and_congr_left fun _=>dS.sy h ca e d.2)
 | .ptr b path,cs,d=>by
  have:=fun v=>h.qz (P:=P) (a:=.ptr b path) (v:=v) d;simp only[cJ,br,bO]at this⊢;simp only[this]
 | .b8 b aC aj i path,cs,d=>by
  have:=fun v=>h.qz (P:=P) (a:=.b8 b aC aj i path) (v:=v) d;simp only[cJ,br,bO]at this⊢;simp only[this]
 | .sl b aC aj off len,cs,d=>by
  have:=fun v=>h.qz (P:=P) (a:=.sl b aC aj off len) (v:=v) d;simp only[cJ,br,bO]at this⊢;simp only[this]
 | .map b,cs,d=>by
  have:=fun v=>h.qz (P:=P) (a:=.map b) (v:=v) d;simp only[cJ,br,bO]at this⊢;simp only[this]
theorem dS.Ak(h:dS σ dR H0 β H):∀(g:List Nat)(l:List AV)(e:List (List a5)),ba (Small H0.length) l->(bM P w ad β H g (cU σ l) e↔bM P w ad dR H0 g l e)
 |[],[],e,_=>by simp[cU,bM]
 |[],_::_,e,_=>by simp[cU,bM]
 |_::_,[],e,_=>by simp[cU,bM]
 |n::g,v::vs,e,d=>by
  simp only[ba]at d;simp only[cU,bM];exact exists_congr fun c=>exists_congr fun cs=>and_congr_right fun _=>and_congr (dS.OJ h v c d.1) (and_congr_right fun _=>dS.Ak h g vs cs d.2)
theorem dS.El(h:dS σ dR H0 β H):∀(a:AV)(v:a5),aG (Small H0.length) a->(aD P w ad β H (cJ σ a) v↔aD P w ad dR H0 a v)
 | .p _,_,_=>by simp[cJ,aD]
 | .aE vs,_,d=>by
  simp only[aG]at d;simp only[cJ,aD];exact exists_congr fun l=>and_congr_left fun _=>dS.sy h vs l d
 | .st u fs,cs,d=>by
  simp only[aG]at d;simp only[cJ,aD];exact exists_congr fun l=>exists_congr fun e=>and_congr_right fun _=>and_congr_left fun _=>dS.Ak h l fs e d
 | .func f fi ca,cs,d=>by
  simp only[aG]at d;simp only[cJ,aD];exact exists_congr fun l=>exists_congr fun e=>and_congr (dS.sy h fi l d.1) (and_congr_left fun _=>dS.sy h ca e d.2)
 | .ptr b path,v,d=>by
  have:=h.qz (P:=P) (a:=.ptr b path) (v:=v) d;simp only[cJ,aD,bO]at this⊢;simp only[this]
 | .b8 b aC aj i path,v,d=>by
  have:=h.qz (P:=P) (a:=.b8 b aC aj i path) (v:=v) d;simp only[cJ,aD,bO]at this⊢;simp only[this]
 | .sl b aC aj off len,v,d=>by
  have:=h.qz (P:=P) (a:=.sl b aC aj off len) (v:=v) d;simp only[cJ,aD,bO]at this⊢;simp only[this]
 | .map b,v,d=>by
  have:=h.qz (P:=P) (a:=.map b) (v:=v) d;simp only[cJ,aD,bO]at this⊢;simp only[this]
theorem dS.sy(h:dS σ dR H0 β H):∀(l:List AV)(vs:List a5),ba (Small H0.length) l->(bJ P w ad β H (cU σ l) vs↔bJ P w ad dR H0 l vs)
 |[],vs,_=>by simp[cU,bJ]
 |a::l,vs,d=>by
  simp only[ba]at d;simp only[cU,bJ];exact exists_congr fun y=>exists_congr fun j=>and_congr_right fun _=>and_congr (dS.El h a y d.1) (dS.sy h l j d.2)
end
theorem dS.Sd(h:dS σ dR H0 β H){ai Prot0:Nat->Prop}{b:Nat}{o:Obj}(f:H0[b]?=some o)(e:o.refs (Small H0.length))(a:o.live->∀fz,cK ad dR Prot0 fz b↔cK ad β ai fz (σ b)):
 fo P w ad β H ai (σ b) (dd σ o)↔fo P w ad dR H0 Prot0 b o:=by
 have g:b<H0.length:=(bl.1 f).1;obtain⟨k1,k2⟩:=h.au b g;cases o with
 |hole=>simp[dd,fo]
 |dead=>simp[dd,fo]
 |box fz t=>
  simp only[dd,fo,k1,<-a trivial,h.OJ t _ e,Of,Ya]
 |arr k aC aj es=>
  simp only[dd,fo,k1,k2,ov,s8,MT]
  by_cases c:di k es
  ·simp[c]
  ·simp only[c,false_or,<-a c,h.Ak _ es _ e]
 |map fz es=>
  simp only[dd,fo,k1,<-a trivial]
 |dy s pos=>
  simp only[dd,fo,k1,<-a trivial]
 |loop L=>
  simp only[dd,fo,k1,<-a trivial,Dc];exact exists_congr fun t=>exists_congr fun d=>exists_congr fun fn=>and_congr_right fun _=>and_congr_right fun _=>and_congr_left fun _=>forall_congr' fun x=>h.El _ _ (e x)
end
end
end Go.ah
namespace Go.ah
variable[Gl]
def sig(bs:List Nat)(a i:Nat):Nat:=match bs[i]? with
 |some b=>b
 |none=>a+(i-bs.length)
theorem tN{bs:List Nat}{a i:Nat}(h:i<bs.length):sig bs a i=bs[i]:=by simp[sig,h]
theorem tO{bs:List Nat}{a i:Nat}(h:bs.length<=i):sig bs a i=a+(i-bs.length):=by simp[sig,h]
theorem aKL{bs:List Nat}{a:Nat}(e:bs.Nodup)(d:∀b∈bs,b<a){i j:Nat}(h:sig bs a i=sig bs a j):i=j:=by
 by_cases hi:i<bs.length<;>by_cases c:j<bs.length
 ·rw[tN hi,tN c]at h;exact(List.getElem_inj e).1 h
 ·rw[tN hi,tO (by omega)]at h;have:=d _ (cc hi);omega
 ·rw[tO (by omega),tN c]at h;have:=d _ (cc c);omega
 ·rw[tO (by omega),tO (by omega)]at h;omega
theorem rz:∀{l:List (Nat×Obj)}{H:an}{x:Nat},(∀p∈l,p.1≠x)->(bf H l)[x]?=H[x]?
 |[],_,_,_=>rfl
 |(b,o)::r,H,x,h=>by
  simp only[bf];rw[rz (fun p a=>h p (by simp[a])),List.getElem?_set_ne (h (b,o) (by simp))]
theorem ub:∀{l:List (Nat×Obj)}{H:an},(l.map (·.1)).Nodup->∀p∈l,p.1<H.length->(bf H l)[p.1]?=some p.2
 |[],_,_,_,h,_=>by simp at h
 |(b,o)::r,H,a,p,c,d=>by
  simp only[ch,ce]at a;simp only[bf];rcases bo.1 c with rfl|c
  ·rw[rz (fun q hq e=>a.1 (b3.2 ⟨q,hq,e⟩)),List.getElem?_set_self d]
  ·exact ub a.2 p c (by simpa using d)
theorem CA(a:Nat):∀(l:List Obj),(newAt a l).map (·.1)=List.range' a l.length
 |[]=>rfl
 |o::r=>by simp[newAt,CA (a+1) r,List.range'_succ]
theorem KS:∀(l:List Obj)(a j:Nat)(h:j<l.length),(a+j,l[j])∈newAt a l
 |[],_,_,h=>by simp at h
 |o::r,a,0,h=>by simp[newAt]
 |o::r,a,j+1,h=>by
  have:=KS r (a+1) j (by simpa using h);simp only[newAt,List.getElem_cons_succ,bo];right;have e:a+(j+1)=a+1+j:=by omega
  rw[e];exact this
section
variable{P:a3}{w w':a8}{ad aH ai:Nat->Prop}{β aK:Bd}{H H':an}
theorem fo.mut{b:Nat}{o:Obj}(h:fo P w ad β H ai b o)(f:o.live)(j:¬ad (β.au b)):¬ai (β.au b):=by
 have held:∀{fz},cK ad β ai fz b->¬ai (β.au b):=by
  intro fz g;cases fz with
  |true=>exact(j (by simpa[cK]using g)).elim
  |false=>
   have:¬ad (β.au b)/\¬ai (β.au b):=by simpa[cK]using g
   exact this.2
 cases o with
 |hole=>exact f.elim
 |dead=>exact f.elim
 |box fz t=>
  obtain⟨cs,T,c,d,a,e⟩:=h;exact held a
 |arr k aC aj es=>
  rcases h with h|⟨cs,T,l,rest,c,d,a,e,n,p,i,q⟩
  ·exact(f h).elim
  ·exact held i
 |map fz es=>
  obtain⟨m,clock,c,d,a⟩:=h;exact held a
 |dy s pos=>
  obtain⟨bs,c,d,a⟩:=h;exact held a
 |loop L=>
  obtain⟨tmps,defers,fn,c,d,a,e⟩:=h;exact held e
theorem fo.carry(hi:∀k,ad k->aH k)(hs:∀k,ad k->w'.heap[k]?=w.heap[k]?)(aO:cC β H aK H'){b:Nat}{o:Obj}(l:o.refs (aJ H))
 (i:o.live->w'.heap[β.au b]?=w.heap[β.au b]?/\aK.au b=β.au b/\aK.cap b=β.cap b)(held:o.live->∀fz,cK ad β ai fz b->cK aH aK ai fz b)(h:fo P w ad β H ai b o):fo P w' aH aK H' ai b o:=by
 cases o with
 |hole=>trivial
 |dead=>trivial
 |box fz t=>
  obtain⟨cs,T,c,d,e,g⟩:=h;obtain⟨b1,a,f⟩:=i trivial;exact⟨cs,T,by rw[a,b1];exact c,br.mono hi hs aO _ _ l d,held trivial _ e,g⟩
 |arr k aC aj es=>
  rcases h with h|⟨cs,T,m,rest,c,d,e,g,p,q,r,u⟩
  ·exact .inl h
  ·by_cases j:di k es
   ·exact .inl j
   ·obtain⟨b1,a,f⟩:=i j;exact .inr ⟨cs,T,m,rest,by rw[a,b1];exact c,bM.mono hi hs aO _ _ _ l d,e,by rw[f];exact g,by rw[f];exact p,by rw[f];exact q,held j _ r,u⟩
 |map fz es=>
  obtain⟨n,clock,c,d,e⟩:=h;obtain⟨b1,a,f⟩:=i trivial;exact⟨n,clock,by rw[a,b1];exact c,cL.mono hi hs _ _ d,held trivial _ e⟩
 |dy s pos=>
  obtain⟨bs,c,d,e⟩:=h;obtain⟨b1,a,f⟩:=i trivial;exact⟨bs,by rw[a,b1];exact c,d,held trivial _ e⟩
 |loop L=>
  obtain⟨tmps,defers,fn,c,d,e,g⟩:=h;obtain⟨b1,a,f⟩:=i trivial;exact⟨tmps,defers,fn,by rw[a,b1];exact c,d,fun x=>aD.mono hi hs aO _ _ (l x) (e x),held trivial _ g⟩
def dB(bs:List Nat)(a:Nat)(H0 bW:an)(b:AV):aZ:=
 {v:=cJ (sig bs a) b,aq:=bs.zip (H0.map (dd (sig bs a))),aM:=bs.zip ((bW.take H0.length).map (dd (sig bs a))),aX:=(bW.drop H0.length).map (dd (sig bs a))}
open Classical in
theorem Kv{H0 bW:an}{fR:List AV}{v0:AV}(bs:List Nat)(base:Nat)(hlen:bs.length=H0.length)(hnd:bs.Nodup)(hlt:∀b∈bs,b<base)
 (hl:H0.length<=bW.length)(ha:ba (aJ H0) fR)(ho:∀(b:Nat)(o:Obj),H0[b]?=some o->o.refs (aJ H0))
 {H:an}{w:a8}{ad ai:Nat->Prop}{β:Bd}{cargs:List a5}(hr:bX P w ad β H ai)(hargs:bJ P w ad β H (cU (sig bs base) fR) cargs)
 (aq:∀p∈(dB bs base H0 bW v0).aq,H[p.1]?=some p.2)(aX:∀i,i<(dB bs base H0 bW v0).aX.length->H[base+i]?=some .hole):
 ∃(dR:Bd)(Prot0:Nat->Prop),(∀b,dR.au b=β.au (sig bs base b))/\bX P w ad dR H0 Prot0/\bJ P w ad dR H0 fR cargs/\(∀b,b<H0.length->(gZ H (sig bs base b)↔gZ H0 b))/\
  ∀(cv:a5)(w':a8)(β0':Bd)(aH:Nat->Prop),b6 P Prot0 ad w dR H0 aH w' β0' bW->aD P w' aH β0' bW v0 cv->aG (aJ bW) v0->
   ∃aK,b6 P ai ad w β H aH w' aK (bf H ((dB bs base H0 bW v0).aM++newAt base (dB bs base H0 bW v0).aX))/\
    aD P w' aH aK (bf H ((dB bs base H0 bW v0).aM++newAt base (dB bs base H0 bW v0).aX)) (dB bs base H0 bW v0).v cv/\
    aG (aJ (bf H ((dB bs base H0 bW v0).aM++newAt base (dB bs base H0 bW v0).aX))) (dB bs base H0 bW v0).v:=by
 obtain⟨σ,hσ⟩:∃σ,σ=sig bs base:=⟨_,rfl⟩
 have hinj:∀{i j},σ i=σ j->i=j:=fun{i j} h=>aKL hnd hlt (by rw[hσ]at h;exact h);have hold:∀{i}(hi:i<H0.length),σ i=bs[i]'(by omega):=fun hi=>by rw[hσ];exact tN _
 have hnw:∀{i},H0.length<=i->σ i=base+(i-H0.length):=fun hi=>by rw[hσ,tO (by omega),hlen]
 have hget:∀(b:Nat)(o:Obj),H0[b]?=some o->H[σ b]?=some (dd σ o):=by
  intro b o hb;obtain⟨hbl,rfl⟩:=bl.1 hb;have:=aq (bs[b]'(by omega),dd (sig bs base) H0[b]) (by
   simp only[dB];rw[bp];exact⟨b,by simp;omega,by simp⟩)
  rw[hold hbl,hσ];exact this
 have hnewH:∀i,H0.length<=i->i<bW.length->H[σ i]?=some .hole:=by
  intro i h1 h2;rw[hnw h1];exact aX (i-H0.length) (by simp[dB];omega)
 obtain⟨H2,hH2⟩:∃H2,H2=bf H ((dB bs base H0 bW v0).aM++newAt base (dB bs base H0 bW v0).aX):=⟨_,rfl⟩
 have hkeys:∀p∈(dB bs base H0 bW v0).aM++newAt base (dB bs base H0 bW v0).aX,∃i,i<bW.length/\p.1=σ i:=by
  intro p hp;rcases List.mem_append.1 hp with hp|hp
  ·simp only[dB]at hp;have hm:=(b2 hp).1;obtain⟨i,hi,he⟩:=bp.1 hm;exact⟨i,by omega,by rw[hold (by omega)];exact he.symm⟩
  ·have hm:p.1∈(newAt base (dB bs base H0 bW v0).aX).map (·.1):=List.mem_map_of_mem hp
   rw[CA,cb]at hm;simp only[dB,List.length_map,List.length_drop]at hm;exact⟨H0.length+(p.1-base),by omega,by rw[hnw (by omega)];omega⟩
 have hndk:(((dB bs base H0 bW v0).aM++newAt base (dB bs base H0 bW v0).aX).map (·.1)).Nodup:=by
  rw[List.map_append,CA];have e:(dB bs base H0 bW v0).aM.map (·.1)=bs:=by
   simp only[dB];rw[List.map_fst_zip];simp;omega
  rw[e,List.nodup_append];refine⟨hnd,List.nodup_range',fun a h1 b h2 he=>?_⟩;subst he;have:=hlt _ h1;rw[cb]at h2;omega
 have hA:∀(i:Nat)(o:Obj),bW[i]?=some o->H2[σ i]?=some (dd σ o):=by
  intro i o hi;obtain⟨hil,rfl⟩:=bl.1 hi
  by_cases hi0:i<H0.length
  ·have hm:(bs[i]'(by omega),dd (sig bs base) bW[i])∈(dB bs base H0 bW v0).aM++newAt base (dB bs base H0 bW v0).aX:=by
    refine List.mem_append_left _ ?_;simp only[dB];rw[bp];exact⟨i,by simp;omega,by simp⟩
   have:=ub (H:=H) hndk _ hm (by
    have:=hget i _ (bi hi0);rw[hold hi0]at this;exact(bl.1 this).1)
   rw[hH2,hold hi0,this,hσ]
  ·have hm:(base+(i-H0.length),dd (sig bs base) bW[i])∈(dB bs base H0 bW v0).aM++newAt base (dB bs base H0 bW v0).aX:=by
    refine List.mem_append_right _ ?_;have:=KS (dB bs base H0 bW v0).aX base (i-H0.length) (by simp[dB];omega);have e:(dB bs base H0 bW v0).aX[i-H0.length]'(by simp[dB];omega)=dd (sig bs base) bW[i]:=by
     simp only[dB,List.getElem_map,List.getElem_drop];congr 2;omega
    rw[e]at this;exact this
   have:=ub (H:=H) hndk _ hm (by
    have:=hnewH i (by omega) hil;rw[hnw (by omega)]at this;exact(bl.1 this).1)
   rw[hH2,hnw (by omega),this,hσ]
 have hB:∀x,(∀i,i<bW.length->σ i≠x)->H2[x]?=H[x]?:=by
  intro x hx;rw[hH2];refine rz fun p hp=>?_;obtain⟨i,h1,h2⟩:=hkeys p hp;rw[h2];exact hx i h1
 let dR:Bd:=⟨fun b=>β.au (σ b),fun b=>β.cap (σ b)⟩
 let Prot0:Nat->Prop:=fun k=>ai k\/∃x o,H[x]?=some o/\o.live/\(∀i,i<H0.length->σ i≠x)/\β.au x=k
 have hemb:dS σ dR H0 β H:=⟨hget,fun b _=>⟨rfl,rfl⟩⟩
 have small:∀x:Nat×Nat,aJ H0 x->Small H0.length x:=fun x⟨o,ho,_⟩=>(bl.1 ho).1;have held0:∀{b:Nat}{o:Obj},H0[b]?=some o->o.live->∀fz,cK ad dR Prot0 fz b↔cK ad β ai fz (σ b):=by
  intro b o hb hlv fz;cases fz with
  |true=>simp[cK,dR]
  |false=>
   simp only[cK,av,if_false];refine and_congr_right fun hni=>⟨fun h hp=>h (.inl hp),fun h hp=>?_⟩
   rcases hp with hp|⟨x,o',h1,h2,h3,h4⟩
   ·exact h hp
   ·exact h3 b (bl.1 hb).1 (hr.inj _ _ _ _ (hget b o hb) h1 (ri.2 hlv) h2 hni h4.symm)
 have hr0:bX P w ad dR H0 Prot0:=by
  refine⟨fun b o hb=>?_,fun b b' o o' h1 h2 l1 l2 hni he=>?_,ho,hr.bS,fun k hk=>?_,hr.iJ⟩
  ·exact(hemb.Sd hb ((ho b o hb).mono small) (held0 hb)).1 (hr.cO _ _ (hget b o hb))
  ·exact hinj (hr.inj _ _ _ _ (hget b o h1) (hget b' o' h2) (ri.2 l1) (ri.2 l2) hni he)
  ·rcases hk with hk|⟨x,o,h1,h2,_,rfl⟩
   ·exact hr.eh k hk
   ·exact hr.mY h1 h2
 have hargs0:bJ P w ad dR H0 fR cargs:=by
  rw[<-hσ]at hargs;exact(hemb.sy _ _ (ba.mono small _ ha)).1 hargs
 refine⟨dR,Prot0,fun b=>by rw[<-hσ],hr0,hargs0,fun b hb=>by rw[<-hσ];exact hemb.loop hb,fun cv w' β0' aH hp hv hvr=>?_⟩
 let aK:Bd:=⟨fun x=>if h:∃i,i<bW.length/\σ i=x then β0'.au h.choose else β.au x,fun x=>if h:∃i,i<bW.length/\σ i=x then β0'.cap h.choose else β.cap x⟩
 have hβ:∀i,i<bW.length->aK.au (σ i)=β0'.au i/\aK.cap (σ i)=β0'.cap i:=by
  intro i hi;have hex:∃j,j<bW.length/\σ j=σ i:=⟨i,hi,rfl⟩
  have hc:hex.choose=i:=hinj hex.choose_spec.2;simp only[aK,dif_pos hex,hc,and_self]
 have hβn:∀x,(∀i,i<bW.length->σ i≠x)->aK.au x=β.au x/\aK.cap x=β.cap x:=by
  intro x hx;have hnex:¬∃i,i<bW.length/\σ i=x:=fun⟨i,h1,h2⟩=>hx i h1 h2;simp only[aK,dif_neg hnex,and_self]
 have hemb':dS σ β0' bW aK H2:=⟨hA,fun b hb=>hβ b hb⟩
 have small':∀x:Nat×Nat,aJ bW x->Small bW.length x:=fun x⟨o,ho,_⟩=>(bl.1 ho).1;have split:∀x,(∃i,i<bW.length/\σ i=x)\/∀i,i<bW.length->σ i≠x:=by
  intro x
  by_cases hx:∃i,i<bW.length/\σ i=x
  ·exact .inl hx
  ·exact .inr fun i h1 h2=>hx ⟨i,h1,h2⟩
 have inOld:∀{i v},i<bW.length->aJ H (σ i,v)->aJ H0 (i,v)/\i<H0.length:=by
  intro i v hi ⟨o,h1,h2⟩
  by_cases hi0:i<H0.length
  ·refine⟨?_,hi0⟩;have:=hget i _ (bi hi0);simp only at h1;rw[this]at h1;cases h1;exact⟨_,bi hi0,Om.1 h2⟩
  ·have:=hnewH i (by omega) hi;simp only at h1;rw[this]at h1;cases h1;exact h2.elim
 have ij:cC β H aK H2:=by
  refine⟨?_,?_,?_,?_,?_⟩
  ·intro b hb hlv;rcases split b with⟨i,hi,rfl⟩|hx
   ·obtain⟨k1,k2⟩:=inOld hi hb;obtain⟨g1,g2⟩:=hp.step.box i k1 ((hemb'.box hi).1 hlv);exact⟨(hemb.box k2).2 g1,(hβ i hi).1.trans g2⟩
   ·unfold nh at hlv⊢;rw[hB b hx]at hlv;exact⟨hlv,(hβn b hx).1⟩
  ·intro b hb hlv;rcases split b with⟨i,hi,rfl⟩|hx
   ·obtain⟨k1,k2⟩:=inOld hi hb;obtain⟨g1,g2⟩:=hp.step.it i k1 ((hemb'.it hi).1 hlv);exact⟨(hemb.it k2).2 g1,(hβ i hi).1.trans g2⟩
   ·unfold nq at hlv⊢;rw[hB b hx]at hlv;exact⟨hlv,(hβn b hx).1⟩
  ·intro b hb hlv;rcases split b with⟨i,hi,rfl⟩|hx
   ·obtain⟨k1,k2⟩:=inOld hi hb;obtain⟨g1,g2⟩:=hp.step.map i k1 ((hemb'.map hi).1 hlv);exact⟨(hemb.map k2).2 g1,(hβ i hi).1.trans g2⟩
   ·unfold ng at hlv⊢;rw[hB b hx]at hlv;exact⟨hlv,(hβn b hx).1⟩
  ·intro b aC aj k es hb hlv;rcases split b with⟨i,hi,rfl⟩|hx
   ·obtain⟨k1,k2⟩:=inOld hi hb;obtain⟨gO,g0,rfl⟩:=(hemb'.arr hi).1 hlv;obtain⟨k0,es1,g1,g2,g3,g4⟩:=hp.step.arr i aC aj k gO k1 g0;refine⟨k0,cU σ es1,(hemb.arr k2).2 ⟨_,g1,rfl⟩,by rw[s8,s8];exact g2,by rw[ov,ov];exact g3,fun hn=>?_⟩;rw[ov]at hn;rw[(hβ i hi).1,(hβ i hi).2];exact g4 hn
   ·unfold fq at hlv⊢;rw[hB b hx]at hlv;exact⟨k,es,hlv,Nat.le_refl _,Iff.rfl,fun _=>hβn b hx⟩
  ·intro b hb hlv;rcases split b with⟨i,hi,rfl⟩|hx
   ·obtain⟨k1,k2⟩:=inOld hi hb;obtain⟨g1,g2⟩:=hp.step.loop i k1 ((hemb'.loop hi).1 hlv);exact⟨(hemb.loop k2).2 g1,(hβ i hi).1.trans g2⟩
   ·unfold gZ at hlv⊢;rw[hB b hx]at hlv;exact⟨hlv,(hβn b hx).1⟩
 have hinn:∀x,aJ H x->aJ H2 x:=by
  rintro⟨b,v⟩ hb;rcases split b with⟨i,hi,rfl⟩|hx
  ·obtain⟨k1,_⟩:=inOld hi hb;exact(hemb'.EH (x:=(i,v)) hi).2 (hp.fa _ k1)
  ·obtain⟨o,h1,h2⟩:=hb;exact⟨o,by simp only;rw[hB b hx];exact h1,h2⟩
 have prot0:∀{x:Nat}{o:Obj},(∀i,i<bW.length->σ i≠x)->H[x]?=some o->o.live->Prot0 (β.au x):=by
  intro x o hx h1 h2;exact .inr ⟨x,o,h1,h2,fun i hi=>hx i (by omega),rfl⟩
 have mut':∀{i:Nat}{o:Obj},bW[i]?=some o->o.live->¬aH (β0'.au i)->¬Prot0 (β0'.au i):=by
  intro i o h1 h2 h3;exact(hp.rel.cO i o h1).mut h2 h3
 have hrel:bX P w' aH aK H2 ai:=by
  refine⟨fun x o hx=>?_,fun x x' o o' h1 h2 l1 l2 hni he=>?_,fun x o hx=>?_,hp.rel.bS,fun k hk=>hp.rel.eh k (.inl hk),hp.rel.iJ⟩
  ·rcases split x with⟨i,hi,rfl⟩|hn
   ·have hg:=hA i _ (bi hi);rw[hg]at hx;cases hx;refine(hemb'.Sd (Prot0:=Prot0) (bi hi) ((hp.rel.refs i _ (bi hi)).mono small') (fun hlv fz=>?_)).2 (hp.rel.cO i _ (bi hi));cases fz with
    |true=>simp[cK,(hβ i hi).1]
    |false=>
     simp only[cK,av,if_false,(hβ i hi).1];exact⟨fun h=>⟨h.1,fun hp=>h.2 (.inl hp)⟩,fun h=>⟨h.1,mut' (bi hi) hlv h.1⟩⟩
   ·rw[hB x hn]at hx;refine fo.carry hp.bS (fun k hk=>hp.ext.same k (.inr hk)) ij (hr.refs x o hx) (fun hlv=>⟨hp.ext.same _ (.inl (prot0 hn hx hlv)),hβn x hn⟩) (fun hlv fz hh=>?_) (hr.cO x o hx);have hp0:=prot0 hn hx hlv;cases fz with
    |true=>
     simp only[cK,if_true]at hh⊢;rw[(hβn x hn).1];exact hp.bS _ hh
    |false=>
     simp only[cK,av,if_false]at hh⊢;rw[(hβn x hn).1];exact⟨fun hi=>(hp.fresh _ hi).elim hh.1 (fun h=>h hp0),hh.2⟩
  ·rcases split x with⟨i,hi,rfl⟩|hn<;>rcases split x' with⟨j,hj,rfl⟩|hn'
   ·have g1:=hA i _ (bi hi);have g2:=hA j _ (bi hj);rw[g1]at h1;cases h1;rw[g2]at h2;cases h2;rw[(hβ i hi).1,(hβ j hj).1]at he;rw[(hβ i hi).1]at hni;rw[hp.rel.inj i j _ _ (bi hi) (bi hj) (ri.1 l1) (ri.1 l2) hni he]
   ·have g1:=hA i _ (bi hi);rw[g1]at h1;cases h1;rw[hB x' hn']at h2;rw[(hβ i hi).1,(hβn x' hn').1]at he;rw[(hβ i hi).1]at hni;exact(mut' (bi hi) (ri.1 l1) hni (he▸prot0 hn' h2 l2)).elim
   ·have g2:=hA j _ (bi hj);rw[g2]at h2;cases h2;rw[hB x hn]at h1;rw[(hβ j hj).1,(hβn x hn).1]at he;rw[(hβn x hn).1]at hni;exact(mut' (bi hj) (ri.1 l2) (he▸hni) (he▸prot0 hn h1 l1)).elim
   ·rw[hB x hn]at h1;rw[hB x' hn']at h2;rw[(hβn x hn).1,(hβn x' hn').1]at he;rw[(hβn x hn).1]at hni;exact hr.inj _ _ _ _ h1 h2 l1 l2 (fun hi=>hni (hp.bS _ hi)) he
  ·rcases split x with⟨i,hi,rfl⟩|hn
   ·have hg:=hA i _ (bi hi);rw[hg]at hx;cases hx;rw[Xw];exact(hp.rel.refs i _ (bi hi)).mono (fun y hy=>(hemb'.EH (small' y hy)).2 hy)
   ·rw[hB x hn]at hx;exact(hr.refs x o hx).mono hinn
 refine⟨aK,?_,?_,?_⟩
 ·rw[<-hH2];refine⟨hp.bS,fun k hk=>(hp.fresh k hk).imp id (fun h h'=>h (.inl h')),⟨hp.ext.size,fun k hk=>hp.ext.same k (hk.imp .inl id),hp.ext.io⟩,ij,hrel,hinn,fun b hb=>?_⟩;rcases split b with⟨i,hi,rfl⟩|hx
  ·by_cases hi0:i<H0.length
   ·exact(hemb'.loop hi).2 (hp.loop i ((hemb.loop hi0).1 hb))
   ·obtain⟨L,hL⟩:=hb;rw[hnewH i (by omega) hi]at hL;cases hL
  ·unfold gZ at hb⊢;rw[hB b hx];exact hb
 ·rw[<-hH2];show aD P w' aH aK H2 (cJ (sig bs base) v0) cv;rw[<-hσ];exact(hemb'.El _ _ (aG.mono small' _ hvr)).2 hv
 ·rw[<-hH2];show aG (aJ H2) (cJ (sig bs base) v0);rw[<-hσ,CT];exact aG.mono (fun y hy=>(hemb'.EH (small' y hy)).2 hy) _ hvr
theorem cA.frame{f:aT}{H0 bW:an}{fR:List AV}{g:AV}(h:cA P f H0 fR bW g)(bs:List Nat)(a:Nat)(q:bs.length=H0.length)(s:bs.Nodup)(r:∀b∈bs,b<a)
 (p:H0.length<=bW.length)(d:ba (aJ H0) fR)(t:∀(b:Nat)(o:Obj),H0[b]?=some o->o.refs (aJ H0)):
 sr P f (cU (sig bs a) fR) a (dB bs a H0 bW g):=by
 refine⟨h.1,fun H w ad ai β l v m _ aq aX=>?_⟩;obtain⟨dR,i,-,x,n,-,back⟩:=Kv bs a q s r p d t v m aq aX;refine(h.2 w ad i dR l x n d).mono ?_;rintro e w' ⟨c,A,aH,rfl,u,y,z⟩;obtain⟨aK,b1,j,k⟩:=back c w' A aH u y z;exact⟨c,aK,aH,rfl,b1,j,k⟩
theorem ft.frame{b:Nat}{H0 bW:an}{fR:List AV}{i:AV}(h:ft P b H0 fR bW i)(bs:List Nat)(a:Nat)(v:bs.length=H0.length)(z:bs.Nodup)(y:∀b∈bs,b<a)
 (u:H0.length<=bW.length)(g:ba (aJ H0) fR)(A:∀(b:Nat)(o:Obj),H0[b]?=some o->o.refs (aJ H0)):
 oL P (sig bs a b) (cU (sig bs a) fR) a (dB bs a H0 bW i):=by
 intro H w ad ai β n C q _ aq aX;obtain⟨dR,j,s,D,r,x,back⟩:=Kv bs a v z y u g A C q aq aX;have t:b<H0.length:=by
  obtain⟨L,p⟩:=h.1;exact(bl.1 p).1
 refine⟨(x b t).2 h.1,?_⟩;obtain⟨f,tmps,assign,body,d,e⟩:=h.2 w ad j dR n D r g;rw[s]at d e;refine⟨f,tmps,assign,body,d,fun m G=>?_⟩;obtain⟨c,w',I,aH,g1,B,E,F⟩:=e m G;obtain⟨aK,b1,k,l⟩:=back c w' I aH B E F;exact⟨c,w',aK,aH,g1,b1,k,l⟩
end
end Go.ah
namespace Go.ah
variable[Gl]
def ln(b:Nat):List Nat->Nat->Option Nat
 |[],_=>none
 |x::r,i=>bif cy x b then some i else ln b r (i+1)
theorem MW{b:Nat}:∀{l:List Nat}{i j:Nat},ln b l i=some j->i<=j/\l[j-i]?=some b
 |[],_,_,h=>by simp[ln]at h
 |x::r,i,j,h=>by
  simp only[ln]at h;cases a:cy x b
  ·simp only[a,cond_false]at h;obtain⟨d,c⟩:=MW h;refine⟨by omega,?_⟩;have e:j-i=(j-(i+1))+1:=by omega
   rw[e,List.getElem?_cons_succ];exact c
  ·simp only[a,cond_true,dk]at h;subst h;simp[dx a]
section
variable(bs:List Nat)
mutual
def mA:AV->Option AV
 | .p v=>some (.p v)
 | .ptr b path=>match ln b bs 0 with
  |some i=>some (.ptr i path)
  |none=>none
 | .b8 b aC aj i path=>match ln b bs 0 with
  |some j=>some (.b8 j aC aj i path)
  |none=>none
 | .sl b aC aj off len=>match ln b bs 0 with
  |some j=>some (.sl j aC aj off len)
  |none=>none
 | .map b=>match ln b bs 0 with
  |some j=>some (.map j)
  |none=>none
 | .func f fi ca=>match ni fi,ni ca with
  |some a,some b=>some (.func f a b)
  |_,_=>none
 | .st u fs=>match ni fs with
  |some a=>some (.st u a)
  |none=>none
 | .aE vs=>match ni vs with
  |some a=>some (.aE a)
  |none=>none
def ni:List AV->Option (List AV)
 |[]=>some []
 |v::r=>match mA v,ni r with
  |some a,some b=>some (a::b)
  |_,_=>none
end
def DQ:Obj->Option Obj
 | .box fz t=>match mA bs t with
  |some a=>some (.box fz a)
  |none=>none
 | .arr k aC aj es=>match ni bs es with
  |some a=>some (.arr k aC aj a)
  |none=>none
 | .map fz es=>some (.map fz es)
 | .dy s n=>some (.dy s n)
 | .dead=>some .dead
 |_=>none
def wC(H:an):List Nat->Option an
 |[]=>some []
 |b::r=>match H[b]? with
  |some o=>match DQ bs o,wC H r with
   |some a,some t=>some (a::t)
   |_,_=>none
  |none=>none
end
section
variable{bs:List Nat}{base:Nat}
theorem zu{b i:Nat}(h:ln b bs 0=some i):sig bs base i=b:=by
 have:=(MW h).2;simp only[Nat.sub_zero]at this;simp[sig,this]
mutual
theorem LS:∀{a a0:AV},mA bs a=some a0->cJ (sig bs base) a0=a
 | .p v,a0,h=>by simp only[mA,dk]at h;subst h;rfl
 | .ptr b path,a0,h=>by
  simp only[mA]at h
  split at h
  ·rename_i i hi;simp only[dk]at h;subst h;simp only[cJ,zu hi]
  ·simp at h
 | .b8 b aC aj i path,a0,h=>by
  simp only[mA]at h
  split at h
  ·rename_i i hi;simp only[dk]at h;subst h;simp only[cJ,zu hi]
  ·simp at h
 | .sl b aC aj off len,a0,h=>by
  simp only[mA]at h
  split at h
  ·rename_i i hi;simp only[dk]at h;subst h;simp only[cJ,zu hi]
  ·simp at h
 | .map b,a0,h=>by
  simp only[mA]at h
  split at h
  ·rename_i i hi;simp only[dk]at h;subst h;simp only[cJ,zu hi]
  ·simp at h
 | .func f fi ca,a0,h=>by
  simp only[mA]at h
  split at h
  ·rename_i a b c e;simp only[dk]at h;subst h;simp only[cJ,qR c,qR e]
  ·simp at h
 | .st u fs,a0,h=>by
  simp only[mA]at h
  split at h
  ·rename_i a c;simp only[dk]at h;subst h;simp only[cJ,qR c]
  ·simp at h
 | .aE vs,a0,h=>by
  simp only[mA]at h
  split at h
  ·rename_i a c;simp only[dk]at h;subst h;simp only[cJ,qR c]
  ·simp at h
theorem qR:∀{l d:List AV},ni bs l=some d->cU (sig bs base) d=l
 |[],d,h=>by simp only[ni,dk]at h;subst h;rfl
 |v::r,d,h=>by
  simp only[ni]at h
  split at h
  ·rename_i a b c e;simp only[dk]at h;subst h;simp only[cU,LS c,qR e]
  ·simp at h
end
theorem W4{o c:Obj}(h:DQ bs o=some c):dd (sig bs base) c=o:=by
 cases o<;>simp only[DQ]at h
 case box fz t=>
  split at h
  ·rename_i a b;simp only[dk]at h;subst h;simp only[dd,LS b]
  ·simp at h
 case arr k aC aj es=>
  split at h
  ·rename_i a b;simp only[dk]at h;subst h;simp only[dd,qR b]
  ·simp at h
 case hole=>simp at h
 case loop=>simp at h
 all_goals (simp only[dk]at h;subst h;rfl)
theorem Ky{H:an}:∀{l:List Nat}{H0:an},wC bs H l=some H0->H0.length=l.length/\∀p∈l.zip (H0.map (dd (sig bs base))),H[p.1]?=some p.2
 |[],H0,h=>by simp only[wC,dk]at h;subst h;simp
 |b::r,H0,h=>by
  simp only[wC]at h
  split at h
  case h_2=>simp at h
  rename_i o f
  split at h
  case h_2=>simp at h
  rename_i a t d e;simp only[dk]at h;subst h;obtain⟨i1,i2⟩:=Ky e;refine⟨by simp[i1],fun p c=>?_⟩;simp only[ch,List.zip_cons_cons,bo]at c;rcases c with rfl|c
  ·simp only[W4 d];exact f
  ·exact i2 p c
end
mutual
def Ri:AV->List Nat->List Nat
 | .p _,acc=>acc
 | .ptr b _,acc| .b8 b _ _ _ _,acc| .sl b _ _ _ _,acc| .map b,acc=>b::acc
 | .func _ fi ca,acc=>uJ fi (uJ ca acc)
 | .st _ fs,acc| .aE fs,acc=>uJ fs acc
def uJ:List AV->List Nat->List Nat
 |[],acc=>acc
 |v::r,acc=>Ri v (uJ r acc)
end
def aAi:Obj->List Nat
 | .box _ t=>Ri t []
 | .arr _ _ _ es=>uJ es []
 |_=>[]
def D5(H:an):Nat->List Nat->List Nat->List Nat
 |0,_,acc=>acc
 |_,[],acc=>acc
 |n+1,b::r,acc=>match ln b acc 0 with
  |some _=>D5 H n r acc
  |none=>D5 H n (match H[b]? with
   |some o=>aAi o++r
   |none=>r) (b::acc)
def nodupB:List Nat->Bool
 |[]=>true
 |x::r=>(match ln x r 0 with
  |some _=>false
  |none=>true)&&nodupB r
theorem KG{b:Nat}:∀{l:List Nat}{i:Nat},ln b l i=none->b∉l
 |[],_,_=>by simp
 |x::r,i,h=>by
  simp only[ln]at h;cases a:cy x b
  ·simp only[a,cond_false]at h;have:=KG h;simp only[bo,not_or];refine⟨fun e=>?_,this⟩;subst e;rw[c9]at a;cases a
  ·simp[a]at h
theorem KP:∀{l:List Nat},nodupB l=true->l.Nodup
 |[],_=>List.nodup_nil
 |x::r,h=>by
  simp only[nodupB,ap]at h;rw[ce];refine⟨?_,KP h.2⟩;have a:=h.1
  split at a
  ·simp at a
  ·rename_i b;exact KG b
def AQ(H:an)(b v:Nat):Bool:=match H[b]? with
 |some .hole|none=>false
 |some (.arr _ aC _ _)=>cx v aC
 |some _=>true
theorem aAj{H:an}{b v:Nat}(h:AQ H b v=true):aJ H (b,v):=by
 unfold AQ at h
 split at h
 ·simp at h
 ·simp at h
 ·rename_i k aC aj c a;exact⟨_,a,cZ h⟩
 ·rename_i o d e a;refine⟨o,a,?_⟩;cases o with
  |hole=>exact(d rfl).elim
  |arr k aC aj c=>exact(e _ _ _ _ rfl).elim
  |_=>trivial
mutual
def rX(H:an):AV->Bool
 | .p _=>true
 | .ptr b _| .map b=>AQ H b 0
 | .b8 b aC _ _ _| .sl b aC _ _ _=>AQ H b aC
 | .func _ fi ca=>oH H fi&&oH H ca
 | .st _ fs| .aE fs=>oH H fs
def oH(H:an):List AV->Bool
 |[]=>true
 |v::r=>rX H v&&oH H r
end
mutual
theorem CU{H:an}:∀{a:AV},rX H a=true->aG (aJ H) a
 | .p _,_=>by simp[aG]
 | .ptr _ _,h| .map _,h| .b8 _ _ _ _ _,h| .sl _ _ _ _ _,h=>by
  simp only[rX]at h;simp only[aG];exact aAj h
 | .func _ fi ca,h=>by
  simp only[rX,ap]at h;simp only[aG];exact⟨qS h.1,qS h.2⟩
 | .st _ _,h| .aE _,h=>by
  simp only[rX]at h;simp only[aG];exact qS h
theorem qS{H:an}:∀{l:List AV},oH H l=true->ba (aJ H) l
 |[],_=>by simp[ba]
 |v::r,h=>by
  simp only[oH,ap]at h;simp only[ba];exact⟨CU h.1,qS h.2⟩
end
def zJ(H:an):Obj->Bool
 | .box _ t=>rX H t
 | .arr _ _ _ es=>oH H es
 | .loop _=>false
 |_=>true
theorem KJ{H:an}{o:Obj}(h:zJ H o=true):o.refs (aJ H):=by
 cases o<;>simp only[zJ]at h<;>simp only[Obj.refs]
 ·exact CU h
 ·exact qS h
 ·simp at h
def rP(p:Obj->Bool):List Obj->Bool
 |[]=>true
 |o::r=>p o&&rP p r
theorem wo{p:Obj->Bool}:∀{l:List Obj},rP p l=true->∀o∈l,p o=true
 |[],_,o,h=>by simp at h
 |a::r,h,o,b=>by
  simp only[rP,ap]at h;rcases bo.1 b with rfl|b
  ·exact h.1
  ·exact wo h.2 o b
def zI(n:Nat):List Nat->Bool
 |[]=>true
 |x::r=>cx (x+1) n&&zI n r
theorem DK{n:Nat}:∀{l:List Nat},zI n l=true->∀x∈l,x<n
 |[],_,o,h=>by simp at h
 |a::r,h,o,b=>by
  simp only[zI,ap]at h;rcases bo.1 b with rfl|b
  ·exact cZ h.1
  ·exact DK h.2 o b
def zE:Obj->Bool
 | .hole=>false
 |_=>true
def wT(run:List AV->an->Option (AV×an))(args:List AV)(H:an):Option aZ:=
 let bs:=D5 H 1000 (uJ args []) []
 match ni bs args,wC bs H bs with
 |some fR,some H0=>bif nodupB bs&&(zI H.length bs&&(oH H0 fR&&rP (zJ H0) H0))then
  match run fR H0 with
  |some (v0,H1)=>bif cx H0.length H1.length&&(rP zE (H1.take H0.length))then some (dB bs H.length H0 H1 v0)else none
  |none=>none
  else none
 |_,_=>none
theorem CK{P:a3}{f:aT}{run:List AV->an->Option (AV×an)}(n:∀args H v H',run args H=some (v,H')->cA P f H args H' v){args:List AV}{H:an}{e:aZ}(h:wT run args H=some e):
 sr P f args H.length e/\oQ H e:=by
 unfold wT at h;dsimp only at h
 split at h
 case h_2=>simp at h
 rename_i fR H0 g i;simp only[ao,dg,ap]at h;obtain⟨⟨g1,g2,g3,g4⟩,h⟩:=h
 split at h
 case h_2=>simp at h
 rename_i q H1 j;simp only[dg,dk]at h;obtain⟨⟨g5,g7⟩,rfl⟩:=h;obtain⟨k1,k2⟩:=Ky (base:=H.length) i;have hf:=(n _ _ _ _ j).frame _ H.length k1.symm (KP g1) (DK g2) (cZ g5) (qS g3) (fun b o k=>KJ (wo g4 o (b4 k)));rw[qR g]at hf;refine⟨hf,k2,fun p d=>?_⟩;simp only[dB]at d;have c:=b2 d;refine⟨DK g2 _ c.1,fun l=>?_⟩;obtain⟨o,m,a⟩:=b3.1 c.2;rw[l]at a;have:=wo g7 o m;rw[Yz.1 a]at this;simp[zE]at this
mutual
theorem wU:∀v:AV,cJ (fun i=>i) v=v
 | .p _| .sl .. | .b8 .. | .ptr .. | .map _=>rfl
 | .st u vs=>by simp only[cJ,pJ vs]
 | .aE vs=>by simp only[cJ,pJ vs]
 | .func f a b=>by simp only[cJ,pJ a,pJ b]
theorem pJ:∀l:List AV,cU (fun i=>i) l=l
 |[]=>rfl
 |v::l=>by simp only[cU,wU v,pJ l]
end
theorem K8:∀e:Env,uf (fun i=>i) e=e
 |[]=>rfl
 |(x,v)::r=>by simp only[uf,wU v,K8 r]
theorem Qy(o:Obj):dd (fun i=>i) o=o:=by
 cases o<;>simp only[dd,wU,pJ,K8]
theorem Al(n:Nat):sig (bv n) n=fun i=>i:=by
 funext i
 by_cases h:i<n
 ·rw[tN (by simpa using h)];simp
 ·rw[tO (by simpa using h)];simp;omega
def fK(H:an):List (Nat×Obj):=(bv H.length).zip H
theorem uw{H:an}{p:Nat×Obj}(h:p∈fK H):H[p.1]?=some p.2:=by
 rw[fK,bp]at h;obtain⟨i,hi,a⟩:=h;rw[List.getElem_zip]at a;subst a;simp
def AL(H:an):Env->Bool
 |[]=>true
 |(_,v)::r=>rX H v&&AL H r
theorem N6{H:an}:∀{e:Env},AL H e=true->∀x,aG (aJ H) (aS e x)
 |[],_,x=>by simp[aS,aG]
 |(y,v)::r,h,x=>by
  simp only[AL,ap]at h;simp only[aS]
  split
  ·exact CU h.1
  ·exact N6 h.2 x
def PA(H:an):Obj->Bool
 | .loop L=>AL H L.env
 |o=>zJ H o
theorem Xx{H:an}{o:Obj}(h:PA H o=true):o.refs (aJ H):=by
 cases o<;>first
  |exact KJ h
  |exact N6 h
def Dw(run:Nat->an->List AV->Option (an×AV))(b:Nat)(args:List AV)(H:an):Option aZ:=
 bif oH H args&&rP (PA H) H then
  match run b H args with
  |some (H1,v)=>bif cx H.length H1.length&&(rP zE (H1.take H.length))then some {v,aq:=fK H,aM:=(bv H.length).zip (H1.take H.length),aX:=H1.drop H.length}else none
  |none=>none
 else none
theorem WC{P:a3}{run:Nat->an->List AV->Option (an×AV)}(k:∀b H args H' v,run b H args=some (H',v)->ft P b H args H' v){b:Nat}{args:List AV}{H:an}{e:aZ}(h:Dw run b args H=some e):
 oL P b args H.length e/\oQ H e:=by
 unfold Dw at h;simp only[ao,dg,ap]at h;obtain⟨⟨g3,g4⟩,h⟩:=h
 split at h
 case h_2=>simp at h
 rename_i H1 f g;simp only[dg,dk]at h;obtain⟨⟨g5,g7⟩,rfl⟩:=h;have hf:=(k _ _ _ _ _ g).frame (bv H.length) H.length (by simp) List.nodup_range (fun b a=>by simpa using a) (cZ g5) (qS g3) (fun b o a=>Xx (wo g4 o (b4 a)));have e:dB (bv H.length) H.length H H1 f={v:=f,aq:=fK H,aM:=(bv H.length).zip (H1.take H.length),aX:=H1.drop H.length}:=by
  simp only[dB,Al,wU];rw[show(dd fun i=>i)=id from funext Qy,b5,b5,b5,fK]
 rw[e,Al,pJ]at hf;refine⟨hf,fun p c=>uw c,fun p c=>?_⟩;have d:=b2 c;refine⟨by simpa using d.1,fun j=>?_⟩;have:=wo g7 p.2 d.2;rw[j]at this;simp[zE]at this
end Go.ah
namespace Go.ah
variable[Gl]
inductive RT where
 |lf
 |vl (v:AV)
 |nd (a b c d:RT)
inductive Q4 where|a|b|c|d
def q4(n:Nat):Q4:=match n with
 |0=>.a
 |1=>.b
 |2=>.c
 |_=>.d
def pathOf:Nat->Nat->List Q4
 |0,_=>[]
 |k+1,n=>q4 (n% 4)::pathOf k (n/4)
noncomputable def xd(p:List Q4):RT->AV:=
 ck (motive:=fun _=>RT->AV) (fun R=>RT.rec (motive:=fun _=>AV) (.p .undef) (fun v=>v) (fun _ _ _ _ _ _ _ _=>.p .undef) R)
  (fun q _ e R=>RT.rec (motive:=fun _=>AV) (.p .undef) (fun _=>.p .undef) (fun a b c d _ _ _ _=>Q4.rec (motive:=fun _=>AV) (e a) (e b) (e c) (e d) q) R) p
noncomputable def Fu(v:AV)(p:List Q4):RT->RT:=
 ck (motive:=fun _=>RT->RT) (fun _=>.vl v)
  (fun q _ e R=>RT.rec (motive:=fun _=>RT)
   (Q4.rec (motive:=fun _=>RT) (.nd (e .lf) .lf .lf .lf) (.nd .lf (e .lf) .lf .lf) (.nd .lf .lf (e .lf) .lf) (.nd .lf .lf .lf (e .lf)) q)
   (fun _=>Q4.rec (motive:=fun _=>RT) (.nd (e .lf) .lf .lf .lf) (.nd .lf (e .lf) .lf .lf) (.nd .lf .lf (e .lf) .lf) (.nd .lf .lf .lf (e .lf)) q)
   (fun a b c d _ _ _ _=>Q4.rec (motive:=fun _=>RT) (.nd (e a) b c d) (.nd a (e b) c d) (.nd a b (e c) d) (.nd a b c (e d)) q) R) p
noncomputable def kn(k:Nat)(R:RT)(n:Nat):AV:=bif cx (n+1) (4^k)then xd (pathOf k n) R else .p .undef
noncomputable def xF(k:Nat)(R:RT)(n:Nat)(v:AV):RT:=Fu v (pathOf k n) R
theorem L9:∀(p:List Q4),xd p .lf=.p .undef
 |[]=>rfl
 |_::_=>rfl
theorem Km(v:AV):∀(p:List Q4)(R:RT),xd p (Fu v p R)=v
 |[],_=>rfl
 |x::p,R=>by
  cases R<;>cases x<;>exact Km v p _
theorem Jw(v:AV):∀(p q:List Q4)(R:RT),p.length=q.length->p≠q->xd p (Fu v q R)=xd p R
 |[],[],R,_,h=>(h rfl).elim
 |[],_::_,R,h,_=>by simp at h
 |_::_,[],R,h,_=>by simp at h
 |x::p,y::q,R,h,f=>by
  have g:=fun R(f:p≠q)=>Jw v p q R (by simpa using h) f;have i:=L9 p;cases R with
  |nd a b c d=>
   cases x<;>cases y<;>first
    |rfl
    |exact g _ (fun e=>f (by rw[e]))
  |_=>
   cases x<;>cases y<;>first
    |exact i
    |exact(g _ (fun e=>f (by rw[e]))).trans i
theorem BS:∀k n,(pathOf k n).length=k
 |0,_=>rfl
 |k+1,n=>by simp[pathOf,BS k]
theorem aKl{m n:Nat}(a:m<4)(b:n<4)(h:q4 m=q4 n):m=n:=by
 have hc:∀n,n<4->n=0\/n=1\/n=2\/n=3:=by omega
 rcases hc m a with rfl|rfl|rfl|rfl<;>rcases hc n b with rfl|rfl|rfl|rfl<;>simp[q4]at h<;>rfl
theorem Ko:∀(k m n:Nat),m<4^k->n<4^k->pathOf k m=pathOf k n->m=n
 |0,m,n,a,b,_=>by simp at a b;omega
 |k+1,m,n,a,b,h=>by
  simp only[pathOf,List.cons.injEq]at h;have c:=aKl (db _ (by omega)) (db _ (by omega)) h.1;have d:=Ko k (m/4) (n/4) (by rw[da]at a;omega) (by rw[da]at b;omega) h.2;omega
theorem NR(k n:Nat):kn k .lf n=.p .undef:=by
 simp[kn,L9]
theorem ZU{a b:Nat}(h:a<=b):cx a b=true:=c6 h
theorem Oq{a b:Nat}(h:¬a<=b):cx a b=false:=by
 cases c:cx a b
 ·rfl
 ·exact(h (cZ c)).elim
theorem Cu(k:Nat)(R:RT)(d x:Nat)(v:AV)(h:d<4^k):kn k (xF k R d v) x=if x=d then v else kn k R x:=by
 unfold kn xF
 by_cases hx:x+1<=4^k
 ·simp only[ZU hx,cond_true]
  by_cases a:x=d
  ·subst a;rw[Km,if_pos rfl]
  ·rw[if_neg a,Jw _ _ _ _ (by rw[BS,BS]) (fun e=>a (Ko k x d (by omega) h e))]
 ·have:x≠d:=by omega
  simp only[Oq hx,cond_false,this,if_false]
def Rel(k:Nat)(e:Env)(R:RT):Prop:=∀x,aS e x=kn k R x
noncomputable def lB(k:Nat)(d:Option Nat)(v:AV)(R:RT):Option RT:=
 match d with
 |none=>some R
 |some d=>bif cx (d+1) (4^k)then some (xF k R d v)else none
theorem vM{k:Nat}{d:Option Nat}{v:AV}{R a:RT}{e:Env}(h:lB k d v R=some a)(b:Rel k e R):Rel k (put d v e) a:=by
 unfold lB at h
 split at h
 ·simp only[dk]at h;subst h;exact b
 ·simp only[ao,dg,dk]at h;obtain⟨c,rfl⟩:=h;intro x;rw[Cu _ _ _ _ _ (by have:=cZ c;omega)];simp only[put,aS]
  split
  ·rfl
  ·exact b x
noncomputable def kf(k:Nat)(R:RT):ax->AV
 | .tmp t=>kn k R t
 | .const v=>.p (ofConst v)
 | .global g=>.p (Gl.g g)
 | .func f=>.p (.func f [] [])
theorem zU{k:Nat}{R:RT}{e:Env}(a:Rel k e R):kf k R=ev e:=by
 funext o;cases o<;>simp[kf,ev,a _]
def qj(H:an)(e:aZ):an:=
 match e.aM,e.aX with
 |[],[]=>H
 |_,_=>bf H e.aM++e.aX
theorem Mn(H:an)(e:aZ):qj H e=bf H e.aM++e.aX:=by
 unfold qj;split
 ·rename_i a b;simp[a,b,bf]
 ·rfl
structure jW where
 cP:aT->List AV->an->Option (AV×an)
 cD:aT->List AV->an->Option aZ
 cY:Nat->an->List AV->Option (an×AV)
 cI:AV->Nat->an->Option an
 AG:Nat->List AV->an->Option aZ
structure kq(P:a3)(B:jW):Prop where
 cP:∀f args H v H',B.cP f args H=some (v,H')->∀K:AV->an->Prop,K v H'->ib P false f args H K
 cD:∀f args H e,B.cD f args H=some e->∀K:aZ->Prop,K e->im P f args H K
 cY:∀b H args H' v,B.cY b H args=some (H',v)->ft P b H args H' v
 cI:∀it b H H',B.cI it b H=some H'->∀K:an->Prop,K H'->ju P it b H K
 AG:∀b args H e,B.AG b args H=some e->oL P b args H.length e/\oQ H e
section
variable(P:a3)(ag:aT->Bool)(B:jW)(k:Nat)
noncomputable def xD(o:Oper)(R:RT)(H:an):Option (RT×an):=
 match o.op with
 | .call {callee:=.value f,args,.. }=>match(match kf k R f with
  | .p (.func g fi ca)=>B.cP g (fi.map .p++args.toList.map (kf k R)++ca.map .p) H
  | .func g fi ca=>B.cP g (fi++args.toList.map (kf k R)++ca) H
  | .map b=>match B.cY b H (args.toList.map (kf k R))with
   |some (H',v)=>some (v,H')
   |none=>none
  |_=>none)with
  |some (v,H')=>match lB k o.dst v R with
   |some a=>some (a,H')
   |none=>none
  |none=>none
 |_=>match AY P ag o (kf k R) H with
  |some e=>match lB k o.dst e.v R with
   |some a=>some (a,qj H e)
   |none=>none
  |none=>none
noncomputable def zS(a:Array Oper)(j:Nat)(R:RT):AV:=
 match(a[j]?).bind (·.dst)with
 |some d=>kn k R d
 |none=>.p (.aE [])
noncomputable def nH(b:Array Oper):List Oper->RT->an->Option (RT×an)
 |[],R,H=>some (R,H)
 |o::r,R,H=>match o.guard with
  |none=>match xD P ag B k o R H with
   |some (a,H')=>nH b r a H'
   |none=>none
  |some (j,want)=>match zS k b j R with
   | .p (.bool t)=>match t,want with
    |true,true|false,false=>match xD P ag B k o R H with
     |some (a,H')=>nH b r a H'
     |none=>none
    |_,_=>match lB k o.dst (.p (.aE [])) R with
     |some a=>nH b r a H
     |none=>none
   | .p (.aE [])=>match lB k o.dst (.p (.aE [])) R with
    |some a=>nH b r a H
    |none=>none
   |_=>none
noncomputable def xo(o:Oper)(R:RT)(H:an):Option aZ:=
 match o.op with
 | .call {callee:=.value f,args,.. }=>match kf k R f with
  | .p (.func g fi ca)=>B.cD g (fi.map .p++args.toList.map (kf k R)++ca.map .p) H
  | .func g fi ca=>B.cD g (fi++args.toList.map (kf k R)++ca) H
  | .map b=>B.AG b (args.toList.map (kf k R)) H
  |_=>none
 |_=>AY P ag o (kf k R) H
noncomputable def nv(b:Array Oper):List Oper->Nat->List Touch->RT->an->Option (RT×an)
 |[],_,acc,R,H=>bif iM b acc then some (R,H)else none
 |o::r,i,acc,R,H=>match o.guard with
  |none=>match xo P ag B k o R H with
   |some e=>match lB k o.dst e.v R with
    |some a=>nv b r (i+1) (gd i H.length e acc) a (qj H e)
    |none=>none
   |none=>none
  |some (j,want)=>match zS k b j R with
   | .p (.bool t)=>match t,want with
    |true,true|false,false=>match xo P ag B k o R H with
     |some e=>match lB k o.dst e.v R with
      |some a=>nv b r (i+1) (gd i H.length e acc) a (qj H e)
      |none=>none
     |none=>none
    |_,_=>match lB k o.dst (.p (.aE [])) R with
     |some a=>nv b r (i+1) acc a H
     |none=>none
   | .p (.aE [])=>match lB k o.dst (.p (.aE [])) R with
    |some a=>nv b r (i+1) acc a H
    |none=>none
   |_=>none
abbrev Out:=Option (bw×RT×an)
def xa(f:RT->an->Out):Nat->RT->an->Out
 |0,_,_=>none
 |n+1,R,H=>match f R H with
  |some (.normal,a,H')=>xa f n a H'
  |r=>r
noncomputable def uF(k:Nat)(R:RT):Nat->Env
 |0=>[]
 |n+1=>(n,kn k R n)::uF k R n
def YU:Nat:=100000
def Aj(j:Option Code):Option bw:=
 match j with
 |none=>some .normal
 |some (.exit id)=>some (.exit id)
 |some .ret=>some .ret
 |_=>none
def Fp(b:Nat)(R:RT)(H:an):Out:=
 match H[b]? with
 |some (.loop L)=>match L.st with
  | .busy=>none
  |_=>match Aj L.pending with
   |some e=>some (e,R,H.set b (.loop {L with st:=.exhausted}))
   |none=>none
 |_=>none
noncomputable def il(q:Cx):Code->RT->an->Out
 | .skip,R,H| .label _,R,H=>some (.normal,R,H)
 | .region _ ops draw,R,H=>bif draw then match nv P ag B k ops ops.toList 0 [] R H with
   |some (d,H')=>some (.normal,d,H')
   |none=>none
  else match nH P ag B k ops ops.toList R H with
   |some (d,H')=>some (.normal,d,H')
   |none=>none
 | .seq a b,R,H=>match il q a R H with
  |some (.normal,d,H')=>il q b d H'
  |r=>r
 | .cond c a b,R,H=>match kf k R c with
  | .p (.bool t)=>match t with
   |true=>il q a R H
   |false=>il q b R H
  |_=>none
 | .block id b,R,H=>match il q b R H with
  |some (.exit i,d,H')=>bif cy i id then some (.normal,d,H')else some (.exit i,d,H')
  |r=>r
 | .scope b,R,H=>il q b R H
 | .loop b,R,H=>xa (fun R H=>il q b R H) YU R H
 | .rangeFunc f e a b,R,H=>bif cx q.2 H.length&&cx q.1 (4^k)then match B.cI (kf k R f) H.length (H++[.loop ⟨.ready,none,q.1,e.toList,a,b,uF k R (4^k)⟩])with
   |some H'=>Fp H.length R H'
   |none=>none
  else none
 | .exit id,R,H=>some (.exit id,R,H)
 | .ret,R,H=>some (.ret,R,H)
 |_,_,_=>none
end
section
variable{P:a3}{ag:aT->Bool}{B:jW}{k:Nat}
theorem Ls(e:aZ)(dst:Option Tmp)(env:Env)(H:an):e.app dst ⟨env,H⟩=⟨put dst e.v env,qj H e⟩:=by
 simp[aZ.app,Mn]
theorem aJJ(b:kq P B){o:Oper}{R i:RT}{H H':an}{env:Env}(h:xD P ag B k o R H=some (i,H'))(g:Rel k env R):
 ∃j,Rel k j i/\∀K:St->Prop,K ⟨j,H'⟩->jO P ag false o K ⟨env,H⟩:=by
 unfold xD at h;unfold jO;rw[zU g]at h
 split at h
 ·rename_i f args n c
  split at h
  case h_2=>simp at h
  rename_i v l hc
  split at h
  case h_2=>simp at h
  rename_i m d;simp only[dk,dl]at h;obtain⟨rfl,rfl⟩:=h;refine⟨_,vM d g,fun K a=>?_⟩;simp only[c]
  split at hc
  ·rename_i hf;simp only[hf];exact b.cP _ _ _ _ _ hc _ a
  ·rename_i hf;simp only[hf];exact b.cP _ _ _ _ _ hc _ a
  ·rename_i hf
   split at hc
   ·rename_i l s r;simp only[dk,dl]at hc;obtain⟨rfl,rfl⟩:=hc;simp only[hf];exact⟨_,_,b.cY _ _ _ _ _ r,a⟩
   ·simp at hc
  ·simp at hc
 ·rename_i q
  split at h
  case h_2=>simp at h
  rename_i e p
  split at h
  case h_2=>simp at h
  rename_i m d;simp only[dk,dl]at h;obtain⟨rfl,rfl⟩:=h;refine⟨_,vM d g,fun K a=>?_⟩
  split
  ·rename_i f args n c;exact(q _ _ _ c).elim
  ·exact PB p (by rw[Ls];exact a)
theorem Lt{a:Array Oper}{j:Nat}{R:RT}{env:Env}(b:Rel k env R):zS k a j R=guardOf a j env:=by
 unfold zS guardOf;split
 ·rename_i h;simp only[h];exact(b _).symm
 ·rename_i h;simp only[h]
theorem DB(f:kq P B){c:Array Oper}:∀{l:List Oper}{R a:RT}{H H':an}{env:Env},nH P ag B k c l R H=some (a,H')->Rel k env R->
 ∃b,Rel k b a/\∀K:St->Prop,K ⟨b,H'⟩->ic P ag false c l K ⟨env,H⟩
 |[],R,a,H,H',env,h,d=>by
  simp only[nH,dk,dl]at h;obtain⟨rfl,rfl⟩:=h;exact⟨env,d,fun K g=>g⟩
 |o::l,R,a,H,H',env,h,d=>by
  have run:(match xD P ag B k o R H with
    |some (a,H')=>nH P ag B k c l a H'
    |none=>none)=some (a,H')->∃b,Rel k b a/\∀K:St->Prop,K ⟨b,H'⟩->jO P ag false o (ic P ag false c l K) ⟨env,H⟩:=by
   intro h
   split at h
   case h_2=>simp at h
   rename_i n H1 e;obtain⟨u,a1,a2⟩:=aJJ f e d;obtain⟨r,b1,q⟩:=DB f h a1;exact⟨r,b1,fun K g=>a2 _ (q K g)⟩
  have skip:(match lB k o.dst (.p (.aE [])) R with
    |some a=>nH P ag B k c l a H
    |none=>none)=some (a,H')->∃b,Rel k b a/\∀K:St->Prop,K ⟨b,H'⟩->ic P ag false c l K ⟨put o.dst (.p (.aE [])) env,H⟩:=by
   intro h
   split at h
   case h_2=>simp at h
   rename_i n e;exact DB f h (vM e d)
  simp only[nH]at h;simp only[ic]
  split at h
  ·rename_i i;simp only[i];exact run h
  ·rename_i j s i;simp only[i];rw[Lt d]at h
   split at h
   ·rename_i t m;simp only[m];cases t<;>cases s
    ·simpa using run h
    ·simpa using skip h
    ·simpa using skip h
    ·simpa using run h
   ·rename_i m;simp only[m];exact skip h
   ·simp at h
theorem azH(b:kq P B){o:Oper}{R:RT}{H:an}{e:aZ}{env:Env}(h:xo P ag B k o R H=some e)(l:Rel k env R)(K:aZ->Prop)(a:K e):jB P ag o ⟨env,H⟩ K:=by
 unfold xo at h;unfold jB;rw[zU l]at h
 split at h
 ·rename_i f args d c;simp only[c]
  split at h
  ·rename_i hf;simp only[hf];exact b.cD _ _ _ _ h _ a
  ·rename_i hf;simp only[hf];exact b.cD _ _ _ _ h _ a
  ·rename_i hf;simp only[hf];obtain⟨g,i⟩:=b.AG _ _ _ _ h;exact⟨e,g,i,a⟩
  ·simp at h
 ·rename_i j
  split
  ·rename_i f args d c;exact(j _ _ _ c).elim
  ·exact PB h a
theorem C5(m:kq P B){f:Array Oper}:∀{l:List Oper}{i:Nat}{b:List Touch}{R a:RT}{H H':an}{env:Env},nv P ag B k f l i b R H=some (a,H')->Rel k env R->
 ∃c,Rel k c a/\∀K:St->Prop,K ⟨c,H'⟩->gv P ag f l i b K ⟨env,H⟩
 |[],i,b,R,a,H,H',env,h,d=>by
  simp only[nv,ao,dg,dk,dl]at h;obtain⟨g,rfl,rfl⟩:=h;exact⟨env,d,fun K n=>⟨g,n⟩⟩
 |o::l,i,b,R,a,H,H',env,h,d=>by
  have run:(match xo P ag B k o R H with
    |some e=>match lB k o.dst e.v R with
     |some a=>nv P ag B k f l (i+1) (gd i H.length e b) a (qj H e)
     |none=>none
    |none=>none)=some (a,H')->∃c,Rel k c a/\∀K:St->Prop,K ⟨c,H'⟩->jB P ag o ⟨env,H⟩ (fun e=>gv P ag f l (i+1) (gd i H.length e b) K (e.app o.dst ⟨env,H⟩)):=by
   intro h
   split at h
   case h_2=>simp at h
   rename_i e x
   split at h
   case h_2=>simp at h
   rename_i s g;obtain⟨w,b1,u⟩:=C5 m h (vM g d);exact⟨w,b1,fun K n=>azH m x d _ (by rw[Ls];exact u K n)⟩
  have skip:(match lB k o.dst (.p (.aE [])) R with
    |some a=>nv P ag B k f l (i+1) b a H
    |none=>none)=some (a,H')->∃c,Rel k c a/\∀K:St->Prop,K ⟨c,H'⟩->gv P ag f l (i+1) b K ⟨put o.dst (.p (.aE [])) env,H⟩:=by
   intro h
   split at h
   case h_2=>simp at h
   rename_i s g;exact C5 m h (vM g d)
  simp only[nv]at h;simp only[gv]
  split at h
  ·rename_i q;simp only[q];exact run h
  ·rename_i j y q;simp only[q];rw[Lt d]at h
   split at h
   ·rename_i t r;simp only[r];cases t<;>cases y
    ·simpa using run h
    ·simpa using skip h
    ·simpa using skip h
    ·simpa using run h
   ·rename_i r;simp only[r];exact skip h
   ·simp at h
theorem Mu(R:RT):∀(n:Nat),∀x,aS (uF k R n) x=if x<n then kn k R x else .p .undef
 |0,x=>by simp[uF,aS]
 |n+1,x=>by
  simp only[uF,aS,Mu R n]
  by_cases h:x=n
  ·subst h;simp
  ·simp only[h,if_false]
   by_cases a:x<n
   ·simp[a,Nat.lt_succ_of_lt a]
   ·have:¬x<n+1:=by omega
    simp[a,this]
theorem Y7(k:Nat)(R:RT)(n:Nat)(h:4^k<=n):kn k R n=.p .undef:=by
 unfold kn;rw[Oq (by omega)];rfl
theorem azM{R:RT}{env:Env}(a:Rel k env R):∀x,aS (uF k R (4^k)) x=aS env x:=by
 intro x;rw[Mu,a]
 split
 ·rfl
 ·rw[Y7 k R x (by omega)]
theorem YZ{j:Option Code}{e:bw}(h:Aj j=some e)(Q:bw->St->Prop)(s:St)(hq:Q e s):jy Q j s:=by
 unfold Aj at h;unfold jy
 split at h<;>simp at h<;>subst h<;>exact hq
theorem Zm{b:Nat}{R a:RT}{H H':an}{e:bw}{env:Env}(h:Fp b R H=some (e,a,H')):a=R/\∀Q:bw->St->Prop,Q e ⟨env,H'⟩->iG b env Q H:=by
 unfold Fp at h
 split at h
 case h_2=>simp at h
 rename_i L c
 have go:(match Aj L.pending with
   |some e=>some (e,R,H.set b (.loop {L with st:=.exhausted}))
   |none=>none)=some (e,a,H')->L.st≠.busy->a=R/\∀Q:bw->St->Prop,Q e ⟨env,H'⟩->iG b env Q H:=by
  intro h aO
  split at h
  case h_2=>simp at h
  rename_i e' d;simp only[dk,dl]at h;obtain⟨rfl,rfl,rfl⟩:=h;exact⟨rfl,fun Q hq=>by unfold iG;simp only[c];exact⟨aO,YZ d Q _ hq⟩⟩
 split at h
 ·simp at h
 ·rename_i aO;exact go h aO
theorem Xp{q:Cx}{b:Code}{Q:bw->St->Prop}{s s':St}(f:∀c:bw->St->Prop,c .normal s'->cd P ag q b c s)(d:cd P ag q (.loop b) Q s'):cd P ag q (.loop b) Q s:=by
 simp only[cd]at d⊢;obtain⟨I,⟨a,t0,hf,hI⟩,g⟩:=d;refine⟨fun n t=>I n t\/(n=a+1/\t=s),⟨a+1,s,.inl rfl,.inr ⟨rfl,rfl⟩⟩,?_⟩;rintro n t (h|⟨rfl,rfl⟩)
 ·obtain⟨e,u,k1,k2⟩:=nR b t _ (g n t h);refine k2 _ ?_;cases e with
  |normal=>
   obtain⟨m,i,g1,g2,g3⟩:=k1;exact⟨m,i,g1,g2,.inl g3⟩
  |exit id=>exact k1
  |ret=>exact k1
 ·exact f _ ⟨a,t0,Nat.lt_succ_self _,hf,.inl hI⟩
theorem Xo{q:Cx}{b:Code}{Q:bw->St->Prop}{s s':St}{e:bw}(f:e≠.normal)(d:∀a:bw->St->Prop,a e s'->cd P ag q b a s)(c:Q e s'):cd P ag q (.loop b) Q s:=by
 simp only[cd];refine⟨fun n t=>n=0/\t=s,⟨0,s,.inl rfl,rfl,rfl⟩,?_⟩;rintro n t ⟨rfl,rfl⟩;refine d _ ?_;cases e with
 |normal=>exact(f rfl).elim
 |exit id=>exact c
 |ret=>exact c
theorem MP{q:Cx}{b:Code}{f:RT->an->Out}(hf:∀{R a:RT}{H H':an}{e:bw}{env:Env},f R H=some (e,a,H')->Rel k env R->∃c,Rel k c a/\∀Q:bw->St->Prop,Q e ⟨c,H'⟩->cd P ag q b Q ⟨env,H⟩):
 ∀(n:Nat){R a:RT}{H H':an}{e:bw}{env:Env},xa f n R H=some (e,a,H')->Rel k env R->∃c,Rel k c a/\∀Q:bw->St->Prop,Q e ⟨c,H'⟩->cd P ag q (.loop b) Q ⟨env,H⟩
 |0,R,a,H,H',e,env,h,d=>by simp[xa]at h
 |n+1,R,a,H,H',e,env,h,d=>by
  simp only[xa]at h
  split at h
  ·rename_i o H1 l;obtain⟨g,a1,a2⟩:=hf l d;obtain⟨j,b1,i⟩:=MP hf n h a1;exact⟨j,b1,fun Q hq=>Xp a2 (i Q hq)⟩
  ·rename_i m;obtain⟨g,a1,a2⟩:=hf h d;refine⟨g,a1,fun Q hq=>Xo ?_ a2 hq⟩;rintro rfl;exact m _ _ h
theorem lL(l:kq P B){q:Cx}:∀{c:Code}{R j:RT}{H H':an}{e:bw}{env:Env},il P ag B k q c R H=some (e,j,H')->Rel k env R->
 ∃p,Rel k p j/\∀Q:bw->St->Prop,Q e ⟨p,H'⟩->cd P ag q c Q ⟨env,H⟩
 | .skip,R,j,H,H',e,env,h,d| .label _,R,j,H,H',e,env,h,d| .exit _,R,j,H,H',e,env,h,d| .ret,R,j,H,H',e,env,h,d=>by
  simp only[il,dk,dl]at h;obtain⟨rfl,rfl,rfl⟩:=h;exact⟨env,d,fun Q hq=>hq⟩
 | .region id ops draw,R,j,H,H',e,env,h,d=>by
  simp only[il]at h;cases draw
  ·simp only[cond_false]at h
   split at h
   case h_2=>simp at h
   rename_i n H1 m;simp only[dk,dl]at h;obtain⟨rfl,rfl,rfl⟩:=h;obtain⟨g,a1,a2⟩:=DB l m d;exact⟨g,a1,fun Q hq=>by simp only[cd];exact a2 _ hq⟩
  ·simp only[cond_true]at h
   split at h
   case h_2=>simp at h
   rename_i n H1 m;simp only[dk,dl]at h;obtain⟨rfl,rfl,rfl⟩:=h;obtain⟨g,a1,a2⟩:=C5 l m d;exact⟨g,a1,fun Q hq=>by simp only[cd,if_true];exact a2 _ hq⟩
 | .seq a b,R,j,H,H',e,env,h,d=>by
  simp only[il]at h
  split at h
  ·rename_i n H1 m;obtain⟨g,a1,a2⟩:=lL l m d;obtain⟨u,b1,s⟩:=lL l h a1;exact⟨u,b1,fun Q hq=>by simp only[cd];exact a2 _ (s Q hq)⟩
  ·rename_i o;obtain⟨g,a1,a2⟩:=lL l h d;refine⟨g,a1,fun Q hq=>by
    simp only[cd];refine a2 _ ?_;cases e with
    |normal=>exact(o _ _ h).elim
    |exit id=>exact hq
    |ret=>exact hq⟩
 | .cond c a b,R,j,H,H',e,env,h,d=>by
  simp only[il,zU d]at h
  split at h
  case h_2=>simp at h
  rename_i t r;cases t
  ·obtain⟨g,a1,a2⟩:=lL l h d;exact⟨g,a1,fun Q hq=>by simp only[cd,r];exact a2 Q hq⟩
  ·obtain⟨g,a1,a2⟩:=lL l h d;exact⟨g,a1,fun Q hq=>by simp only[cd,r,if_true];exact a2 Q hq⟩
 | .block id b,R,j,H,H',e,env,h,d=>by
  simp only[il]at h
  split at h
  ·rename_i i n H1 m;obtain⟨g,a1,a2⟩:=lL l m d;cases hi:cy i id
   ·simp only[hi,cond_false,dk,dl]at h;obtain⟨rfl,rfl,rfl⟩:=h;refine⟨g,a1,fun Q hq=>by
     simp only[cd];refine a2 _ ?_;have:i≠id:=fun e=>by subst e;simp[c9]at hi
     simp only[this,if_false];exact hq⟩
   ·simp only[hi,cond_true,dk,dl]at h;obtain⟨rfl,rfl,rfl⟩:=h;refine⟨g,a1,fun Q hq=>by
     simp only[cd];refine a2 _ ?_;simp only[dx hi,if_true];exact hq⟩
  ·rename_i o;obtain⟨g,a1,a2⟩:=lL l h d;refine⟨g,a1,fun Q hq=>by
    simp only[cd];refine a2 _ ?_;cases e with
    |normal=>exact hq
    |exit id=>exact(o _ _ _ h).elim
    |ret=>exact hq⟩
 | .scope b,R,j,H,H',e,env,h,d=>by
  simp only[il]at h;obtain⟨g,a1,a2⟩:=lL l h d;exact⟨g,a1,fun Q hq=>by simp only[cd];exact a2 Q hq⟩
 | .loop b,R,j,H,H',e,env,h,d=>by
  simp only[il]at h;exact MP (fun h d=>lL l h d) _ h d
 | .rangeFunc f x a b,R,j,H,H',e,env,h,d=>by
  simp only[il,ao,dg,ap]at h;obtain⟨⟨m,w⟩,h⟩:=h
  split at h
  case h_2=>simp at h
  rename_i H1 hI;obtain⟨rfl,v⟩:=Zm (env:=env) h;refine⟨env,d,fun Q hq=>?_⟩;simp only[cd];rw[zU d]at hI;exact⟨cZ m,_,azM d,l.cI _ _ _ _ hI _ (v Q hq)⟩
 | .goto _,_,_,_,_,_,_,h,_=>by simp[il]at h
 | .refuse _,_,_,_,_,_,_,h,_=>by simp[il]at h
end
def sL(n:Nat):Nat:=
 match cx n 16,cx n 64,cx n 256,cx n 1024 with
 |true,_,_,_=>2
 |_,true,_,_=>3
 |_,_,true,_=>4
 |_,_,_,true=>5
 |_,_,_,_=>6
noncomputable def wY(k:Nat):Nat->List AV->RT
 |_,[]=>.lf
 |i,v::r=>xF k (wY k (i+1) r) i v
theorem M7(k:Nat):∀(l:List AV)(i:Nat),i+l.length<=4^k->Rel k (iV i l) (wY k i l)
 |[],i,_=>fun x=>by simp[iV,wY,aS,NR]
 |v::r,i,h=>fun x=>by
  simp only[List.length_cons]at h;rw[wY,Cu _ _ _ _ _ (by omega)];simp only[iV,aS]
  split
  ·rfl
  ·exact M7 k r (i+1) (by omega) x
noncomputable def xp(k:Nat):Env->Option RT
 |[]=>some .lf
 |(x,v)::r=>match xp k r with
  |some R=>bif cx (x+1) (4^k)then some (xF k R x v)else none
  |none=>none
theorem Mt(k:Nat):∀{e:Env}{R:RT},xp k e=some R->Rel k e R
 |[],R,h=>by
  simp only[xp,dk]at h;subst h;intro x;simp[aS,NR]
 |(y,v)::r,R,h=>by
  simp only[xp]at h
  split at h
  case h_2=>simp at h
  rename_i c a;simp only[ao,dg,dk]at h;obtain⟨b,rfl⟩:=h;intro x;rw[Cu _ _ _ _ _ (by have:=cZ b;omega)];simp only[aS]
  split
  ·rfl
  ·exact Mt k a x
noncomputable def A4(P:a3)(k:Nat)(R:RT)(H:an):List a4->Option (List AV)
 |[]=>some []
 |r::rs=>match(match r with
  | .tmp t=>some (kn k R t)
  | .cell a T=>match kn k R a with
   | .ptr b path=>match H[b]? with
    |some (.box _ t)=>match eU t path with
     |some v=>bif sE (kindOf P T) (aa v)then some v else none
     |none=>none
    |_=>none
   |_=>none),A4 P k R H rs with
  |some v,some vs=>some (v::vs)
  |_,_=>none
theorem NT{P:a3}{k:Nat}{R:RT}{H:an}{env:Env}(d:Rel k env R):∀{e:List a4}{vs:List AV},A4 P k R H e=some vs->fN P ⟨env,H⟩ e=some vs
 |[],vs,h=>h
 |r::e,vs,h=>by
  simp only[A4]at h
  split at h
  case h_2=>simp at h
  rename_i v o c f;simp only[dk]at h;subst h;have g:pX P ⟨env,H⟩ r=some v:=by
   cases r with
   |tmp t=>simp only[pX];rw[d];exact c
   |cell a T=>
    simp only[pX];dsimp only at c;rw[<-d]at c
    split at c
    case h_2=>simp at c
    rename_i b n j
    split at c
    case h_2=>simp at c
    rename_i fz t l
    split at c
    case h_2=>simp at c
    rename_i u m;simp only[ao,dg,dk]at c;obtain⟨i,rfl⟩:=c;rw[j];simp only[l,m,(iW i).1,if_true]
  simp only[fN,g,NT d f]
section
variable(P:a3)(ag:aT->Bool)
noncomputable def Ao(B:jW)(fn:Func)(args:List AV)(N:Nat)(H:an):Option (AV×an):=
 bif cx args.length fn.ntmps&&cx fn.ntmps (4^sL fn.ntmps)then
  match il P ag B (sL fn.ntmps) (fn.ntmps,N) (fn.body.getD .skip) (wY (sL fn.ntmps) 0 args) H with
  |some (.exit _,_,_)=>none
  |some (_,R,H')=>match A4 P (sL fn.ntmps) R H' fn.results.toList with
   |some vs=>some (oneOf vs,H')
   |none=>none
  |none=>none
 else none
structure nK where
 iB:aT->Option Func
 AO:aT->List PV->Option PV
 AP:aT->List AV->an->Option (AV×an)
 lV:aT->aT->Nat
 uI:aT->List AV->an->Option (List (Nat×Obj)×PV)
noncomputable def qA(pl:nK)(B:aT->jW)(f:aT)(vs:List PV):Option PV:=
 match pl.AO f vs with
 |some v=>some v
 |none=>match pl.iB f with
  |some fn=>match Ao P ag (B f) fn (vs.map .p) 0 []with
   |some (v,H)=>eC H 9 v
   |none=>none
  |none=>none
noncomputable def o9(pl:nK)(B:aT->jW)(f:aT)(args:List AV)(H:an):Option (AV×an):=
 match pl.AP f args H with
 |some r=>some r
 |none=>match pl.iB f with
  |some fn=>Ao P ag (B f) fn args H.length H
  |none=>none
noncomputable def zP(B:jW)(b:Nat)(H:an)(args:List AV):Option (an×AV):=
 match H[b]? with
 |some (.loop L)=>bif cy args.length L.params.length&&(L.params.all (fun x=>decide (x<L.n))&&codeOk fit L.n L.assign&&codeOk fit L.n L.body)then
  match xp (sL L.n) (rG L.params args L.env)with
  |some R=>match il P ag B (sL L.n) (L.n,H.length) L.assign R H with
   |some (.normal,f,H1)=>match H1[b]? with
    |some (.loop c)=>match c.st with
     | .ready=>match il P ag B (sL L.n) (L.n,H.length) L.body f (H1.set b (.loop {c with st:=.busy}))with
      |some (e,_,a)=>match a[b]? with
       |some (.loop d)=>some (a.set b (.loop {d with st:=if(ia e).isNone then .ready else .done,pending:=ia e}),.p (.bool (ia e).isNone))
       |_=>none
      |none=>none
     |_=>none
    |_=>none
   |_=>none
  |none=>none
  else none
 |_=>none
noncomputable def ER(pl:nK)(B:aT->jW)(it:AV)(b:Nat)(H:an):Option an:=
 match it with
 | .p (.func g fi ca)=>match o9 P ag pl B g (fi.map .p++[.map b]++ca.map .p) H with
  |some (_,H')=>some H'
  |none=>none
 | .func g fi ca=>match o9 P ag pl B g (fi++[.map b]++ca) H with
  |some (_,H')=>some H'
  |none=>none
 |_=>none
noncomputable def Ey(pl:nK)(B:aT->jW)(c f:aT)(args:List AV)(H:an):Option (AV×an):=
 match pl.uI f args H with
 |some (_,v)=>some (.p v,H)
 |none=>match pl.lV c f with
 |0=>match eO args with
  |some vs=>match qA P ag pl B f vs with
   |some v=>some (.p v,H)
   |none=>none
  |none=>o9 P ag pl B f args H
 |1=>o9 P ag pl B f args H
 |3=>match wT (o9 P ag pl B f) args H with
  |some e=>some (e.v,qj H e)
  |none=>none
 |_=>match nI H args with
  |some (vs,H1)=>match qA P ag pl B f vs with
   |some v=>some (.p v,H1)
   |none=>none
  |none=>none
noncomputable def Ex(pl:nK)(B:aT->jW)(c f:aT)(args:List AV)(H:an):Option aZ:=
 match pl.uI f args H with
 |some (aq,v)=>some {v:=.p v,aq}
 |none=>match pl.lV c f with
 |3=>wT (o9 P ag pl B f) args H
 |_=>match eO args with
 |some vs=>match qA P ag pl B f vs with
  |some v=>some {v:=.p v}
  |none=>none
 |none=>match oK H args with
  |some (vs,bs)=>match lO H bs with
   |some (aq,aM)=>match qA P ag pl B f vs with
    |some v=>some {v:=.p v,aq,aM}
    |none=>none
   |none=>none
  |none=>wT (o9 P ag pl B f) args H
def tT:jW:=⟨fun _ _ _=>none,fun _ _ _=>none,fun _ _ _=>none,fun _ _ _=>none,fun _ _ _=>none⟩
noncomputable def kT(pl:nK):Nat->aT->jW
 |0,_=>tT
 |n+1,c=>⟨Ey P ag pl (kT pl n) c,Ex P ag pl (kT pl n) c,zP P ag (kT pl n c),ER P ag pl (kT pl n),Dw (zP P ag (kT pl n c))⟩
end
structure oF(P:a3)(pl:nK):Prop where
 mix:P.follows .mixedOrders=true
 iB:∀f fn,pl.iB f=some fn->az P f fn
 AO:∀f vs v,pl.AO f vs=some v->ar P f vs v
 AP:∀f args H v H',pl.AP f args H=some (v,H')->cA P f H args H' v
 uI:∀f args H aq v,pl.uI f args H=some (aq,v)->Ef P f args aq v/\∀p∈aq,H[p.1]?=some p.2
section
variable{P:a3}{ag:aT->Bool}{B1:jW}{B:aT->jW}{pl:nK}
theorem Mk(d:kq P B1){fn:Func}{args:List AV}{N:Nat}{H H':an}{v:AV}(h:Ao P ag B1 fn args N H=some (v,H')):
 args.length<=fn.ntmps/\∃e a vs,(match e with
  |bw.exit _=>False
  |_=>True)/\fN P ⟨a,H'⟩ fn.results.toList=some vs/\oneOf vs=v/\∀Q:bw->St->Prop,Q e ⟨a,H'⟩->cd P ag (fn.ntmps,N) (fn.body.getD .skip) Q ⟨iV 0 args,H⟩:=by
 unfold Ao at h;simp only[ao,dg,ap]at h;obtain⟨⟨b,c⟩,h⟩:=h;have b:=cZ b;have c:=cZ c;refine⟨b,?_⟩
 split at h
 ·simp at h
 ·rename_i e R j f hc
  split at h
  case h_2=>simp at h
  rename_i vs g;simp only[dk,dl]at h;obtain⟨rfl,rfl⟩:=h;obtain⟨a,a1,a2⟩:=lL d hc (M7 _ args 0 (by omega));refine⟨e,a,vs,?_,NT a1 g,rfl,a2⟩;cases e with
  |exit i=>exact f i rfl
  |_=>trivial
 ·simp at h
theorem vT(a:oF P pl)(j:∀c,kq P (B c)){f:aT}{vs:List PV}{v:PV}(h:qA P ag pl B f vs=some v):ar P f vs v:=by
 unfold qA at h
 split at h
 ·rename_i v' hk;simp only[dk]at h;subst h;exact a.AO _ _ _ hk
 ·split at h
  case h_2=>simp at h
  rename_i fn hf
  split at h
  case h_2=>simp at h
  rename_i v' H' k;obtain⟨b,e,m,l,d,g,rfl,i⟩:=Mk (j _) k;exact uH ag (a.iB _ _ hf) a.mix (by simpa using b) (i _ ⟨d,l,g,h⟩)
theorem rp(a:oF P pl)(j:∀c,kq P (B c)){f:aT}{args:List AV}{H H':an}{v:AV}(h:o9 P ag pl B f args H=some (v,H')):cA P f H args H' v:=by
 unfold o9 at h
 split at h
 ·rename_i r hk;simp only[dk]at h;subst h;exact a.AP _ _ _ _ _ hk
 ·split at h
  case h_2=>simp at h
  rename_i fn hf;obtain⟨b,e,l,k,d,g,rfl,i⟩:=Mk (j _) h;exact Rd ag (a.iB _ _ hf) a.mix b (i _ ⟨d,k,g,rfl,.inl rfl⟩)
theorem Lp{args:List AV}{vs:List PV}(h:eO args=some vs):args=vs.map .p:=mn h
theorem ZM(b:oF P pl)(d:∀c,kq P (B c)){c f:aT}{args:List AV}{H H':an}{v:AV}(h:Ey P ag pl B c f args H=some (v,H'))(K:AV->an->Prop)(a:K v H'):ib P false f args H K:=by
 unfold Ey at h
 split at h
 ·rename_i aq v' hx;simp only[dk,dl]at h;obtain⟨rfl,rfl⟩:=h;obtain⟨i,j⟩:=b.uI _ _ _ _ _ hx;exact .inr ⟨rfl,.inr (.inr (.inr ⟨aq,v',i,j,a⟩))⟩
 split at h
 ·split at h
  ·rename_i vs m
   split at h
   case h_2=>simp at h
   rename_i v' g;simp only[dk,dl]at h;obtain⟨rfl,rfl⟩:=h;exact .inl ⟨vs,v',Lp m,vT b d g,a⟩
  ·exact .inr ⟨rfl,.inr (.inl ⟨H',v,rp b d h,a⟩)⟩
 ·exact .inr ⟨rfl,.inr (.inl ⟨H',v,rp b d h,a⟩)⟩
 ·split at h
  case h_2=>simp at h
  rename_i e k;simp only[dk,dl]at h;obtain⟨rfl,rfl⟩:=h;obtain⟨i,j⟩:=CK (fun args H v H' g=>rp b d g) k;exact .inr ⟨rfl,.inr (.inr (.inl ⟨e,i,j,by rw[<-Mn];exact a⟩))⟩
 ·split at h
  case h_2=>simp at h
  rename_i vs H1 l
  split at h
  case h_2=>simp at h
  rename_i v' g;simp only[dk,dl]at h;obtain⟨rfl,rfl⟩:=h;exact .inr ⟨rfl,.inl ⟨vs,H1,v',l,vT b d g,a⟩⟩
theorem ZN(i:oF P pl)(j:∀c,kq P (B c)){c f:aT}{args:List AV}{H:an}{e:aZ}(h:Ex P ag pl B c f args H=some e)(K:aZ->Prop)(g:K e):im P f args H K:=by
 unfold Ex at h
 split at h
 ·rename_i aq v' hx;simp only[dk]at h;subst h;obtain⟨b,d⟩:=i.uI _ _ _ _ _ hx;exact .inr (.inr (.inr ⟨aq,v',b,d,g⟩))
 split at h
 ·obtain⟨b,d⟩:=CK (fun args H v H' a=>rp i j a) h;exact .inr (.inr (.inl ⟨e,b,d,g⟩))
 split at h
 ·rename_i vs m
  split at h
  case h_2=>simp at h
  rename_i v' a;simp only[dk]at h;subst h;exact .inl ⟨vs,v',Lp m,vT i j a,g⟩
 ·split at h
  case h_2=>
   obtain⟨b,d⟩:=CK (fun args H v H' a=>rp i j a) h;exact .inr (.inr (.inl ⟨e,b,d,g⟩))
  rename_i vs bs l
  split at h
  case h_2=>simp at h
  rename_i aq aM k
  split at h
  case h_2=>simp at h
  rename_i v' a;simp only[dk]at h;subst h;exact .inr (.inl ⟨vs,bs,aq,aM,v',l,k,vT i j a,g⟩)
theorem K7(n:oF P pl)(a:kq P B1){b:Nat}{H H':an}{args:List AV}{v:AV}(h:zP P ag B1 b H args=some (H',v)):ft P b H args H' v:=by
 unfold zP at h
 split at h
 case h_2=>simp at h
 rename_i L g;simp only[ao,dg,ap]at h;obtain⟨⟨d,f⟩,h⟩:=h
 split at h
 case h_2=>simp at h
 rename_i R k
 split at h
 case h_2=>simp at h
 rename_i r H1 l
 split at h
 case h_2=>simp at h
 rename_i p i
 split at h
 case h_2=>simp at h
 rename_i aO
 split at h
 case h_2=>simp at h
 rename_i e s o m
 split at h
 case h_2=>simp at h
 rename_i q j;simp only[dk,dl]at h;obtain⟨rfl,rfl⟩:=h;obtain⟨t,a1,a2⟩:=lL a l (Mt _ k);obtain⟨u,b1,c⟩:=lL a m a1;refine Re ag n.mix g (dx d) (by simpa only[ap]using f) ?_;unfold zo;refine a2 _ ?_;simp only[yz,i];refine⟨aO,c _ ?_⟩;simp only[tG,j];exact⟨trivial,.inl rfl⟩
theorem Y0(g:oF P pl)(e:∀c,kq P (B c)){it:AV}{b:Nat}{H H':an}(h:ER P ag pl B it b H=some H')(K:an->Prop)(f:K H'):ju P it b H K:=by
 unfold ER at h
 split at h
 ·split at h
  case h_2=>simp at h
  rename_i v a d;simp only[dk]at h;subst h;exact⟨a,v,rp g e d,f⟩
 ·split at h
  case h_2=>simp at h
  rename_i v a d;simp only[dk]at h;subst h;exact⟨a,v,rp g e d,f⟩
 ·simp at h
theorem tD(a:oF P pl):∀n c,kq P (kT P ag pl n c)
 |0,_=>⟨fun _ _ _ _ _ h=>by simp[kT,tT]at h,fun _ _ _ _ h=>by simp[kT,tT]at h,fun _ _ _ _ _ h=>by simp[kT,tT]at h,fun _ _ _ _ h=>by simp[kT,tT]at h,fun _ _ _ _ h=>by simp[kT,tT]at h⟩
 |n+1,c=>⟨fun _ _ _ _ _ h=>ZM a (tD a n) h,fun _ _ _ _ h=>ZN a (tD a n) h,fun _ _ _ _ _ h=>K7 a (tD a n c) h,fun _ _ _ _ h=>Y0 a (tD a n) h,fun _ _ _ _ h=>WC (fun _ _ _ _ _ b=>K7 a (tD a n c) b) h⟩
theorem reckon{f:aT}{vs:List PV}{v:PV}(n:Nat)(a:oF P pl)(h:qA P ag pl (kT P ag pl n) f vs=some v):ar P f vs v:=vT a (tD a n) h
end
section
variable{P:a3}{ag:aT->Bool}
theorem ar.de{f:aT}{args d:List PV}{v v':PV}(h:ar P f args v)(g:bD d args)(i:Wk v v'):ar P f d v':=by
 rcases h with h|h
 ·refine .inl ⟨h.1,fun w ad a j k c=>(h.2 w ad a j k (bL.de _ _ _ g c)).mono ?_⟩;rintro e w' ⟨b,aH,k1,k2,k3,k4,k5,k6,l,k7⟩;exact⟨b,aH,k1,k2,k3,k4,k5,k6,l,aF.de _ _ _ i k7⟩
 ·refine .inr fun w ad a c=>?_;obtain⟨b,k1,k2⟩:=h w ad a (bL.de _ _ _ g c);exact⟨b,k1,aF.de _ _ _ i k2⟩
def As(P:a3)(a:List a4)(v:PV)(e:bw)(s:St):Prop:=
 (match e with
  | .exit _=>False
  |_=>True)/\∃vs,fN P s a=some vs/\∃v',eC s.heap 9 (oneOf vs)=some v'/\Wk v' v
theorem XN{a:List a4}{v:PV}{s:St}:As P a v .ret s=∃vs,fN P s a=some vs/\∃v',eC s.heap 9 (oneOf vs)=some v'/\Wk v' v:=by simp[As]
theorem VC{a:List a4}{v:PV}{s:St}:As P a v .normal s=∃vs,fN P s a=some vs/\∃v',eC s.heap 9 (oneOf vs)=some v'/\Wk v' v:=by simp[As]
theorem so.de{f:aT}{args a:List PV}{v v':PV}(h:so P f args v)(j:bD a args)(k:Wk v v'):so P f a v':=by
 refine⟨h.1,fun w ad b d g i=>(h.2 w ad b d g (bL.de _ _ _ j i)).mono ?_⟩;rintro e w' ⟨c,aH,k1,k2,k3,k4,k5,k6,l,k7⟩;exact⟨c,aH,k1,k2,k3,k4,k5,k6,l,aF.de _ _ _ k k7⟩
theorem Kq{dst:Option Tmp}{h:Nat}{pos:String}{af:Array Edge}{g:Option (Nat×Bool)}{env:Env}{heap:an}{L:St->Prop}{f:aT}{fi ca:Array ax}(hf:ag f=false):
 dv P ag ⟨dst,.makeFunc (.func f) fi ca,h,pos,af,g⟩ L ⟨env,heap⟩=bk (rT f (fi.toList.map (ev env)) (ca.toList.map (ev env))) (ez dst ⟨env,heap⟩ L):=by
 simp only[dv,lx,fH,hf,rT,av,if_false]
 split
 ·rename_i c d;simp only[c,d,bk,true_and]
 ·rename_i c
  split
  ·rename_i a b d e;exact(c a b d e).elim
  ·simp only[bk,true_and]
theorem J4{dst:Option Tmp}{h:Nat}{pos:String}{af:Array Edge}{g:Option (Nat×Bool)}{env:Env}{heap:an}{K:aZ->Prop}{f:aT}{fi ca:Array ax}(hf:ag f=false):
 dw P ag ⟨dst,.makeFunc (.func f) fi ca,h,pos,af,g⟩ ⟨env,heap⟩ K=bk (rT f (fi.toList.map (ev env)) (ca.toList.map (ev env))) K:=by
 simp only[dw,lx,fH,hf,rT,av,if_false]
 split
 ·rename_i c d;simp only[c,d,bk,true_and]
 ·rename_i c
  split
  ·rename_i a b d e;exact(c a b d e).elim
  ·simp only[bk,true_and]
section guards
variable{ops:Array Oper}{o:Oper}{r:List Oper}{K:St->Prop}{want t:Bool}{s:St}{i:Nat}{acc:List Touch}
theorem JT:zR P ag ops o r K want s (.p (.bool t))=if t=want then dv P ag o (gh P ag ops r K) s else gh P ag ops r K ⟨put o.dst (.p (.aE [])) s.env,s.heap⟩:=(rfl)
theorem Ku:zR P ag ops o r K want s (.p (.aE []))=gh P ag ops r K ⟨put o.dst (.p (.aE [])) s.env,s.heap⟩:=(rfl)
theorem Jm:zH P ag ops o r i acc K want s (.p (.bool t))=if t=want then dw P ag o s (xe P ag ops r i acc K o.dst s)else gz P ag ops r (i+1) acc K ⟨put o.dst (.p (.aE [])) s.env,s.heap⟩:=(rfl)
theorem JS:zH P ag ops o r i acc K want s (.p (.aE []))=gz P ag ops r (i+1) acc K ⟨put o.dst (.p (.aE [])) s.env,s.heap⟩:=(rfl)
theorem VA{l:List Oper}{j:Nat}{e:Env}:guardOf l.toArray j e=match(l[j]?).bind (·.dst)with
 |some d=>aS e d
 |none=>.p (.aE []):=by simp only[guardOf,List.getElem?_toArray];cases l[j]?.bind (·.dst)<;>rfl
end guards
section calls
variable{f:aT}{H H1:an}{K:AV->an->Prop}{L:aZ->Prop}{v a b c d e a' b' c' d' e':PV}{dr:Bool}
theorem cw0(h:ar P f [] v)(hk:K (.p v) H):ib P dr f [] H K:=.inl ⟨[],v,rfl,h,hk⟩
theorem cw1(h:ar P f [a'] v)(hk:K (.p v) H)(b:Wk a a':=by first|exact Wk.refl _|simp[Wk,bD]):ib P dr f [.p a] H K:=.inl ⟨[a],v,rfl,h.de (by simp only[bD];exact⟨b,trivial⟩) (Wk.refl _),hk⟩
theorem cw2(h:ar P f [a',b'] v)(hk:K (.p v) H)(c:Wk a a':=by first|exact Wk.refl _|simp[Wk,bD])(d:Wk b b':=by first|exact Wk.refl _|simp[Wk,bD]):ib P dr f [.p a,.p b] H K:=
 .inl ⟨[a,b],v,rfl,h.de (by simp only[bD];exact⟨c,d,trivial⟩) (Wk.refl _),hk⟩
theorem cw3(h:ar P f [a',b',c'] v)(hk:K (.p v) H)(d:Wk a a':=by first|exact Wk.refl _|simp[Wk,bD])(e:Wk b b':=by first|exact Wk.refl _|simp[Wk,bD])(g:Wk c c':=by first|exact Wk.refl _|simp[Wk,bD]):ib P dr f [.p a,.p b,.p c] H K:=
 .inl ⟨[a,b,c],v,rfl,h.de (by simp only[bD];exact⟨d,e,g,trivial⟩) (Wk.refl _),hk⟩
theorem cw4(h:ar P f [a',b',c',d'] v)(hk:K (.p v) H)(e:Wk a a':=by first|exact Wk.refl _|simp[Wk,bD])(g:Wk b b':=by first|exact Wk.refl _|simp[Wk,bD])(i:Wk c c':=by first|exact Wk.refl _|simp[Wk,bD])(j:Wk d d':=by first|exact Wk.refl _|simp[Wk,bD]):ib P dr f [.p a,.p b,.p c,.p d] H K:=
 .inl ⟨[a,b,c,d],v,rfl,h.de (by simp only[bD];exact⟨e,g,i,j,trivial⟩) (Wk.refl _),hk⟩
theorem cw5(h:ar P f [a',b',c',d',e'] v)(hk:K (.p v) H)(g:Wk a a':=by first|exact Wk.refl _|simp[Wk,bD])(i:Wk b b':=by first|exact Wk.refl _|simp[Wk,bD])(j:Wk c c':=by first|exact Wk.refl _|simp[Wk,bD])(k:Wk d d':=by first|exact Wk.refl _|simp[Wk,bD])(l:Wk e e':=by first|exact Wk.refl _|simp[Wk,bD]):ib P dr f [.p a,.p b,.p c,.p d,.p e] H K:=
 .inl ⟨[a,b,c,d,e],v,rfl,h.de (by simp only[bD];exact⟨g,i,j,k,l,trivial⟩) (Wk.refl _),hk⟩
theorem ce0(h:ar P f [] v)(hk:L {v:=.p v}):im P f [] H L:=.inl ⟨[],v,rfl,h,hk⟩
theorem ce1(h:ar P f [a'] v)(hk:L {v:=.p v})(b:Wk a a':=by first|exact Wk.refl _|simp[Wk,bD]):im P f [.p a] H L:=.inl ⟨[a],v,rfl,h.de (by simp only[bD];exact⟨b,trivial⟩) (Wk.refl _),hk⟩
theorem ce2(h:ar P f [a',b'] v)(hk:L {v:=.p v})(c:Wk a a':=by first|exact Wk.refl _|simp[Wk,bD])(d:Wk b b':=by first|exact Wk.refl _|simp[Wk,bD]):im P f [.p a,.p b] H L:=
 .inl ⟨[a,b],v,rfl,h.de (by simp only[bD];exact⟨c,d,trivial⟩) (Wk.refl _),hk⟩
theorem ce3(h:ar P f [a',b',c'] v)(hk:L {v:=.p v})(d:Wk a a':=by first|exact Wk.refl _|simp[Wk,bD])(e:Wk b b':=by first|exact Wk.refl _|simp[Wk,bD])(g:Wk c c':=by first|exact Wk.refl _|simp[Wk,bD]):im P f [.p a,.p b,.p c] H L:=
 .inl ⟨[a,b,c],v,rfl,h.de (by simp only[bD];exact⟨d,e,g,trivial⟩) (Wk.refl _),hk⟩
theorem ce4(h:ar P f [a',b',c',d'] v)(hk:L {v:=.p v})(e:Wk a a':=by first|exact Wk.refl _|simp[Wk,bD])(g:Wk b b':=by first|exact Wk.refl _|simp[Wk,bD])(i:Wk c c':=by first|exact Wk.refl _|simp[Wk,bD])(j:Wk d d':=by first|exact Wk.refl _|simp[Wk,bD]):im P f [.p a,.p b,.p c,.p d] H L:=
 .inl ⟨[a,b,c,d],v,rfl,h.de (by simp only[bD];exact⟨e,g,i,j,trivial⟩) (Wk.refl _),hk⟩
theorem ce5(h:ar P f [a',b',c',d',e'] v)(hk:L {v:=.p v})(g:Wk a a':=by first|exact Wk.refl _|simp[Wk,bD])(i:Wk b b':=by first|exact Wk.refl _|simp[Wk,bD])(j:Wk c c':=by first|exact Wk.refl _|simp[Wk,bD])(k:Wk d d':=by first|exact Wk.refl _|simp[Wk,bD])(l:Wk e e':=by first|exact Wk.refl _|simp[Wk,bD]):im P f [.p a,.p b,.p c,.p d,.p e] H L:=
 .inl ⟨[a,b,c,d,e],v,rfl,h.de (by simp only[bD];exact⟨g,i,j,k,l,trivial⟩) (Wk.refl _),hk⟩
theorem cwp{args:List AV}{vs a:List PV}(h:ar P f a v)(c:nI H args=some (vs,H1))(hk:K (.p v) H1)(b:bD vs a:=by first|exact bD.refl _|simp[Wk,bD]):ib P false f args H K:=
 .inr ⟨rfl,.inl ⟨vs,H1,v,c,h.de b (Wk.refl _),hk⟩⟩
theorem cep{args:List AV}{vs a:List PV}{bs:List Nat}{aq aM:List (Nat×Obj)}(h:ar P f a v)(c:oK H args=some (vs,bs))(hf:lO H bs=some (aq,aM))(hk:L {v:=.p v,aq,aM})(b:bD vs a:=by first|exact bD.refl _|simp[Wk,bD]):im P f args H L:=
 .inr (.inl ⟨vs,bs,aq,aM,v,c,hf,h.de b (Wk.refl _),hk⟩)
end calls
def KV(T:an)(a v:AV):Prop:=a=v\/Gh T a v
theorem S1{T:an}{v:AV}:KV T v v=True:=by simp[KV]
theorem SZ{T:an}{b aC aj off len:Nat}:KV T (.p .aP) (.sl b aC aj off len)=(aC=0/\off=0/\len=0/\∃k z,T[b]?=some (.arr k 0 z [])/\k.gr=true):=by simp[KV,Gh,fY]
theorem S2{T:an}{u u':ay}{fs:List PV}{a:List AV}:KV T (.p (.st u fs)) (.st u' a)=(u=u'/\lE T fs a):=by simp[KV,Gh,fY]
def mu(T:an)(e:Env):Env->Prop
 |[]=>True
 |(x,v)::r=>KV T (aS e x) v/\mu T e r
def KO(T:an)(o:Obj):Obj->Prop
 | .hole=>True
 | .box false v'=>match o with
  | .box false v=>KV T v v'
  |_=>False
 | .arr k aC z es=>(o=.hole/\aC=0/\es=[]/\k.gr=true)\/o=.arr k aC z es
 |o'=>o=o'
def KN:Obj->Prop
 | .hole=>True
 | .arr k aC _ es=>aC=0/\es=[]/\k.gr=true
 |_=>False
def ie(T:an):an->an->Prop
 |_,[]=>True
 |[],o'::t=>KN o'/\ie T [] t
 |o::h,o'::t=>KO T o o'/\ie T h t
theorem mu.get{T:an}{e:Env}:∀{t:Env},mu T e t->∀x,aS t x=aS e x\/aS t x=.p .undef\/Gh T (aS e x) (aS t x)
 |[],_,x=>.inr (.inl rfl)
 |(y,v)::t,h,x=>by
  simp only[mu]at h;simp only[aS]
  split
  ·rename_i hx;subst hx;rcases h.1 with h|h
   ·exact .inl h.symm
   ·exact .inr (.inr h)
  ·exact mu.get h.2 x
theorem ie.get{T:an}:∀{h t:an},ie T h t->∀(b:Nat)(o:Obj),t[b]?=some o->
 o=.hole\/h[b]?=some o\/((h[b]?=none\/h[b]?=some .hole)/\∃k z,o=.arr k 0 z []/\k.gr=true)\/(∃v v',h[b]?=some (.box false v)/\o=.box false v'/\Gh T v v')
 |_,[],_,b,o,c=>by simp at c
 |[],o'::t,hk,b,o,c=>by
  simp only[ie]at hk;cases b with
  |zero=>
   simp at c;subst c;cases o'<;>have a:=hk.1<;>simp only[KN]at a
   ·exact .inl rfl
   ·obtain⟨rfl,rfl,d⟩:=a;exact .inr (.inr (.inl ⟨.inl rfl,_,_,rfl,d⟩))
  |succ b=>simpa using ie.get hk.2 b o (by simpa using c)
 |e::h,o'::t,hk,b,o,c=>by
  simp only[ie]at hk;cases b with
  |zero=>
   simp at c;subst c;have a:=hk.1;cases o' with
   |hole=>exact .inl rfl
   |dead=>simp only[KO]at a;subst a;exact .inr (.inl rfl)
   |map fz es=>simp only[KO]at a;subst a;exact .inr (.inl rfl)
   |dy s p=>simp only[KO]at a;subst a;exact .inr (.inl rfl)
   |loop L=>simp only[KO]at a;subst a;exact .inr (.inl rfl)
   |arr k aC z es=>
    simp only[KO]at a;rcases a with⟨rfl,rfl,rfl,d⟩|rfl
    ·exact .inr (.inr (.inl ⟨.inr rfl,_,_,rfl,d⟩))
    ·exact .inr (.inl rfl)
   |box fz v'=>
    cases fz with
    |true=>simp only[KO]at a;subst a;exact .inr (.inl rfl)
    |false=>
     simp only[KO]at a
     split at a
     ·rcases a with rfl|a
      ·exact .inr (.inl rfl)
      ·exact .inr (.inr (.inr ⟨_,_,rfl,rfl,a⟩))
     ·exact a.elim
  |succ b=>simpa using ie.get hk.2 b o (by simpa using c)
theorem cV.og{N:Nat}{s t:St}(d:t.heap.take N=s.heap.take N)(c:mu t.heap s.env t.env)(hh:ie t.heap s.heap t.heap)(e:iq t.heap t.env)(f:dG t.heap t.heap):cV N s t:=by
 refine .inr ⟨⟨c.get,hh.get,e.get,f.get⟩,fun b a=>?_⟩;have:=congrArg (fun l:an=>l[b]?) d;simpa[List.getElem?_take,a]using this
theorem Ow{T:an}{o:Obj}:KO T o o=True:=by
 cases o with
 |box fz v=>cases fz<;>simp[KO,KV]
 |_=>simp[KO]
theorem SX{T:an}{o:Obj}:KO T o .hole=True:=by simp[KO]
theorem SW{T:an}{v v':AV}:KO T (.box false v) (.box false v')=KV T v v':=(rfl)
theorem SY{T:an}{k:AK}{aC z:Nat}{a:List AV}:KO T .hole (.arr k aC z a)=(aC=0/\a=[]/\k.gr=true):=by simp[KO]
theorem SV:KN .hole=True:=(rfl)
theorem SU{k:AK}{aC z:Nat}{a:List AV}:KN (.arr k aC z a)=(aC=0/\a=[]/\k.gr=true):=(rfl)
theorem S0{T:an}{x y:PV}:KV T (.p x) (.p y)=(x=y):=by
 have:Gh T (.p x) (.p y)↔x=y:=by cases x<;>simp[Gh,fY,eq_comm]
 simp[KV,this]
def uZ{α:Type}(N:Nat)(mk:α->St)(ok:α->Prop)(m:α->Nat)(n:Nat)(s:St):Prop:=∃a',m a'<n/\ok a'/\cV N s (mk a')
def rU{α:Type}(N:Nat)(mk:α->St)(ok:α->Prop)(m:α->Nat)(n:Nat)(Q:bw->St->Prop)(e:bw)(s:St):Prop:=
 match e with
 | .normal=>uZ N mk ok m n s
 |e=>Q e s
section
variable{α:Type}{N:Nat}{mk:α->St}{ok:α->Prop}{m:α->Nat}{n:Nat}{Q:bw->St->Prop}{s s':St}{q:Cx}
theorem Vf:rU N mk ok m n Q .normal s=uZ N mk ok m n s:=(rfl)
theorem Wx{id:Nat}:rU N mk ok m n Q (.exit id) s=Q (.exit id) s:=(rfl)
theorem Xr:rU N mk ok m n Q .ret s=Q .ret s:=(rfl)
theorem wl{b:Code}(mk:α->St)(ok:α->Prop)(m:α->Nat)(a0:α)(k:ok a0)(ij:∀a,ok a->du P ag q b (rU q.2 mk ok m (m a) Q) (mk a))
 (j:(mk a0).heap.take q.2=s.heap.take q.2:=by simp)(h:mu (mk a0).heap s.env (mk a0).env:=by simp)(i:ie (mk a0).heap s.heap (mk a0).heap:=by simp)(l:iq (mk a0).heap (mk a0).env:=by simp)(o:dG (mk a0).heap (mk a0).heap:=by simp):
 du P ag q (.loop b) Q s:=by
 simp only[du];refine⟨fun n t=>∃a,ok a/\t=mk a/\n=m a,⟨m a0,mk a0,cV.og j h i l o,a0,k,rfl,rfl⟩,?_⟩;rintro n t ⟨a,g,rfl,rfl⟩;have:rU q.2 mk ok m (m a) Q=ue q.2 (m a) (fun n t=>∃a,ok a/\t=mk a/\n=m a) Q:=by
  funext e s
  cases e with
  |normal=>
   simp only[rU,ue,uZ,eq_iff_iff];constructor
   ·rintro⟨a',c,d,f⟩;exact⟨m a',mk a',c,f,a',d,rfl,rfl⟩
   ·rintro⟨_,_,c,f,a',d,rfl,rfl⟩;exact⟨a',c,d,f⟩
  |exit id=>rfl
  |ret=>rfl
 rw[<-this];exact ij a g
theorem rnd(a':α)(b:ok a')(a:m a'<n:=by omega)(e:(mk a').heap.take N=s.heap.take N:=by simp)(c:mu (mk a').heap s.env (mk a').env:=by simp)(d:ie (mk a').heap s.heap (mk a').heap:=by simp)(f:iq (mk a').heap (mk a').env:=by simp)(g:dG (mk a').heap (mk a').heap:=by simp):
 uZ N mk ok m n s:=⟨a',a,b,cV.og e c d f g⟩
end
theorem aQ(n:Int)(h:-9223372036854775808<=n)(a:n<=9223372036854775807):IntKind.i64.wrap n=n:=IntWalk.i64_in n ⟨h,a⟩
theorem Bl(a b:Int):(a<b/\¬b<=a)\/(¬a<b/\b<=a):=by omega
theorem bR{i:Nat}(h:i<4611686018427387904):IntKind.i64.wrap ((i:Int)+1)=(i:Int)+1:=aQ _ (by omega) (by omega)
attribute [simp] Wk bD aJ Obj.has JT Ku Jm JS VA Kq J4 rT Vf Wx Xr mu ie S1 S0 SZ S2 Ow SX SW SY SV SU lE fY AK.gr iq dG aG Obj.refs
attribute [simp] XN VC Wk.refl bD.refl
end
end Go.ah
namespace Go.ah
variable[Gl]
mutual
def dX:PV->Prop
 | .str s=>∀c∈s,c<256
 | .cq t=>dX t
 | .cT _ es| .seq es| .st _ es| .aE es=>mw es
 |_=>True
def mw:List PV->Prop
 |[]=>True
 |v::vs=>dX v/\mw vs
end
section
variable{P:a3}{w:a8}{ad:Nat->Prop}
theorem Mi(bs:ByteArray):∀c∈bs.data.toList.map (·.toNat),c<256:=by
 intro c hc;simp only[b3]at hc;obtain⟨b,_,rfl⟩:=hc;exact UInt8.toNat_lt b
mutual
theorem aW.dX:∀(v:PV)(cs:List a5),aW P w ad v cs->dX v
 | .str s,cs,h=>by simp only[aW]at h;obtain⟨bs,_,rfl⟩:=h;simp only[ah.dX];exact Mi bs
 | .cq t,cs,h=>by simp only[aW]at h;obtain⟨_,_,ts,a,_⟩:=h;simp only[ah.dX];exact aW.dX t ts a
 | .cT f b,cs,h=>by simp only[aW]at h;obtain⟨_,_,_,_,d,a,_⟩:=h;simp only[ah.dX];exact bm.dX _ b d a
 | .seq b,cs,h=>by
  simp only[aW]at h;simp only[ah.dX];rcases h with⟨rfl,_⟩|⟨_,_,_,_,d,a,_⟩
  ·trivial
  ·exact bm.dX _ b d a
 | .st u b,cs,h=>by simp only[aW]at h;obtain⟨l,d,_,a,_⟩:=h;simp only[ah.dX];exact bm.dX _ b d a
 | .aE b,cs,h=>by simp[aW]at h
 | .undef,_,_| .bool _,_,_| .int _ _,_,_| .dM,_,_| .aP,_,_| .fk,_,_| .gQ,_,_| .gB,_,_| .eg _,_,_| .func _ _ _,_,_=>by simp[ah.dX]
theorem bm.dX:∀(l:List Nat)(b:List PV)(d:List (List a5)),bm P w ad l b d->mw b
 |_,[],_,_=>by simp[ah.mw]
 |[],_::_,_,h=>by simp[bm]at h
 |n::l,v::vs,d,h=>by
  simp only[bm]at h;obtain⟨c,cs,_,a,_,g⟩:=h;simp only[ah.mw];exact⟨aW.dX v c a,bm.dX l vs cs g⟩
theorem aF.dX:∀(v:PV)(x:a5),aF P w ad v x->dX v
 | .str s,cs,h=>by simp only[aF]at h;obtain⟨bs,_,rfl⟩:=h;simp only[ah.dX];exact Mi bs
 | .cq t,cs,h=>by simp only[aF]at h;obtain⟨_,_,ts,a,_⟩:=h;simp only[ah.dX];exact aW.dX t ts a
 | .cT f b,cs,h=>by simp only[aF]at h;obtain⟨_,_,_,_,d,a,_⟩:=h;simp only[ah.dX];exact bm.dX _ b d a
 | .seq b,cs,h=>by
  simp only[aF]at h;simp only[ah.dX];rcases h with⟨rfl,_⟩|⟨_,_,_,_,d,a,_⟩
  ·trivial
  ·exact bm.dX _ b d a
 | .st u b,cs,h=>by simp only[aF]at h;obtain⟨l,d,_,a,_⟩:=h;simp only[ah.dX];exact bm.dX _ b d a
 | .aE b,cs,h=>by simp only[aF]at h;obtain⟨e,a,_⟩:=h;simp only[ah.dX];exact bL.dX b e a
 | .undef,_,_| .bool _,_,_| .int _ _,_,_| .dM,_,_| .aP,_,_| .fk,_,_| .gQ,_,_| .gB,_,_| .eg _,_,_| .func _ _ _,_,_=>by simp[ah.dX]
theorem bL.dX:∀(b:List PV)(e:List a5),bL P w ad b e->mw b
 |[],_,_=>by simp[ah.mw]
 |v::vs,e,h=>by
  simp only[bL]at h;obtain⟨y,i,_,a,g⟩:=h;simp only[ah.mw];exact⟨aF.dX v y a,bL.dX vs i g⟩
end
theorem TI{f:aT}{args:List PV}{v:PV}(h:mw args->ar P f args v):ar P f args v:=by
 by_cases hs:mw args
 ·exact h hs
 ·exact .inr fun w ad b a=>(hs (bL.dX _ _ a)).elim
end
end Go.ah
