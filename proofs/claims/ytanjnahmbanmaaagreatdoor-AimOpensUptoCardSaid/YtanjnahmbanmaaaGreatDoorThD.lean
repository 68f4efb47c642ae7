import Derived.Test.YtanjnahmbanmaaaGreatDoorThC
/- Parts of a proof. -/
set_option linter.unusedSimpArgs false
set_option linter.unusedVariables false
set_option linter.unusedSectionVars false
open BitVec renaming ofInt->am
open Bool renaming cond_eq_ite->ao, and_eq_true->ap, false_eq_true->av
open Go renaming Operand->ax, TypeId->ay, FuncId->aT, Program->a0, ResultVar->a1, Value->a3, IntKind->a4, BinOp->a5, World->a6
open Int renaming natCast_nonneg->a7, ofNat_eq_natCast->a8, toNat_natCast->a9
open List renaming getElem?_eq_getElem->bb, getElem?_eq_some_iff->be, mem_cons->bi, mem_iff_getElem->bl, range->bo, replicate->bp, isEmpty_cons->bv, of_mem_zip->bI, mem_map->bV, mem_of_getElem?->b0, map_id->b1, mem_range'_1->b2, getElem_mem->b3, nodup_cons->b4, map_cons->b5, rec->cb
open Nat renaming ble->cc, beq->ce, ble_eq_true_of_le->ck, beq_refl->cx, pow_succ->cy, mod_lt->c6
open Option renaming ite_none_right_eq_some->c9
open Option.some renaming injEq->da
open Prod.mk renaming injEq->db
namespace Go.ak
set_option linter.unusedSectionVars false
variable[Gl]
section
variable{P:a0}{ag:aT->Bool}{q:Cx}
theorem L6{Q:bu->St->Prop}{s:St}:di P ag q .skip Q s=Q .normal s:=(rfl)
theorem KQ{l:Nat}{Q:bu->St->Prop}{s:St}:di P ag q (.label l) Q s=Q .normal s:=(rfl)
theorem L7{id:Nat}{Q:bu->St->Prop}{s:St}:di P ag q (.exit id) Q s=Q (.exit id) s:=(rfl)
theorem QD{Q:bu->St->Prop}{s:St}:di P ag q .ret Q s=Q .ret s:=(rfl)
theorem KM{b:Code}{Q:bu->St->Prop}{s:St}:di P ag q (.scope b) Q s=di P ag q b Q s:=(rfl)
theorem L8{id:Nat}{l:List Oper}{Q:bu->St->Prop}{s:St}:di P ag q (.region id l.toArray true) Q s=fX P ag l.toArray l 0 [] (Q .normal) s:=by simp[di]
theorem KP{id:Nat}{l:List Oper}{Q:bu->St->Prop}{s:St}:di P ag q (.region id l.toArray false) Q s=fR P ag l.toArray l (Q .normal) s:=by simp[di]
theorem QE{a b:Code}{Q:bu->St->Prop}{s:St}:di P ag q (.seq a b) Q s=di P ag q a (tQ (di P ag q b Q) Q) s:=(rfl)
theorem KR{id:Nat}{b:Code}{Q:bu->St->Prop}{s:St}:di P ag q (.block id b) Q s=di P ag q b (nH id Q) s:=(rfl)
theorem L9{c:ax}{a b:Code}{Q:bu->St->Prop}{s:St}:di P ag q (.cond c a b) Q s=tg (ev s.env c) (di P ag q a Q) (di P ag q b Q) s:=(rfl)
theorem G8{K:St->Prop}{Q:bu->St->Prop}{s:St}:tQ K Q .normal s=K s:=(rfl)
theorem IA{id:Nat}{K:St->Prop}{Q:bu->St->Prop}{s:St}:tQ K Q (.exit id) s=Q (.exit id) s:=(rfl)
theorem Jy{K:St->Prop}{Q:bu->St->Prop}{s:St}:tQ K Q .ret s=Q .ret s:=(rfl)
theorem Hy{t:Bool}{a b:St->Prop}{s:St}:tg (.p (.bool t)) a b s=if t then a s else b s:=(rfl)
def vI(P:a0)(ag:aT->Bool)(b:Array Oper)(r:List Oper)(i:Nat)(a:List Touch)(K:St->Prop)(dst:Option Tmp)(s:St)(e:aW):Prop:=
 fX P ag b r (i+1) (fP i s.heap.length e a) K (e.app dst s)
theorem J1{b:Array Oper}{r:List Oper}{i:Nat}{a:List Touch}{K:St->Prop}{dst:Option Tmp}{env:Env}{heap:aj}{v:AV}{al aM:List (Nat×Obj)}{aS:List Obj}:
 vI P ag b r i a K dst ⟨env,heap⟩ ⟨v,al,aM,aS⟩=fX P ag b r (i+1) (fP i heap.length ⟨v,al,aM,aS⟩ a) K ⟨put dst v env,bc heap aM++aS⟩:=(rfl)
theorem LC{dst:Option Tmp}{env:Env}{heap:aj}{K:St->Prop}{v:AV}{al aM:List (Nat×Obj)}{aS:List Obj}:eh dst ⟨env,heap⟩ K ⟨v,al,aM,aS⟩=K ⟨put dst v env,bc heap aM++aS⟩:=(rfl)
theorem Le{dst:Option Tmp}{env:Env}{heap H:aj}{K:St->Prop}{v:AV}:zT dst ⟨env,heap⟩ K v H=K ⟨put dst v env,H⟩:=(rfl)
def yx(P:a0)(ag:aT->Bool)(b:Array Oper)(o:Oper)(r:List Oper)(i:Nat)(a:List Touch)(K:St->Prop)(c:Bool)(s:St)(g:AV):Prop:=
 match g with
 | .p (.bool t)=>if t=c then dm P ag o s (vI P ag b r i a K o.dst s)else fX P ag b r (i+1) a K ⟨put o.dst (.p (.aC [])) s.env,s.heap⟩
 | .p (.aC [])=>fX P ag b r (i+1) a K ⟨put o.dst (.p (.aC [])) s.env,s.heap⟩
 |_=>False
def yJ(P:a0)(ag:aT->Bool)(a:Array Oper)(o:Oper)(r:List Oper)(K:St->Prop)(b:Bool)(s:St)(g:AV):Prop:=
 match g with
 | .p (.bool t)=>if t=b then dj P ag o (fR P ag a r K) s else fR P ag a r K ⟨put o.dst (.p (.aC [])) s.env,s.heap⟩
 | .p (.aC [])=>fR P ag a r K ⟨put o.dst (.p (.aC [])) s.env,s.heap⟩
 |_=>False
theorem L5{b:Array Oper}{i:Nat}{a:List Touch}{K:St->Prop}{s:St}:fX P ag b [] i a K s=(iy b a=true/\K s):=(rfl)
theorem KL{b:Array Oper}{i c:Nat}{pos:String}{a:List Touch}{K:St->Prop}{s:St}{dst:Option Tmp}{op:Op}{af:Array Edge}{r:List Oper}:
 fX P ag b ({dst,op,type:=c,pos,after:=af,guard:=none}::r) i a K s=dm P ag {dst,op,type:=c,pos,after:=af,guard:=none} s (vI P ag b r i a K dst s):=(rfl)
theorem JE{a:Array Oper}{i d j:Nat}{b:Bool}{pos:String}{c:List Touch}{K:St->Prop}{s:St}{dst:Option Tmp}{op:Op}{af:Array Edge}{r:List Oper}:
 fX P ag a ({dst,op,type:=d,pos,after:=af,guard:=some (j,b)}::r) i c K s=yx P ag a {dst,op,type:=d,pos,after:=af,guard:=some (j,b)} r i c K b s (guardOf a j s.env):=(rfl)
theorem L3{a:Array Oper}{K:St->Prop}{s:St}:fR P ag a [] K s=K s:=(rfl)
theorem KJ{a:Array Oper}{b:Nat}{pos:String}{K:St->Prop}{s:St}{dst:Option Tmp}{op:Op}{af:Array Edge}{r:List Oper}:
 fR P ag a ({dst,op,type:=b,pos,after:=af,guard:=none}::r) K s=dj P ag {dst,op,type:=b,pos,after:=af,guard:=none} (fR P ag a r K) s:=(rfl)
theorem JD{a:Array Oper}{c j:Nat}{b:Bool}{pos:String}{K:St->Prop}{s:St}{dst:Option Tmp}{op:Op}{af:Array Edge}{r:List Oper}:
 fR P ag a ({dst,op,type:=c,pos,after:=af,guard:=some (j,b)}::r) K s=yJ P ag a {dst,op,type:=c,pos,after:=af,guard:=some (j,b)} r K b s (guardOf a j s.env):=(rfl)
end
section Dy
variable{P:a0}{ag:aT->Bool}{q:Cx}
end Dy
section ops
variable{P:a0}{ag:aT->Bool}{dst:Option Tmp}{ty:Nat}{pos:String}{af:Array Edge}{g:Option (Nat×Bool)}{env:Env}{heap:aj}{K:aW->Prop}{L:St->Prop}
theorem NW{x:ax}:dm P ag ⟨dst,.move x,ty,pos,af,g⟩ ⟨env,heap⟩ K=K {v:=ev env x}:=(rfl)
theorem JZ{x:ax}:dm P ag ⟨dst,.assign x,ty,pos,af,g⟩ ⟨env,heap⟩ K=K {v:=ev env x}:=(rfl)
theorem NT{c a b:ax}:dm P ag ⟨dst,.pick c a b,ty,pos,af,g⟩ ⟨env,heap⟩ K=bh (q8 (ev env c) (ev env a) (ev env b)) K:=(rfl)
theorem Ls{T:ay}:dm P ag ⟨dst,.alloc T,ty,pos,af,g⟩ ⟨env,heap⟩ K=bh (qM P T heap.length) K:=(rfl)
theorem ON{T:ay}{x:ax}:dm P ag ⟨dst,.box T x,ty,pos,af,g⟩ ⟨env,heap⟩ K=bh (tD P T heap.length (ev env x)) K:=(rfl)
theorem Lr{T:ay}{a:Array (Nat×ax)}:dm P ag ⟨dst,.build T a,ty,pos,af,g⟩ ⟨env,heap⟩ K=bh (qK P T (a.toList.map fun(i,x)=>(i,ev env x))) K:=(rfl)
theorem GJ{T:ay}{n:Nat}{a:Array (Nat×ax)}:dm P ag ⟨dst,.buildSlice T n a,ty,pos,af,g⟩ ⟨env,heap⟩ K=bh (pU P T n (a.toList.map fun(i,x)=>(i,ev env x)) heap.length) K:=(rfl)
theorem Ng{T:ay}{a:ax}:dm P ag ⟨dst,.load T a,ty,pos,af,g⟩ ⟨env,heap⟩ K=bh (pg P T heap (ev env a)) K:=(rfl)
theorem Ln{T:ay}{a x:ax}:dm P ag ⟨dst,.store T a x,ty,pos,af,g⟩ ⟨env,heap⟩ K=bh (oX P T heap (ev env a) (ev env x)) K:=(rfl)
theorem OM{op:a5}{T a:ay}{x y:ax}:dm P ag ⟨dst,.binOp op T x y a,ty,pos,af,g⟩ ⟨env,heap⟩ K=bh (gX P op T (lZ y) heap (ev env x) (ev env y)) K:=(rfl)
theorem OR{op:UnOp}{T:ay}{x:ax}:dm P ag ⟨dst,.unOp op T x,ty,pos,af,g⟩ ⟨env,heap⟩ K=bh (rM op (ev env x)) K:=(rfl)
theorem Ni{S D:ay}{x:ax}:dm P ag ⟨dst,.convert S D x,ty,pos,af,g⟩ ⟨env,heap⟩ K=bh (qU P S D heap (ev env x)) K:=(rfl)
theorem I7{t:ax}{i:Nat}:dm P ag ⟨dst,.extract t i,ty,pos,af,g⟩ ⟨env,heap⟩ K=bh (qm (ev env t) i) K:=(rfl)
theorem Hc{T:ay}{a:ax}{f:Nat}:dm P ag ⟨dst,.fieldAddr T a f,ty,pos,af,g⟩ ⟨env,heap⟩ K=bh (oC P T (ev env a) f) K:=(rfl)
theorem G9{T:ay}{x i:ax}:dm P ag ⟨dst,.indexAddr T x i,ty,pos,af,g⟩ ⟨env,heap⟩ K=bh (oB P T heap (ev env x) (ev env i)) K:=(rfl)
theorem Lq{T:ay}{x i:ax}:dm P ag ⟨dst,.index T x i,ty,pos,af,g⟩ ⟨env,heap⟩ K=bh (qO P T (ev env x) (ev env i)) K:=(rfl)
theorem OO{x:ax}{a:Array ay}:dm P ag ⟨dst,.call {callee:=.builtin .len,args:=#[x],argTypes:=a},ty,pos,af,g⟩ ⟨env,heap⟩ K=bh (rG P (a.getD 0 0) a.size heap (ev env x)) K:=(rfl)
theorem Nj{f:ax}{args:List ax}{a:Array ay}:dm P ag ⟨dst,.call {callee:=.value f,args:=args.toArray,argTypes:=a},ty,pos,af,g⟩ ⟨env,heap⟩ K=qJ P (ev env f) (args.map (ev env)) heap K:=(rfl)
theorem MN{x:ax}:dj P ag ⟨dst,.move x,ty,pos,af,g⟩ L ⟨env,heap⟩=eh dst ⟨env,heap⟩ L {v:=ev env x}:=(rfl)
theorem Jg{x:ax}:dj P ag ⟨dst,.assign x,ty,pos,af,g⟩ L ⟨env,heap⟩=eh dst ⟨env,heap⟩ L {v:=ev env x}:=(rfl)
theorem ML{c a b:ax}:dj P ag ⟨dst,.pick c a b,ty,pos,af,g⟩ L ⟨env,heap⟩=bh (q8 (ev env c) (ev env a) (ev env b)) (eh dst ⟨env,heap⟩ L):=(rfl)
theorem K2{T:ay}:dj P ag ⟨dst,.alloc T,ty,pos,af,g⟩ L ⟨env,heap⟩=bh (qM P T heap.length) (eh dst ⟨env,heap⟩ L):=(rfl)
theorem P8{T:ay}{x:ax}:dj P ag ⟨dst,.box T x,ty,pos,af,g⟩ L ⟨env,heap⟩=bh (tD P T heap.length (ev env x)) (eh dst ⟨env,heap⟩ L):=(rfl)
theorem K1{T:ay}{a:Array (Nat×ax)}:dj P ag ⟨dst,.build T a,ty,pos,af,g⟩ L ⟨env,heap⟩=bh (qK P T (a.toList.map fun(i,x)=>(i,ev env x))) (eh dst ⟨env,heap⟩ L):=(rfl)
theorem GC{T:ay}{n:Nat}{a:Array (Nat×ax)}:dj P ag ⟨dst,.buildSlice T n a,ty,pos,af,g⟩ L ⟨env,heap⟩=bh (pU P T n (a.toList.map fun(i,x)=>(i,ev env x)) heap.length) (eh dst ⟨env,heap⟩ L):=(rfl)
theorem MO{T:ay}{a:ax}:dj P ag ⟨dst,.load T a,ty,pos,af,g⟩ L ⟨env,heap⟩=bh (pg P T heap (ev env a)) (eh dst ⟨env,heap⟩ L):=(rfl)
theorem Lg{T:ay}{a x:ax}:dj P ag ⟨dst,.store T a x,ty,pos,af,g⟩ L ⟨env,heap⟩=bh (oX P T heap (ev env a) (ev env x)) (eh dst ⟨env,heap⟩ L):=(rfl)
theorem P7{op:a5}{T a:ay}{x y:ax}:dj P ag ⟨dst,.binOp op T x y a,ty,pos,af,g⟩ L ⟨env,heap⟩=bh (gX P op T (lZ y) heap (ev env x) (ev env y)) (eh dst ⟨env,heap⟩ L):=(rfl)
theorem Qc{op:UnOp}{T:ay}{x:ax}:dj P ag ⟨dst,.unOp op T x,ty,pos,af,g⟩ L ⟨env,heap⟩=bh (rM op (ev env x)) (eh dst ⟨env,heap⟩ L):=(rfl)
theorem MQ{S D:ay}{x:ax}:dj P ag ⟨dst,.convert S D x,ty,pos,af,g⟩ L ⟨env,heap⟩=bh (qU P S D heap (ev env x)) (eh dst ⟨env,heap⟩ L):=(rfl)
theorem Ie{t:ax}{i:Nat}:dj P ag ⟨dst,.extract t i,ty,pos,af,g⟩ L ⟨env,heap⟩=bh (qm (ev env t) i) (eh dst ⟨env,heap⟩ L):=(rfl)
theorem G0{T:ay}{a:ax}{f:Nat}:dj P ag ⟨dst,.fieldAddr T a f,ty,pos,af,g⟩ L ⟨env,heap⟩=bh (oC P T (ev env a) f) (eh dst ⟨env,heap⟩ L):=(rfl)
theorem GZ{T:ay}{x i:ax}:dj P ag ⟨dst,.indexAddr T x i,ty,pos,af,g⟩ L ⟨env,heap⟩=bh (oB P T heap (ev env x) (ev env i)) (eh dst ⟨env,heap⟩ L):=(rfl)
theorem K0{T:ay}{x i:ax}:dj P ag ⟨dst,.index T x i,ty,pos,af,g⟩ L ⟨env,heap⟩=bh (qO P T (ev env x) (ev env i)) (eh dst ⟨env,heap⟩ L):=(rfl)
theorem P9{x:ax}{a:Array ay}:dj P ag ⟨dst,.call {callee:=.builtin .len,args:=#[x],argTypes:=a},ty,pos,af,g⟩ L ⟨env,heap⟩=bh (rG P (a.getD 0 0) a.size heap (ev env x)) (eh dst ⟨env,heap⟩ L):=(rfl)
theorem MR{f:ax}{args:List ax}{a:Array ay}:dj P ag ⟨dst,.call {callee:=.value f,args:=args.toArray,argTypes:=a},ty,pos,af,g⟩ L ⟨env,heap⟩=qV P (ev env f) (args.map (ev env)) heap (zT dst ⟨env,heap⟩ L):=(rfl)
theorem Lo{T:ay}{x:ax}{lo hi:Option ax}:dm P ag ⟨dst,.slice T x lo hi none,ty,pos,af,g⟩ ⟨env,heap⟩ K=bh (oZ P T heap (ev env x) (lo.map (ev env)) (hi.map (ev env))) K:=(rfl)
theorem KY{T:ay}{x:ax}{lo hi:Option ax}:dj P ag ⟨dst,.slice T x lo hi none,ty,pos,af,g⟩ L ⟨env,heap⟩=bh (oZ P T heap (ev env x) (lo.map (ev env)) (hi.map (ev env))) (eh dst ⟨env,heap⟩ L):=(rfl)
theorem JX{T:ay}{x i:ax}{ok:Bool}:dm P ag ⟨dst,.lookup T x i ok,ty,pos,af,g⟩ ⟨env,heap⟩ K=bh (qY P T heap (ev env x) (ev env i) ok) K:=(rfl)
theorem Je{T:ay}{x i:ax}{ok:Bool}:dj P ag ⟨dst,.lookup T x i ok,ty,pos,af,g⟩ L ⟨env,heap⟩=bh (qY P T heap (ev env x) (ev env i) ok) (eh dst ⟨env,heap⟩ L):=(rfl)
theorem Hq{T:ay}{m k x:ax}:dm P ag ⟨dst,.mapUpdate T m k x,ty,pos,af,g⟩ ⟨env,heap⟩ K=bh (lY P T heap (ev env m) (ev env k) (ev env x)) K:=(rfl)
theorem GX{T:ay}{m k x:ax}:dj P ag ⟨dst,.mapUpdate T m k x,ty,pos,af,g⟩ L ⟨env,heap⟩=bh (lY P T heap (ev env m) (ev env k) (ev env x)) (eh dst ⟨env,heap⟩ L):=(rfl)
theorem JY{T:ay}{m k x:ax}:dm P ag ⟨dst,.insert T m k x,ty,pos,af,g⟩ ⟨env,heap⟩ K=bh (lY P T heap (ev env m) (ev env k) (ev env x)) K:=(rfl)
theorem Jf{T:ay}{m k x:ax}:dj P ag ⟨dst,.insert T m k x,ty,pos,af,g⟩ L ⟨env,heap⟩=bh (lY P T heap (ev env m) (ev env k) (ev env x)) (eh dst ⟨env,heap⟩ L):=(rfl)
theorem Lp{T:ay}{x:ax}:dm P ag ⟨dst,.range T x,ty,pos,af,g⟩ ⟨env,heap⟩ K=bh (qE P T heap.length (ev env x)) K:=(rfl)
theorem KZ{T:ay}{x:ax}:dj P ag ⟨dst,.range T x,ty,pos,af,g⟩ L ⟨env,heap⟩=bh (qE P T heap.length (ev env x)) (eh dst ⟨env,heap⟩ L):=(rfl)
theorem NU{it:ax}:dm P ag ⟨dst,.next it true,ty,pos,af,g⟩ ⟨env,heap⟩ K=bh (re heap (ev env it)) K:=(rfl)
theorem MM{it:ax}:dj P ag ⟨dst,.next it true,ty,pos,af,g⟩ L ⟨env,heap⟩=bh (re heap (ev env it)) (eh dst ⟨env,heap⟩ L):=(rfl)
theorem Hr{T:ay}{l c:ax}:dm P ag ⟨dst,.makeSlice T l c,ty,pos,af,g⟩ ⟨env,heap⟩ K=bh (ri P T heap.length (ev env l) (ev env c)) K:=(rfl)
theorem GY{T:ay}{l c:ax}:dj P ag ⟨dst,.makeSlice T l c,ty,pos,af,g⟩ L ⟨env,heap⟩=bh (ri P T heap.length (ev env l) (ev env c)) (eh dst ⟨env,heap⟩ L):=(rfl)
theorem Hv{x:ax}:dm P ag ⟨dst,.nilCheck x,ty,pos,af,g⟩ ⟨env,heap⟩ K=bh (qz (ev env x)) K:=(rfl)
theorem HU{x:ax}:dj P ag ⟨dst,.nilCheck x,ty,pos,af,g⟩ L ⟨env,heap⟩=bh (qz (ev env x)) (eh dst ⟨env,heap⟩ L):=(rfl)
theorem OQ{args:Array ax}{a:Array ay}:dm P ag ⟨dst,.call {callee:=.builtin .min,args,argTypes:=a},ty,pos,af,g⟩ ⟨env,heap⟩ K=bh (ku false (args.toList.map (ev env))) K:=(rfl)
theorem Qb{args:Array ax}{a:Array ay}:dj P ag ⟨dst,.call {callee:=.builtin .min,args,argTypes:=a},ty,pos,af,g⟩ L ⟨env,heap⟩=bh (ku false (args.toList.map (ev env))) (eh dst ⟨env,heap⟩ L):=(rfl)
theorem OP{args:Array ax}{a:Array ay}:dm P ag ⟨dst,.call {callee:=.builtin .max,args,argTypes:=a},ty,pos,af,g⟩ ⟨env,heap⟩ K=bh (ku true (args.toList.map (ev env))) K:=(rfl)
theorem Qa{args:Array ax}{a:Array ay}:dj P ag ⟨dst,.call {callee:=.builtin .max,args,argTypes:=a},ty,pos,af,g⟩ L ⟨env,heap⟩=bh (ku true (args.toList.map (ev env))) (eh dst ⟨env,heap⟩ L):=(rfl)
theorem I6{T:ay}:dm P ag ⟨dst,.makeMap T none,ty,pos,af,g⟩ ⟨env,heap⟩ K=K {v:=.map heap.length,aS:=[.map false []]}:=(rfl)
theorem IP{T:ay}:dj P ag ⟨dst,.makeMap T none,ty,pos,af,g⟩ L ⟨env,heap⟩=eh dst ⟨env,heap⟩ L {v:=.map heap.length,aS:=[.map false []]}:=(rfl)
theorem J0{s x:ax}{T X:ay}:dm P ag ⟨dst,.call {callee:=.builtin .append,args:=#[s,x],argTypes:=#[T,X]},ty,pos,af,g⟩ ⟨env,heap⟩ K=bh (oW P T X heap (ev env s) (ev env x)) K:=by simp[dm,kx]
theorem Jh{s x:ax}{T X:ay}:dj P ag ⟨dst,.call {callee:=.builtin .append,args:=#[s,x],argTypes:=#[T,X]},ty,pos,af,g⟩ L ⟨env,heap⟩=bh (oW P T X heap (ev env s) (ev env x)) (eh dst ⟨env,heap⟩ L):=by simp[dj,kx]
theorem Nh{s x:ax}{T X:ay}:dm P ag ⟨dst,.call {callee:=.builtin .copy,args:=#[s,x],argTypes:=#[T,X]},ty,pos,af,g⟩ ⟨env,heap⟩ K=bh (copyV P T heap (ev env s) (ev env x)) K:=by simp[dm,kx]
theorem MP{s x:ax}{T X:ay}:dj P ag ⟨dst,.call {callee:=.builtin .copy,args:=#[s,x],argTypes:=#[T,X]},ty,pos,af,g⟩ L ⟨env,heap⟩=bh (copyV P T heap (ev env s) (ev env x)) (eh dst ⟨env,heap⟩ L):=by simp[dj,kx]
theorem OJ{f:aT}{fi ca:List AV}{args:List AV}{M:AV->aj->Prop}:qV P (.func f fi ca) args heap M=gO P false f (fi++args++ca) heap M:=(rfl)
theorem Nk{f:aT}{fi ca:List AV}{args:List AV}:qJ P (.func f fi ca) args heap K=gU P f (fi++args++ca) heap K:=(rfl)
theorem OK{f:aT}{fi ca:List PV}{args:List AV}{M:AV->aj->Prop}:qV P (.p (.func f fi ca)) args heap M=gO P false f (fi.map .p++args++ca.map .p) heap M:=(rfl)
theorem OL{f:aT}{fi ca:List PV}{args:List AV}:qJ P (.p (.func f fi ca)) args heap K=gU P f (fi.map .p++args++ca.map .p) heap K:=(rfl)
end ops
section
variable{P:a0}
@[simp] theorem aMk{b:Bool}:aL (.bool b)=.leaf:=(rfl)
@[simp] theorem aMO{k:a4}{n:Int}:aL (.int k n)=.leaf:=(rfl)
@[simp] theorem aMU{l:List Nat}:aL (.str l)=.leaf:=(rfl)
@[simp] theorem aMQ:aL .aO=.leaf:=(rfl)
@[simp] theorem aMR{l:List PV}:aL (.seq l)=.leaf:=(rfl)
@[simp] theorem aMN{l:List (PV×PV)}:aL (.dT l)=.leaf:=(rfl)
@[simp] theorem aMP:aL .gD=.leaf:=(rfl)
@[simp] theorem aMT{u:ay}{fs:List PV}:aL (.st u fs)=.agg u:=(rfl)
@[simp] theorem aMh{v:PV}:aa (.p v)=aL v:=(rfl)
@[simp] theorem aMj{u:ay}{fs:List AV}:aa (.st u fs)=.agg u:=(rfl)
@[simp] theorem aMi{b v e o l:Nat}:aa (.sl b v e o l)=.leaf:=(rfl)
@[simp] theorem aMg{f:aT}{a b:List AV}:aa (.func f a b)=.leaf:=(rfl)
@[simp] theorem aLe{u:ay}{fs:List PV}:bW (.st u fs)=fs:=(rfl)
theorem VE{a:List a1}{Q:PV->Prop}{s:St}:zo P a Q .ret s=∃vs,fC P s a=some vs/\∃v,et s.heap 9 (oneOf vs)=some v/\Q v:=by simp[zo]
theorem To{a:List a1}{Q:PV->Prop}{s:St}:zo P a Q .normal s=∃vs,fC P s a=some vs/\∃v,et s.heap 9 (oneOf vs)=some v/\Q v:=by simp[zo]
attribute [simp] VE To jd L6 KQ L7 QD KM L8 KP QE KR L9 G8 IA Jy Hy J1 LC Le L5 KL L3 KJ JE JD
 NW JZ NT Ls ON Lr GJ Ng Ln OM OR Ni I7 Hc G9 Lq OO Nj
 MN Jg ML K2 P8 K1 GC MO Lg P7 Qc MQ Ie G0 GZ K0 P9 MR OK OL Lo KY JX Je Hq GX JY Jf Lp KZ NU MM Hr GY Hv HU OQ Qb OP Qa I6 IP J0 Jh Nh MP OJ Nk oW kr oZ qY lY qE re ri copyV qz ku gJ dB eM fO kU pC lO sP gk iA lJ US Vs
 SC T0 U6 Sq Tb UJ
 aQ put iG ev ofConst bc fP gL nD eK kD fL gY eE q8 qM tD jf qK pU gX tM D3 rM qU qm qO rG pg oX oC oB lenOf gR iw lI bD
 lZ fC o6 oneOf et
end
section
variable{P:a0}{ag:aT->Bool}
def sE:ji->ji->Bool
 | .leaf,.leaf=>true
 | .agg u,.agg v=>ce u v
 |_,_=>false
theorem iH{a b:ji}(h:sE a b=true):a=b/\b≠.bad:=by
 cases a<;>cases b<;>simp_all [sE]
def kE:AK->AK->Bool
 | .exact,.exact| .grow,.grow| .frozen,.frozen| .bytes,.bytes=>true
 |_,_=>false
def vZ:AK->Bool
 | .frozen=>false
 |_=>true
theorem C3{k:AK}(h:vZ k=true):k≠.frozen:=by cases k<;>simp_all [vZ]
def nZ(k:AK)(a:List AV):Bool:=match k.gr,a with
 |true,[]=>false
 |_,_=>true
theorem vo{k:AK}{a:List AV}(h:nZ k a=true):¬(k.gr=true/\a=[]):=by
 rintro⟨b,rfl⟩;simp[nZ,b]at h
theorem dt{a b:Nat}(h:ce a b=true):a=b:=Nat.eq_of_beq_eq_true h
theorem cS{a b:Nat}(h:cc a b=true):a<=b:=Nat.le_of_ble_eq_true h
def O9:a4->a4->Bool:=fun a b=>decide (a=b)
def vp(P:a0)(l:List Nat):List (Nat×AV)->Bool
 |[]=>true
 |(i,v)::r=>(match l[i]? with
  |some n=>ce (bD P (aa v)) n&&(match aa v with
   | .bad=>false
   |_=>true)
  |none=>false)&&vp P l r
theorem Bu{l:List Nat}:∀{r:List (Nat×AV)},vp P l r=true->lI P l r
 |[],_=>trivial
 |(i,v)::r,h=>by
  simp only[vp,ap]at h;refine⟨?_,Bu h.2⟩;have a:=h.1
  split at a
  ·rename_i n c;simp only[ap]at a;refine⟨n,c,dt a.1,fun b=>?_⟩;rw[b]at a;simp at a
  ·simp at a
def ph(P:a0)(sz:Nat):List AV->Bool
 |[]=>true
 |v::r=>(match aa v with
  | .bad=>false
  |s=>ce (bD P s) sz)&&ph P sz r
theorem sU{sz:Nat}:∀{r:List AV},ph P sz r=true->eM P sz r
 |[],_=>trivial
 |v::r,h=>by
  simp only[ph,ap]at h;refine⟨?_,sU h.2⟩;have a:=h.1
  split at a
  ·simp at a
  ·rename_i b;exact⟨b,dt a⟩
def DO(P:a0)(T:ay)(H:aj)(a:AV):Option aW:=
 match a with
 | .ptr b path=>match H[b]? with
  |some (.box fz t)=>match eK t path with
   |some s=>bif sE (kindOf P T) (aa s)then some {v:=s,al:=[(b,.box fz t)]}else none
   |none=>none
  |_=>none
 | .bZ b az ai i path=>match H[b]? with
  |some (.arr k d c es)=>bif ce az d&&ce ai c then match es[i]? with
   |some x=>match eK x path with
    |some s=>bif sE (kindOf P T) (aa s)then some {v:=s,al:=[(b,.arr k d c es)]}else none
    |none=>none
   |none=>none
   else none
  |_=>none
 | .p (.cm t)=>bif sE (kindOf P T) (aL t)then some {v:=.p t}else none
 |_=>none
theorem WO{T:ay}{H:aj}{a:AV}{e:aW}{K:aW->Prop}(h:DO P T H a=some e)(hk:K e):nL P T H a K:=by
 unfold DO at h;unfold nL
 split at h
 ·split at h
  ·split at h
   ·rename_i hs;simp only[ao,c9,da]at h;rename_i c _ _;obtain⟨b,rfl⟩:=h;simp only[c,hs];exact⟨(iH b).1,hk⟩
   ·simp at h
  ·simp at h
 ·split at h
  ·rename_i c;simp only[ao,c9,ap]at h;obtain⟨⟨b,d⟩,h⟩:=h
   split at h
   ·rename_i hx
    split at h
    ·rename_i hs;simp only[c9,da]at h;obtain⟨f,rfl⟩:=h;obtain⟨hi,rfl⟩:=be.1 hx;simp only[c];refine⟨dt b,dt d,hi,?_⟩;simp only[hs];exact⟨(iH f).1,hk⟩
    ·simp at h
   ·simp at h
  ·simp at h
 ·simp only[ao,c9,da]at h;obtain⟨b,rfl⟩:=h;exact⟨(iH b).1,hk⟩
 ·simp at h
def CU(P:a0)(T:ay)(H:aj)(a x:AV):Option aW:=
 bif sE (kindOf P T) (aa x)then match a with
 | .ptr b path=>match H[b]? with
  |some (.box false t)=>match eK t path,fL t path x with
   |some s,some d=>bif sE (aa s) (aa x)then some {v:=.p (.aC []),al:=[(b,.box false t)],aM:=[(b,.box false d)]}else none
   |_,_=>none
  |_=>none
 | .bZ b az ai i path=>match H[b]? with
  |some (.arr k e c es)=>bif ce az e&&(ce ai c&&vZ k)then match es[i]? with
   |some y=>match eK y path,fL y path x with
    |some s,some d=>bif sE (aa s) (aa x)then some {v:=.p (.aC []),al:=[(b,.arr k e c es)],aM:=[(b,.arr k e c (es.set i d))]}else none
    |_,_=>none
   |none=>none
   else none
  |_=>none
 |_=>none
 else none
theorem UY{T:ay}{H:aj}{a x:AV}{e:aW}{K:aW->Prop}(h:CU P T H a x=some e)(hk:K e):nA P T H a x K:=by
 unfold CU at h;unfold nA;simp only[ao,c9]at h;obtain⟨f,h⟩:=h;refine⟨(iH f).1,(iH f).2,?_⟩
 split at h
 ·split at h
  ·rename_i c
   split at h
   ·rename_i hs d;simp only[c9,da]at h;obtain⟨b,rfl⟩:=h;simp only[c,hs,d];exact⟨(iH b).1,hk⟩
   ·simp at h
  ·simp at h
 ·split at h
  ·rename_i c;simp only[c9,ap]at h;obtain⟨⟨b,g,i⟩,h⟩:=h
   split at h
   ·rename_i k
    split at h
    ·rename_i hs d;simp only[c9,da]at h;obtain⟨j,rfl⟩:=h;obtain⟨hi,rfl⟩:=be.1 k;simp only[c];refine⟨dt b,dt g,C3 i,hi,?_⟩;simp only[hs,d];exact⟨(iH j).1,hk⟩
    ·simp at h
   ·simp at h
  ·simp at h
 ·simp at h
def DG(op:a5)(k:a4)(a b:Int):Option PV:=
 match op with
 | .add=>some (.int k (k.wrap (a+b)))
 | .sub=>some (.int k (k.wrap (a-b)))
 | .mul=>some (.int k (k.wrap (a*b)))
 | .quo=>match b with
  | .ofNat 0=>none
  |b=>some (.int k (k.wrap (a.tdiv b)))
 | .rem=>match b with
  | .ofNat 0=>none
  |b=>some (.int k (a.tmod b))
 | .and=>some (.int k (k.wrap (am k.bits a&&&am k.bits b).toNat))
 | .or=>some (.int k (k.wrap (am k.bits a|||am k.bits b).toNat))
 | .xor=>some (.int k (k.wrap (am k.bits a^^^am k.bits b).toNat))
 | .andNot=>some (.int k (k.wrap (am k.bits a&&&~~~am k.bits b).toNat))
 | .eql=>some (.bool (a==b))
 | .neq=>some (.bool (a !=b))
 | .lss=>some (.bool (decide (a<b)))
 | .leq=>some (.bool (decide (a<=b)))
 | .gtr=>some (.bool (decide (a>b)))
 | .geq=>some (.bool (decide (a>=b)))
 | .shl=>match b with
  | .ofNat _=>some (.int k (k.wrap (a*2^(min b.toNat k.bits))))
  |_=>none
 | .shr=>match b with
  | .ofNat _=>some (.int k (a.fdiv (2^(min b.toNat k.bits))))
  |_=>none
theorem afO{op:a5}{k:a4}{a b:Int}{v:PV}{K:PV->Prop}(h:DG op k a b=some v)(hk:K v):pf op k a b K:=by
 cases op<;>simp only[DG]at h<;>simp only[pf]
 case quo|rem=>
  split at h
  ·simp at h
  ·rename_i d;simp only[da]at h;subst h;exact⟨fun c=>d (by rw[c];rfl),hk⟩
 case shl|shr=>
  split at h
  ·simp only[da]at h;subst h;exact⟨a7 _,hk⟩
  ·simp at h
 all_goals (simp only[da]at h;subst h;exact hk)
def Ds(P:a0)(op:a5)(T:ay)(c:Bool)(H:aj)(x y:AV):Option PV:=
 match x,y with
 | .p (.int k a),.p (.int d b)=>bif O9 k d||(match op with
  | .shl| .shr=>true
  |_=>false)then DG op k a b else none
 | .p (.str a),.p (.str b)=>match op with
  | .add=>bif cc (a.length+b.length) 9223372036854775807 then some (.str (a++b))else none
  | .eql=>some (.bool (a==b))
  | .neq=>some (.bool (!(a==b)))
  | .lss=>some (.bool (iZ a b))
  | .leq=>some (.bool (iZ a b||a==b))
  | .gtr=>some (.bool (!(iZ a b||a==b)))
  | .geq=>some (.bool (!(iZ a b)))
  |_=>none
 | .p (.bool a),.p (.bool b)=>bif qC P T then match op with
  | .eql=>some (.bool (a==b))
  | .neq=>some (.bool (!(a==b)))
  |_=>none
  else none
 | .p (.st u fs),.p (.st u' gs)=>bif rD P T then match iK P 9 T (.st u fs) (.st u' gs),op with
  |some r,.eql=>some (.bool r)
  |some r,.neq=>some (.bool !r)
  |_,_=>none
  else none
 |x,y=>match dA P T c y with
  |some k=>match cQ H k x,op with
   |some r,.eql=>some (.bool r)
   |some r,.neq=>some (.bool !r)
   |_,_=>none
  |none=>none
theorem XQ{op:a5}{T:ay}{c:Bool}{H:aj}{x y:AV}{v:PV}{K:PV->Prop}(h:Ds P op T c H x y=some v)(hk:K v):kf P op T c H x y K:=by
 unfold Ds at h;unfold kf
 split at h
 ·simp only[ao,c9,Bool.or_eq_true,O9,decide_eq_true_eq]at h;refine⟨?_,afO h.2 hk⟩;rcases h.1 with b|b
  ·exact .inl b
  ·cases op<;>simp at b<;>simp
 ·split at h<;>simp only[pc]
  ·simp only[ao,c9,da]at h;obtain⟨b,rfl⟩:=h;exact⟨by have:=cS b;omega,hk⟩
  ·simp only[da]at h;subst h;exact hk
  ·simp only[da]at h;subst h;exact hk
  ·simp only[da]at h;subst h;exact hk
  ·simp only[da]at h;subst h;exact hk
  ·simp only[da]at h;subst h;exact hk
  ·simp only[da]at h;subst h;exact hk
  ·simp at h
 ·simp only[ao,c9]at h;refine⟨h.1,?_⟩;have a:=h.2
  split at a
  ·simp only[da]at a;subst a;exact hk
  ·simp only[da]at a;subst a;exact hk
  ·simp at a
 ·simp only[ao,c9]at h;refine⟨h.1,?_⟩;have a:=h.2
  split at a
  ·rename_i d;simp only[da]at a;subst a;simp only[d];exact hk
  ·rename_i d;simp only[da]at a;subst a;simp only[d];exact hk
  ·simp at a
 ·split at h
  case h_2=>simp at h
  rename_i k f;show kf P op T c H x y _;rw[IV f];obtain⟨r,e,d⟩:∃r,cQ H k x=some r/\((op=.eql/\v=.bool r)\/(op=.neq/\v=.bool !r)):=by
   revert h;generalize cQ H k x=q;intro h;cases q with
   |none=>simp at h
   |some r=>cases op<;>simp at h<;>exact⟨r,rfl,by simp[h]⟩
  rw[e];rcases d with⟨rfl,rfl⟩|⟨rfl,rfl⟩<;>exact hk
def Bk(P:a0)(T:ay)(a:AV)(f:Nat):Option aW:=
 match eX P T with
 |some (u,n)=>bif cc (f+1) n then match a with
  | .ptr b path=>some {v:=.ptr b (path++[(u,f)])}
  | .bZ b az ai i path=>some {v:=.bZ b az ai i (path++[(u,f)])}
  | .p (.cm t)=>bif sE (aL t) (.agg u)then match(bW t)[f]? with
   |some g=>some {v:=.p (.cm g)}
   |none=>none
   else none
  |_=>none
  else none
 |_=>none
theorem Sv{T:ay}{a:AV}{f:Nat}{e:aW}{K:aW->Prop}(h:Bk P T a f=some e)(hk:K e):ni P T a f K:=by
 unfold Bk at h;unfold ni
 split at h
 ·rename_i hs;simp only[ao,c9]at h;obtain⟨b,h⟩:=h;simp only[hs];refine⟨by have:=cS b;omega,?_⟩
  split at h
  ·simp only[da]at h;subst h;exact hk
  ·simp only[da]at h;subst h;exact hk
  ·simp only[c9]at h;obtain⟨c,h⟩:=h
   split at h
   ·rename_i d;simp only[da]at h;subst h;simp only[d];exact⟨(iH c).1,hk⟩
   ·simp at h
  ·simp at h
 ·simp at h
def oE(a:Option Nat)(b:Nat):Bool:=match a with
 |some x=>ce x b
 |none=>false
theorem vG{a:Option Nat}{b:Nat}(h:oE a b=true):a=some b:=by
 unfold oE at h;split at h
 ·rw[dt h]
 ·simp at h
def Bh(P:a0)(T:ay)(H:aj)(x i:AV):Option aW:=
 match i with
 | .p (.int _ (.ofNat i))=>match x with
  | .p (.cN _ es)=>match es[i]? with
   |some y=>bif oE (cC P T) (bD P (aL y))then some {v:=.p (.cm y)}else none
   |none=>none
  | .p (.seq es)=>match es[i]? with
   |some y=>bif oE (cC P T) (bD P (aL y))then some {v:=.p (.cm y)}else none
   |none=>none
  | .sl b az ai off len=>bif oE (cC P T) ai&&cc (i+1) len then match H[b]? with
   |some (.arr k c a es)=>bif ce az c&&(ce ai a&&nZ k es)then some {v:=.bZ b az ai (off+i) [],al:=[(b,.arr k c a es)]}else none
   |_=>none
   else none
  | .ptr b path=>match gW P T with
   |some (u,n)=>bif cc (i+1) n then some {v:=.ptr b (path++[(u,i)])}else none
   |_=>none
  | .bZ b az ai j path=>match gW P T with
   |some (u,n)=>bif cc (i+1) n then some {v:=.bZ b az ai j (path++[(u,i)])}else none
   |_=>none
  | .p (.cm t)=>match gW P T with
   |some (u,n)=>bif sE (aL t) (.agg u)&&cc (i+1) n then match(bW t)[i]? with
    |some g=>some {v:=.p (.cm g)}
    |none=>none
    else none
   |_=>none
  |_=>none
 |_=>none
theorem SH{T:ay}{H:aj}{x i:AV}{e:aW}{K:aW->Prop}(h:Bh P T H x i=some e)(hk:K e):nh P T H x i K:=by
 unfold Bh at h;unfold nh
 split at h
 case h_2=>simp at h
 rename_i i;refine⟨a7 _,?_⟩;simp only[a8,a9]
 split at h
 ·split at h
  ·rename_i y d;simp only[ao,c9,da]at h;obtain⟨a,rfl⟩:=h;obtain⟨hi,rfl⟩:=be.1 d;exact⟨hi,vG a,hk⟩
  ·simp at h
 ·split at h
  ·rename_i y d;simp only[ao,c9,da]at h;obtain⟨a,rfl⟩:=h;obtain⟨hi,rfl⟩:=be.1 d;exact⟨hi,vG a,hk⟩
  ·simp at h
 ·simp only[ao,c9,ap]at h;obtain⟨⟨a,c⟩,h⟩:=h;refine⟨vG a,by have:=cS c;omega,?_⟩
  split at h
  ·rename_i k;simp only[c9,da]at h;obtain⟨⟨f,g,j⟩,rfl⟩:=h;simp only[k];exact⟨dt f,dt g,vo j,hk⟩
  ·simp at h
 ·split at h
  ·rename_i b;simp only[ao,c9,da]at h;obtain⟨a,rfl⟩:=h;simp only[b];exact⟨by have:=cS a;omega,hk⟩
  ·simp at h
 ·split at h
  ·rename_i b;simp only[ao,c9,da]at h;obtain⟨a,rfl⟩:=h;simp only[b];exact⟨by have:=cS a;omega,hk⟩
  ·simp at h
 ·split at h
  ·rename_i b;simp only[ao,c9,ap]at h;obtain⟨⟨a,c⟩,h⟩:=h
   split at h
   ·rename_i l;simp only[da]at h;subst h;simp only[b,l];exact⟨(iH a).1,by have:=cS c;omega,hk⟩
   ·simp at h
  ·simp at h
 ·simp at h
def CJ(P:a0)(T X:ay)(H:aj)(s x:AV):Option aW:=
 match cC P T,gJ H x with
 |some sz,some xs=>bif iI P X&&((ct P (dY P T)).isSome&&ph P sz xs)then
  match s with
  | .p .aO=>match xs with
   |[]=>some {v:=s,al:=dB H x}
   |y::r=>bif cc (y::r).length cW then some {v:=.sl H.length 0 sz 0 (y::r).length,al:=dB H x,aS:=[.arr (gk P T) 0 sz (y::r)]}else none
  | .p (.cN full es)=>bif ph P sz (es.map .p)then match xs with
   |[]=>some {v:=s,al:=dB H x}
   |y::r=>bif full&&cc (es.length+(y::r).length) cW then
    some {v:=.sl H.length 0 sz 0 (es.length+(y::r).length),al:=dB H x,aS:=[.arr (gk P T) 0 sz (es.map .p++(y::r))]}else none
   else none
  | .sl b az ai off len=>match H[b]? with
   |some (.arr k c a es)=>bif ce az c&&(ce ai a&&(ce ai sz&&cc (off+len) es.length))then
    match xs with
    |[]=>some {v:=s,al:=(b,.arr k c a es)::dB H x}
    |y::r=>bif cc (es.length+(y::r).length) cW then match k with
     | .frozen=>none
     | .exact=>bif cc (off+len+(y::r).length) es.length then
      some {v:=.sl b az ai off (len+(y::r).length),al:=(b,.arr .exact c a es)::dB H x,aM:=[(b,.arr .exact az ai (es.take (off+len)++(y::r)++es.drop (off+len+(y::r).length)))]}
      else some {v:=.sl H.length 0 sz 0 (len+(y::r).length),al:=(b,.arr .exact c a es)::dB H x,aS:=[.arr (gk P T) 0 sz ((es.drop off).take len++(y::r))]}
     | .grow=>bif ce off 0 then some {v:=.sl b (az+1) ai 0 (len+(y::r).length),al:=(b,.arr .grow c a es)::dB H x,aM:=[(b,.arr .grow (az+1) ai (es.take len++(y::r)))]}else none
     | .bytes=>bif ce off 0&&ce (dY P T) Gl.u8 then some {v:=.sl b (az+1) ai 0 (len+(y::r).length),al:=(b,.arr .bytes c a es)::dB H x,aM:=[(b,.arr .bytes (az+1) ai (es.take len++(y::r)))]}else none
     else none
    else none
   |_=>none
  |_=>none
  else none
 |_,_=>none
theorem are{T X:ay}{H:aj}{s x:AV}{e:aW}{K:aW->Prop}(h:CJ P T X H s x=some e)(hk:K e):nq P T X H s x K:=by
 unfold CJ at h;unfold nq
 split at h
 case h_2=>simp at h
 rename_i sz r n p;simp only[ao,c9,ap]at h;obtain⟨⟨g,j,k⟩,h⟩:=h;simp only[n,p];refine⟨g,j,sU k,?_⟩
 split at h
 ·split at h
  ·simp only[da]at h;subst h;simpa using hk
  ·simp only[c9,da]at h;obtain⟨a,rfl⟩:=h;simp only[bv,av,if_false];exact⟨cS a,hk⟩
 ·simp only[c9]at h;obtain⟨a,h⟩:=h;refine⟨sU a,?_⟩
  split at h
  ·simp only[da]at h;subst h;simpa using hk
  ·simp only[c9,da]at h;obtain⟨⟨b,c⟩,rfl⟩:=h;simp only[bv,av,if_false];exact⟨b,cS c,hk⟩
 ·split at h
  case h_2=>simp at h
  rename_i o;simp only[c9]at h;obtain⟨⟨a,b,c,l⟩,h⟩:=h;simp only[o];refine⟨dt a,dt b,dt c,cS l,?_⟩
  split at h
  ·simp only[da]at h;subst h;simpa using hk
  ·simp only[c9]at h;obtain⟨m,h⟩:=h;simp only[bv,av,if_false];refine⟨cS m,?_⟩
   split at h
   ·simp at h
   ·split at h
    ·rename_i f;simp only[da]at h;subst h;simp only[cS f,if_true];exact hk
    ·rename_i f;simp only[da]at h;subst h;rw[if_neg (fun q=>f (ck q))];exact hk
   ·simp only[c9,da]at h;obtain⟨d,rfl⟩:=h;exact⟨dt d,(fun h=>by cases h),hk⟩
   ·simp only[c9,da]at h;obtain⟨⟨d,i⟩,rfl⟩:=h;exact⟨dt d,fun _=>dt i,hk⟩
 ·simp at h
end
section
variable{P:a0}{ag:aT->Bool}
def jt(x:Option AV)(d:Nat):Option Nat:=
 match x with
 |none=>some d
 |some (.p (.int _ (.ofNat i)))=>some i
 |_=>none
theorem jZ{x:Option AV}{d n:Nat}{K:Nat->Prop}(h:jt x d=some n)(hk:K n):gu x d K:=by
 unfold jt at h;unfold gu
 split at h
 ·simp only[da]at h;subst h;exact hk
 ·simp only[da]at h;subst h;exact⟨a7 _,hk⟩
 ·simp at h
def CW(P:a0)(T:ay)(H:aj)(x:AV)(lo hi e:Option AV):Option aW:=
 match e with
 |some _=>none
 |none=>match x with
  | .p (.str s)=>match jt hi s.length,jt lo 0 with
   |some h,some l=>bif iA P T&&(cc h s.length&&cc l h)then some {v:=.p (.str ((s.take h).drop l))}else none
   |_,_=>none
  | .p .aO=>match jt hi 0,jt lo 0 with
   |some h,some l=>bif (cC P T).isSome&&(cc h 0&&cc l h)then some {v:=x}else none
   |_,_=>none
  | .p (.cN full es)=>match jt hi es.length,jt lo 0,cC P T with
   |some h,some l,some sz=>bif cc h es.length&&(cc l h&&ph P sz (es.map .p))then some {v:=.p (.cN (full&&h==es.length) ((es.take h).drop l))}else none
   |_,_,_=>none
  | .p (.seq es)=>match jt hi es.length,jt lo 0,cC P T with
   |some h,some l,some sz=>bif cc h es.length&&(cc l h&&ph P sz (es.map .p))then some {v:=.p (.seq ((es.take h).drop l))}else none
   |_,_,_=>none
  | .sl b az ai off len=>match H[b]? with
   |some (.arr k c a es)=>match jt hi len,jt lo 0 with
    |some h,some l=>bif ce az c&&(ce ai a&&(oE (cC P T) ai&&(nZ k es&&(cc (off+len) es.length&&(cc (off+h) es.length&&cc l h)))))then
     match l with
     |0=>some {v:=.sl b az ai off h,al:=[(b,.arr k c a es)]}
     |d+1=>bif ce (d+1) h then some {v:=.p (.cN false []),al:=[(b,.arr k c a es)]}else some {v:=.sl b az ai (off+(d+1)) (h-(d+1)),al:=[(b,.arr k c a es)]}
     else none
    |_,_=>none
   |_=>none
  |_=>none
theorem U2{T:ay}{H:aj}{x:AV}{lo hi j:Option AV}{e:aW}{K:aW->Prop}(h:CW P T H x lo hi j=some e)(hk:K e):nB P T H x lo hi j K:=by
 unfold CW at h;unfold nB
 split at h
 ·simp at h
 refine⟨rfl,?_⟩
 split at h
 ·split at h
  case h_2=>simp at h
  rename_i a b;simp only[ao,c9,ap,da]at h;obtain⟨⟨c,d,f⟩,rfl⟩:=h;exact⟨c,jZ a (jZ b ⟨cS d,cS f,hk⟩)⟩
 ·split at h
  case h_2=>simp at h
  rename_i a b;simp only[ao,c9,ap,da]at h;obtain⟨⟨c,d,f⟩,rfl⟩:=h;exact⟨c,jZ a (jZ b ⟨cS d,cS f,hk⟩)⟩
 ·split at h
  case h_2=>simp at h
  rename_i a b c;simp only[ao,c9,ap,da]at h;obtain⟨⟨d,f,g⟩,rfl⟩:=h;refine jZ a (jZ b ⟨cS d,cS f,?_⟩);simp only[c];exact⟨sU g,hk⟩
 ·split at h
  case h_2=>simp at h
  rename_i a b c;simp only[ao,c9,ap,da]at h;obtain⟨⟨d,f,g⟩,rfl⟩:=h;refine jZ a (jZ b ⟨cS d,cS f,?_⟩);simp only[c];exact⟨sU g,hk⟩
 ·split at h
  case h_2=>simp at h
  rename_i n
  split at h
  case h_2=>simp at h
  rename_i a b;simp only[ao,c9,ap]at h;obtain⟨⟨c,d,f,g,k,l,m⟩,h⟩:=h;simp only[n];refine⟨dt c,dt d,vG f,vo g,cS k,jZ a (jZ b ⟨cS l,cS m,?_⟩)⟩
  split at h
  ·simp only[da]at h;subst h;simpa using hk
  ·rw[if_neg (by omega)]
   split at h
   ·rename_i i;simp only[da]at h;subst h;rw[if_pos (dt i)];exact hk
   ·rename_i i;simp only[da]at h;subst h;rw[if_neg (fun e=>i (by rw[<-e];exact cx _))];exact hk
 ·simp at h
def Ch(P:a0)(T:ay)(H:aj)(x:AV)(lo hi:Option AV)(m:AV):Option aW:=
 match x with
 | .sl b az ai off len=>match H[b]? with
  |some (.arr k c a es)=>match jt hi len,jt lo 0,jt (some m) 0 with
   |some h,some l,some m=>bif ce az c&&(ce ai a&&((cC P T).isSome&&(nZ k es&&(cc (off+len) es.length&&(hi.isSome&&(cc (off+m) es.length&&(cc h m&&cc l h)))))))then
    some {v:=.p .undef,al:=[(b,.arr k c a es)]}else none
   |_,_,_=>none
  |_=>none
 |_=>none
theorem UE{T:ay}{H:aj}{x:AV}{lo hi:Option AV}{m:AV}{e:aW}{K:aW->Prop}(h:Ch P T H x lo hi m=some e)(hk:K e):qh P T H x lo hi m K:=by
 unfold Ch at h;unfold qh
 split at h
 case h_2=>simp at h
 split at h
 case h_2=>simp at h
 rename_i d
 split at h
 case h_2=>simp at h
 rename_i a b c;simp only[ao,c9,ap,da]at h;obtain⟨⟨g1,g2,g3,g4,g5,g6,g7,g8,g9⟩,rfl⟩:=h;simp only[d];exact⟨dt g1,dt g2,g3,vo g4,cS g5,g6,jZ a (jZ b (jZ c ⟨cS g7,cS g8,cS g9,hk⟩))⟩
def za(ok:Bool)(z:PV)(r:Option PV):PV:=
 match r with
 |some v=>bif ok then .aC [v,.bool true]else v
 |none=>bif ok then .aC [z,.bool false]else z
def KX(P:a0)(T:ay)(H:aj)(x i:AV)(ok:Bool):Option aW:=
 match kU P T,i with
 |some (a,E),.p key=>match ct P E with
  |some z=>bif fO P a key then match x with
   | .p .fc=>some {v:=.p (za ok z none)}
   | .p (.dT es)=>match fE P a es key with
    |some r=>some {v:=.p (za ok z r)}
    |none=>none
   | .map b=>match H[b]? with
    |some (.map fz es)=>match fE P a es key with
     |some r=>some {v:=.p (za ok z r),al:=[(b,.map fz es)]}
     |none=>none
    |_=>none
   |_=>none
   else none
  |none=>none
 |_,_=>none
def KS(P:a0)(T:ay)(H:aj)(m k x:AV):Option aW:=
 match kU P T,m,k,x with
 |some (a,_),.map b,.p key,.p v=>bif fO P a key then match H[b]? with
  |some (.map false es)=>match lO P a es key with
   |some _=>some {v:=.p (.aC []),al:=[(b,.map false es)],aM:=[(b,.map false (fN es key v))]}
   |none=>none
  |_=>none
  else none
 |_,_,_,_=>none
def PZ(H:aj)(it:AV):Option aW:=
 match it with
 | .ptr b []=>match H[b]? with
  |some (.du s pos)=>bif cc (pos+1) s.length then
   some {v:=.p (.aC [.bool true,.int .i64 pos,.int .i32 (Utf8.decode (gh s) pos).1]),al:=[(b,.du s pos)],aM:=[(b,.du s (pos+(Utf8.decode (gh s) pos).2))]}
   else some {v:=.p (.aC [.bool false]),al:=[(b,.du s pos)]}
  |_=>none
 |_=>none
def JK(P:a0)(H:aj)(b:Builtin)(c:Array ay)(args:List AV):Option aW:=
 match b,args with
 | .len,[x]=>match lenOf H x with
  |some (n,al)=>bif gR P (c.getD 0 0) x&&cc 1 c.size then some {v:=.p (.int .i64 n),al}else none
  |none=>none
 | .append,[s,x]=>bif ce c.size 2 then CJ P (c.getD 0 0) (c.getD 1 0) H s x else none
 | .min,.p (.int k a)::r=>match lJ k false r a with
  |some n=>some {v:=.p (.int k n)}
  |none=>none
 | .max,.p (.int k a)::r=>match lJ k true r a with
  |some n=>some {v:=.p (.int k n)}
  |none=>none
 | .copy,[d,x]=>match cC P (c.getD 0 0),d,gJ H x with
  |some sz,.sl b az ai off len,some xs=>bif ce ai sz&&(ph P sz xs&&ce c.size 2)then match H[b]? with
   |some (.arr k f e es)=>bif ce az f&&(ce ai e&&(vZ k&&(cc (off+len) es.length&&nZ k es)))then
    some {v:=.p (.int .i64 (min xs.length len:Nat)),al:=(b,.arr k f e es)::dB H x,aM:=[(b,.arr k f e (es.take off++xs.take (min xs.length len)++es.drop (off+min xs.length len)))]}
    else none
   |_=>none
   else none
  |_,_,_=>none
 | .cap,[x]=>match zu H x with
  |some (n,al)=>bif gR P (c.getD 0 0) x&&cc 1 c.size then some {v:=.p (.int .i64 n),al}else none
  |none=>none
 | .clear,[x]=>match x with
  | .p .aO=>bif gR P (c.getD 0 0) x&&cc 1 c.size then some {v:=.p (.aC [])}else none
  | .sl b az ai off len=>match cC P (c.getD 0 0),ct P (dY P (c.getD 0 0)),H[b]? with
   |some sz,some z,some (.arr k f e es)=>bif ce az f&&(ce ai e&&(ce ai sz&&(ce (bD P (aL z)) sz&&(vZ k&&(cc (off+len) es.length&&(nZ k es&&(cc 1 c.size&&cc 1 len)))))))then
    some {v:=.p (.aC []),al:=[(b,.arr k f e es)],aM:=[(b,.arr k f e (es.take off++bp len (.p z)++es.drop (off+len)))]}else none
   |_,_,_=>none
  |_=>none
 | .unsafeSliceData,[x]=>match x with
  | .p .aO=>some {v:=.p .dH}
  | .sl b az ai off len=>match H[b]? with
   |some (.arr k f e es)=>bif ce az f&&ce ai e then
    bif nZ k es then(bif cc 1 len&&cc (off+len) es.length then some {v:=.bZ b az ai off [],al:=[(b,.arr k f e es)]}else none)
    else some {v:=.p .dH,al:=[(b,.arr k f e es)]}
    else none
   |_=>none
  |_=>none
 | .unsafeString,[x,.p (.int .i64 (.ofNat n))]=>match x with
  | .p .dH=>bif ce n 0&&ce c.size 2 then some {v:=.p (.str [])}else none
  | .bZ b az ai i []=>match H[b]? with
   |some (.arr .bytes f e es)=>bif ce az f&&(ce ai e&&(ce ai 1&&(ce i 0&&(cc 1 n&&(cc n es.length&&(cc n 9223372036854775807&&(ce c.size 2&&(oE (ptrTo P (c.getD 0 0)) Gl.u8&&ce (P.cellsOf Gl.u8) 1))))))))then
    match bytesOf (es.take n)with
    |some l=>some {v:=.p (.str l),al:=[(b,.arr .bytes f e es)],aM:=[(b,.dead)]}
    |none=>none
    else none
   |_=>none
  |_=>none
 |_,_=>none
def zR(P:a0)(ag:aT->Bool)(o:Oper)(ρ:ax->AV)(H:aj):Option aW:=
 match o.op with
 | .move x| .assign x=>some {v:=ρ x}
 | .pick c a b=>match ρ c with
  | .p (.bool t)=>some {v:=bif t then ρ a else ρ b}
  |_=>none
 | .alloc T=>match ct P T with
  |some z=>bif sE (kindOf P T) (aL z)&&jf T (aL z)then some {v:=.ptr H.length [],aS:=[.box false (.p z)]}else none
  |none=>none
 | .box T x=>bif sE (kindOf P T) (aa (ρ x))&&jf T (aa (ρ x))then some {v:=.ptr H.length [],aS:=[.box false (ρ x)]}else none
 | .build T parts=>match kindOf P T,ct P T with
  | .agg u,some z=>match dx P u with
   |some l=>bif sE (aL z) (.agg u)&&vp P l (parts.toList.map fun(i,x)=>(i,ρ x))then some {v:=gY u (iw ((bW z).map .p) (parts.toList.map fun(i,x)=>(i,ρ x)))}else none
   |none=>none
  |_,_=>none
 | .buildSlice T n parts=>match cC P T,ct P (dY P T)with
  |some sz,some z=>bif ce (bD P (aL z)) sz&&(cc (n*sz) 1000000&&vp P (bp n sz) (parts.toList.map fun(i,x)=>(i,ρ x)))then
   some {v:=.sl H.length 0 sz 0 n,aS:=[.arr .exact 0 sz (iw (bp n (.p z)) (parts.toList.map fun(i,x)=>(i,ρ x)))]}else none
  |_,_=>none
 | .load T a=>DO P T H (ρ a)
 | .store T a x=>CU P T H (ρ a) (ρ x)
 | .binOp op T x y _=>match Ds P op T (lZ y) H (ρ x) (ρ y)with
  |some v=>some {v:=.p v,al:=dB H (ρ x)}
  |none=>none
 | .unOp op _ x=>match op,ρ x with
  | .not,.p (.bool b)=>some {v:=.p (.bool (!b))}
  | .neg,.p (.int k n)=>some {v:=.p (.int k (k.wrap (0-n)))}
  | .xor,.p (.int k n)=>some {v:=.p (.int k (k.wrap (am k.bits (if k.signed then -1 else k.max)^^^am k.bits n).toNat))}
  |_,_=>none
 | .convert S D x=>match P.underlying S,P.underlying D,ρ x with
  |some _,some (.int k),.p (.int _ n)=>some {v:=.p (.int k (k.wrap n))}
  |some _,some .string,.p (.str s)=>some {v:=.p (.str s)}
  |_,_,_=>none
 | .extract t i=>match ρ t with
  | .p (.aC vs)=>match vs[i]? with
   |some v=>some {v:=.p v}
   |none=>none
  | .aC vs=>match vs[i]? with
   |some v=>some {v}
   |none=>none
  |_=>none
 | .fieldAddr T a f=>Bk P T (ρ a) f
 | .indexAddr T x i=>Bh P T H (ρ x) (ρ i)
 | .field T x f=>match kindOf P T,P.underlying T,ρ x with
  | .agg u,some (.struct _),.p t=>match(bW t)[f]?,(jm P u)[f]? with
   |some g,some F=>bif sE (aL t) (.agg u)&&sE (kindOf P F) (aL g)then some {v:=.p g}else none
   |_,_=>none
  |_,_,_=>none
 | .index T x i=>match ρ x,ρ i with
  | .p (.str s),.p (.int _ (.ofNat i))=>match s[i]? with
   |some c=>bif iA P T then some {v:=.p (.int .u8 c)}else none
   |none=>none
  | .p (.st u es),.p (.int _ (.ofNat i))=>match gW P T,(jm P u)[i]?,es[i]? with
   |some (u',n),some F,some g=>bif ce u' u&&(cc (i+1) n&&sE (kindOf P F) (aL g))then some {v:=.p g}else none
   |_,_,_=>none
  |_,_=>none
 | .makeFunc (.func f) fi ca=>bif ag f then match fD H (fi.toList.map ρ),fD H (ca.toList.map ρ)with
   |some (a,[],[]),some (b,al,aM)=>some {v:=.p (.func f a b),al,aM}
   |_,_=>none
  else match eE (fi.toList.map ρ),eE (ca.toList.map ρ)with
   |some a,some b=>some {v:=.p (.func f a b)}
   |_,_=>some {v:=.func f (fi.toList.map ρ) (ca.toList.map ρ)}
 | .makeSlice T l c=>match cC P T,ct P (dY P T),ρ l,ρ c with
  |some sz,some z,.p (.int .i64 (.ofNat l)),.p (.int .i64 (.ofNat c))=>bif ce (bD P (aL z)) sz&&(ce l c&&cc l cW)then
   some {v:=.sl H.length 0 sz 0 l,aS:=[.arr .exact 0 sz (bp l (.p z))]}else none
  |_,_,_,_=>none
 | .slice T x lo hi d=>match d with
  |none=>CW P T H (ρ x) (lo.map ρ) (hi.map ρ) none
  |some m=>Ch P T H (ρ x) (lo.map ρ) (hi.map ρ) (ρ m)
 | .makeMap _ none=>some {v:=.map H.length,aS:=[.map false []]}
 | .lookup T x i ok=>KX P T H (ρ x) (ρ i) ok
 | .mapUpdate T m k x| .insert T m k x=>KS P T H (ρ m) (ρ k) (ρ x)
 | .range T x=>match ρ x with
  | .p (.str s)=>bif iA P T then some {v:=.ptr H.length [],aS:=[.du s 0]}else none
  |_=>none
 | .next it true=>PZ H (ρ it)
 | .nilCheck x=>match ρ x with
  | .ptr _ _| .bZ _ _ _ _ _| .p (.cm _)=>some {v:=ρ x}
  |_=>none
 | .call c=>match c.callee with
  | .builtin b=>JK P H b c.argTypes (c.args.toList.map ρ)
  |_=>none
 |_=>none
theorem MT{o:Oper}{ρ:ax->AV}{H:aj}{e:aW}{K:aW->Prop}(h:zR P ag o ρ H=some e)(hk:K e):fu P ag o ρ H K:=by
 unfold zR at h;unfold fu;cases ab:o.op<;>simp only[ab]at h<;>simp only
 case move|assign=>simp only[da]at h;subst h;exact hk
 case pick c a b=>
  split at h
  ·rename_i t hc;simp only[da]at h;subst h;simp only[hc];cases t<;>exact hk
  ·simp at h
 case alloc T=>
  split at h
  ·rename_i z G;simp only[ao,c9,da,ap]at h;obtain⟨⟨d,j⟩,rfl⟩:=h;simp only[G];exact⟨(iH d).1,(iH d).2,j,hk⟩
  ·simp at h
 case box T x=>
  simp only[ao,c9,da,ap]at h;obtain⟨⟨d,j⟩,rfl⟩:=h;exact⟨(iH d).1,(iH d).2,j,hk⟩
 case build T parts=>
  split at h
  ·rename_i u z ac G
   split at h
   ·rename_i l E;simp only[ao,c9,da,ap]at h;obtain⟨⟨d,j⟩,rfl⟩:=h;simp only[ac,G,E];exact⟨(iH d).1,Bu j,hk⟩
   ·simp at h
  ·simp at h
 case buildSlice T n parts=>
  split at h
  ·rename_i sz z J G;simp only[ao,c9,da,ap]at h;obtain⟨⟨d,j,q⟩,rfl⟩:=h;simp only[J,G];exact⟨dt d,cS j,Bu q,hk⟩
  ·simp at h
 case load T a=>exact WO h hk
 case store T a x=>exact UY h hk
 case binOp op T x y ae=>
  split at h
  ·rename_i v L;simp only[da]at h;subst h;exact XQ (K:=fun v=>K {v:=.p v,al:=dB H (ρ x)}) L hk
  ·simp at h
 case unOp op T x=>
  split at h
  all_goals first
   |(rename_i hx;simp only[da]at h;subst h;simp only[hx];exact hk)
   |simp at h
 case convert S D x=>
  split at h
  ·rename_i d j q;simp only[da]at h;subst h;simp only[d,j,q];exact hk
  ·rename_i d j q;simp only[da]at h;subst h;simp only[d,j,q];exact hk
  ·simp at h
 case extract t i=>
  split at h
  ·rename_i U
   split at h
   ·rename_i L;simp only[da]at h;subst h;simp only[U,L];exact hk
   ·simp at h
  ·rename_i U
   split at h
   ·rename_i L;simp only[da]at h;subst h;simp only[U,L];exact hk
   ·simp at h
  ·simp at h
 case fieldAddr T a f=>exact Sv h hk
 case indexAddr T x i=>exact SH h hk
 case field T x f=>
  split at h
  ·rename_i d j q
   split at h
   ·rename_i s w;simp only[ao,c9,da,ap]at h;obtain⟨⟨B,C⟩,rfl⟩:=h;simp only[d,j,q,s,w];exact⟨(iH B).1,(iH C).1,hk⟩
   ·simp at h
  ·simp at h
 case index T x i=>
  split at h
  ·rename_i d j
   split at h
   ·rename_i c hc;simp only[ao,c9,da]at h;obtain⟨q,rfl⟩:=h;obtain⟨hi,rfl⟩:=be.1 hc;simp only[d,j];exact⟨q,a7 _,hi,hk⟩
   ·simp at h
  ·rename_i u W ak i d j
   split at h
   ·rename_i u' n F g q s w;simp only[ao,c9,da,ap]at h;obtain⟨⟨g1,g2,g3⟩,rfl⟩:=h;have e:(Int.ofNat i).toNat=i:=rfl;simp only[d,j,e,q,s,w];exact⟨dt g1,a7 _,cS g2,(iH g3).1,hk⟩
   ·simp at h
  ·simp at h
 case makeFunc fn fi ca=>
  cases fn<;>simp only at h<;>try (simp at h;done)
  rename_i f;simp only;simp only[ao]at h
  split at h
  ·rename_i hf;rw[if_pos hf]
   split at h
   ·rename_i d j;simp only[da]at h;subst h;simp only[d,j];exact hk
   ·simp at h
  ·rename_i hf;rw[if_neg hf]
   split at h
   ·rename_i d j;simp only[da]at h;subst h;simp only[d,j];exact hk
   ·rename_i aa;simp only[da]at h;subst h
    split
    ·rename_i d j;exact(aa _ _ d j).elim
    ·exact hk
 case makeSlice T l c=>
  split at h
  ·rename_i d j q s;simp only[ao,c9,da,ap]at h;obtain⟨⟨w,B,C⟩,rfl⟩:=h;have e:=dt B;simp only[d,j,q,s];refine⟨dt w,a7 _,by rw[e],?_,hk⟩;have:=cS C;show((_:Nat):Int)<=_
   exact_mod_cast this
  ·simp at h
 case slice T x lo hi ad=>
  cases ad with
  |none=>exact U2 h hk
  |some m=>exact UE h hk
 case makeMap T r=>
  cases r<;>simp only at h
  ·simp only[da]at h;subst h;exact hk
  ·simp at h
 case lookup T x i ok=>
  unfold KX at h
  split at h
  case h_2=>simp at h
  rename_i d j
  split at h
  case h_2=>simp at h
  rename_i z G;simp only[ao,c9]at h;obtain⟨q,h⟩:=h;simp only[d,j,G];refine⟨q,?_⟩
  have M:∀r:Option PV,za ok z r=match r with
    |some v=>if ok=true then .aC [v,.bool true]else v
    |none=>if ok=true then .aC [z,.bool false]else z:=by
   intro r;cases r<;>cases ok<;>rfl
  split at h
  ·rename_i hx;simp only[da]at h;subst h;simp only[hx];rw[M]at hk;exact hk
  ·rename_i hx
   split at h
   ·rename_i r R;simp only[da]at h;subst h;rw[M]at hk;simp only[hx,R];cases r<;>exact hk
   ·simp at h
  ·rename_i hx
   split at h
   ·rename_i A
    split at h
    ·rename_i r R;simp only[da]at h;subst h;rw[M]at hk;simp only[hx,A,R];cases r<;>exact hk
    ·simp at h
   ·simp at h
  ·simp at h
 case mapUpdate T m k x|insert T m k x=>
  unfold KS at h
  split at h
  case h_2=>simp at h
  rename_i d j q s;simp only[ao,c9]at h;obtain⟨w,h⟩:=h;simp only[d,j,q,s];refine⟨w,?_⟩
  split at h
  ·rename_i A
   split at h
   ·rename_i E;simp only[da]at h;subst h;simp only[A,E];exact hk
   ·simp at h
  ·simp at h
 case range T x=>
  split at h
  ·rename_i hx;simp only[ao,c9,da]at h;obtain⟨d,rfl⟩:=h;simp only[hx];exact⟨d,hk⟩
  ·simp at h
 case next it isStr=>
  cases isStr<;>simp only at h
  ·simp at h
  unfold PZ at h
  split at h
  ·rename_i hx
   split at h
   ·rename_i A;simp only[hx,A];simp only[ao]at h
    split at h
    ·rename_i Q;simp only[da]at h;subst h;rw[if_pos (by have:=cS Q;omega)];exact hk
    ·rename_i Q;simp only[da]at h;subst h;rw[if_neg (fun Z=>Q (ck (Nat.succ_le_of_lt Z)))];exact hk
   ·simp at h
  ·simp at h
 case nilCheck x=>
  split at h
  all_goals first
   |(rename_i hx;simp only[da]at h;subst h;simp only[hx]at hk⊢;exact hk)
   |simp at h
 case call c=>
  split at h
  case h_2=>simp at h
  rename_i b hc;simp only[hc];generalize c.args.toList.map ρ=args at*;generalize c.argTypes=af at*;unfold JK at h
  split at h
  ·split at h
   ·rename_i E;simp only[ao,c9,da,ap]at h;obtain⟨⟨d,j⟩,rfl⟩:=h;simp only[E];exact⟨d,cS j,hk⟩
   ·simp at h
  ·simp only[ao,c9]at h;exact⟨dt h.1,are h.2 hk⟩
  ·split at h
   ·rename_i O;simp only[da]at h;subst h;simp only[O];exact hk
   ·simp at h
  ·split at h
   ·rename_i O;simp only[da]at h;subst h;simp only[O];exact hk
   ·simp at h
  ·split at h
   ·rename_i J Y;simp only[ao,c9,ap]at h;obtain⟨⟨d,j,q⟩,h⟩:=h;simp only[J,Y];refine⟨dt d,sU j,dt q,?_⟩
    split at h
    ·rename_i A;simp only[c9,da]at h;obtain⟨⟨s,w,B,C,I⟩,rfl⟩:=h;simp only[A];exact⟨dt s,dt w,C3 B,cS C,vo I,hk⟩
    ·simp at h
   ·simp at h
  ·split at h
   ·rename_i E;simp only[ao,c9,da,ap]at h;obtain⟨⟨d,j⟩,rfl⟩:=h;simp only[E];exact⟨d,cS j,hk⟩
   ·simp at h
  ·split at h
   ·simp only[ao,c9,da,ap]at h;obtain⟨⟨d,j⟩,rfl⟩:=h;exact⟨d,cS j,hk⟩
   ·split at h
    ·rename_i J G A;simp only[ao,c9,da,ap]at h;obtain⟨⟨d,j,q,s,w,B,C,I,N⟩,rfl⟩:=h;simp only[J,G,A];exact⟨dt d,dt j,dt q,dt s,C3 w,cS B,vo C,cS I,cS N,hk⟩
    ·simp at h
   ·simp at h
  ·split at h
   ·simp only[da]at h;subst h;exact hk
   ·split at h
    ·rename_i A;simp only[ao,c9,ap]at h;obtain⟨⟨d,j⟩,h⟩:=h;simp only[A];refine⟨dt d,dt j,?_⟩
     split at h
     ·simp only[c9,da]at h;obtain⟨⟨s,w⟩,rfl⟩:=h;exact .inr ⟨cS s,cS w,hk⟩
     ·rename_i V;simp only[da]at h;subst h;rename_i k _ _ W _ _;refine .inl ⟨?_,?_,hk⟩<;>(unfold nZ at V;split at V<;>simp_all)
    ·simp at h
   ·simp at h
  ·split at h
   ·simp only[ao,c9,da,ap]at h;obtain⟨⟨d,j⟩,rfl⟩:=h;exact⟨by rw[dt d];rfl,dt j,hk⟩
   ·split at h
    ·rename_i A;simp only[ao,c9,ap]at h;obtain⟨⟨d,j,q,s,w,B,C,I,N,X⟩,h⟩:=h;have ah:=cS w;have ai:=cS C;simp only[A];refine⟨dt d,dt j,dt q,dt s,by simp;omega,by simpa using cS B,by simp;omega,dt I,vG N,dt X,?_⟩;simp only[a8,a9]
     split at h
     ·rename_i E;simp only[da]at h;subst h;simp only[E];exact hk
     ·simp at h
    ·simp at h
   ·simp at h
  ·simp at h
 all_goals simp at h
end
end Go.ak
namespace Go.ak
variable[Gl]
section
variable(σ:Nat->Nat)
mutual
def cF:AV->AV
 | .p v=>.p v
 | .ptr b path=>.ptr (σ b) path
 | .bZ b az ai i path=>.bZ (σ b) az ai i path
 | .sl b az ai off len=>.sl (σ b) az ai off len
 | .map b=>.map (σ b)
 | .func f fi ca=>.func f (cO fi) (cO ca)
 | .st u fs=>.st u (cO fs)
 | .aC vs=>.aC (cO vs)
def cO:List AV->List AV
 |[]=>[]
 |v::vs=>cF v::cO vs
end
def sZ:Env->Env
 |[]=>[]
 |(x,v)::r=>(x,cF σ v)::sZ r
def cX:Obj->Obj
 | .box fz t=>.box fz (cF σ t)
 | .arr k az ai es=>.arr k az ai (cO σ es)
 | .loop L=>.loop {L with env:=sZ σ L.env}
 |o=>o
end
section
variable{σ:Nat->Nat}
theorem Cc:∀(e:Env)(x:Nat),aQ (sZ σ e) x=cF σ (aQ e x)
 |[],_=>rfl
 |(y,v)::r,x=>by
  simp only[sZ,aQ]
  split
  ·rfl
  ·exact Cc r x
theorem rV:∀l:List AV,(cO σ l).length=l.length
 |[]=>rfl
 |_::r=>by simp[cO,rV r]
theorem W4{l:List AV}:cO σ l=[]↔l=[]:=by cases l<;>simp[cO]
theorem nC{k:AK}{a:List AV}:dd k (cO σ a)↔dd k a:=by simp[dd,W4]
theorem Lv{v:AV}:(cF σ v).rE↔v.rE:=by cases v<;>simp[cF,AV.rE]
theorem VZ{v:AV}:aa (cF σ v)=aa v:=by cases v<;>rfl
theorem Kk:∀{l:List AV},(∀e∈cO σ l,e.rE)↔∀e∈l,e.rE
 |[]=>by simp[cO]
 |v::r=>by simp[cO,Lv,Kk (l:=r)]
theorem ql{o:Obj}:(cX σ o).live↔o.live:=by cases o<;>simp[cX,Obj.live,nC]
theorem Ly{o:Obj}{v:Nat}:(cX σ o).has v↔o.has v:=by cases o<;>simp[cX,Obj.has]
theorem Wr{o:Obj}:cX σ o=.hole↔o=.hole:=by cases o<;>simp[cX]
mutual
theorem BQ{S:Nat×Nat->Prop}:∀(v:AV),aE S (cF σ v)↔aE (fun x=>S (σ x.1,x.2)) v
 | .p _=>by simp[cF,aE]
 | .ptr _ _| .bZ _ _ _ _ _| .sl _ _ _ _ _| .map _=>by simp[cF,aE]
 | .func _ fi ca=>by simp only[cF,aE];rw[sn fi,sn ca]
 | .st _ fs=>by simp only[cF,aE];exact sn fs
 | .aC vs=>by simp only[cF,aE];exact sn vs
theorem sn{S:Nat×Nat->Prop}:∀(l:List AV),aX S (cO σ l)↔aX (fun x=>S (σ x.1,x.2)) l
 |[]=>by simp[cO,aX]
 |v::r=>by simp only[cO,aX];rw[BQ v,sn r]
end
theorem Vm{S:Nat×Nat->Prop}{o:Obj}:(cX σ o).refs S↔o.refs (fun x=>S (σ x.1,x.2)):=by
 cases o<;>simp only[cX,Obj.refs,BQ,sn,Cc]
theorem Obj.refs.mono{S T:Nat×Nat->Prop}(h:∀x,S x->T x){o:Obj}(a:o.refs S):o.refs T:=by
 cases o with
 |box fz t=>exact aE.mono h _ a
 |arr k az ai es=>exact aX.mono h _ a
 |loop L=>exact fun x=>aE.mono h _ (a x)
 |_=>trivial
structure dM(σ:Nat->Nat)(dL:Bd)(H0:aj)(β:Bd)(H:aj):Prop where
 obj:∀(b:Nat)(o:Obj),H0[b]?=some o->H[σ b]?=some (cX σ o)
 an:∀b,b<H0.length->β.an (σ b)=dL.an b/\β.cap (σ b)=dL.cap b
section
variable{P:a0}{w:a6}{ad:Nat->Prop}{dL β:Bd}{H0 H:aj}
theorem dM.box(h:dM σ dL H0 β H){b:Nat}(a:b<H0.length):mw H (σ b)↔mw H0 b:=by
 have c:=h.obj b _ (bb a);have d:=bb a;unfold mw;rw[c,d];cases H0[b]<;>simp[cX]
theorem dM.it(h:dM σ dL H0 β H){b:Nat}(a:b<H0.length):mA H (σ b)↔mA H0 b:=by
 have c:=h.obj b _ (bb a);have d:=bb a;unfold mA;rw[c,d];cases H0[b]<;>simp[cX]
theorem dM.map(h:dM σ dL H0 β H){b:Nat}(a:b<H0.length):mv H (σ b)↔mv H0 b:=by
 have h1:=h.obj b _ (bb a);have c:=bb a;unfold mv;rw[h1,c];cases H0[b]<;>simp[cX]
theorem dM.loop(h:dM σ dL H0 β H){b:Nat}(a:b<H0.length):gM H (σ b)↔gM H0 b:=by
 have c:=h.obj b _ (bb a);have d:=bb a;unfold gM;rw[c,d];cases H0[b]<;>simp[cX]
theorem dM.arr(h:dM σ dL H0 β H){b az ai:Nat}{k:AK}{es:List AV}(a:b<H0.length):fg H (σ b) az ai k es↔∃gA,fg H0 b az ai k gA/\es=cO σ gA:=by
 have c:=h.obj b _ (bb a);have d:=bb a;unfold fg;rw[c,d];cases H0[b]<;>simp[cX];constructor
 ·rintro⟨rfl,rfl,rfl,rfl⟩;exact⟨_,⟨rfl,rfl,rfl,rfl⟩,rfl⟩
 ·rintro⟨_,⟨rfl,rfl,rfl,rfl⟩,rfl⟩;exact⟨rfl,rfl,rfl,rfl⟩
theorem dM.DF(h:dM σ dL H0 β H){x:Nat×Nat}(a:x.1<H0.length):aJ H (σ x.1,x.2)↔aJ H0 x:=by
 have b:=h.obj x.1 _ (bb a);have c:=bb a;unfold aJ;rw[b,c];simp[Ly]
def Small(n:Nat):Nat×Nat->Prop:=fun x=>x.1<n
theorem dM.pH(h:dM σ dL H0 β H):∀{a:AV}{v:a3},aE (Small H0.length) a->(bR P β H (cF σ a) v↔bR P dL H0 a v)
 | .p _,_,_| .func _ _ _,_,_| .st _ _,_,_| .aC _,_,_=>by simp[cF,bR]
 | .ptr b path,v,c=>by
  simp only[aE,Small]at c;simp only[cF,bR,h.box c,h.it c,(h.an b c).1]
 | .bZ b az ai i path,v,c=>by
  simp only[aE,Small]at c;simp only[cF,bR,h.arr c,(h.an b c).1];constructor
  ·rintro⟨an,off,o,f,g,j⟩;exact⟨an,off,o,f,g,fun k d e m=>j k _ ⟨d,e,rfl⟩ (by rwa [nC])⟩
  ·rintro⟨an,off,o,f,g,j⟩;refine⟨an,off,o,f,g,?_⟩;rintro k _ ⟨d,e,rfl⟩ m;exact j k d e (by rwa [nC]at m)
 | .sl b az ai off len,v,c=>by
  simp only[aE,Small]at c;simp only[cF,bR,h.arr c,(h.an b c).1,(h.an b c).2];constructor
  ·intro l k d e;have:=l k _ ⟨d,e,rfl⟩;simpa only[rV,nC]using this
  ·rintro l k _ ⟨d,e,rfl⟩;have:=l k d e;simpa only[rV,nC]using this
 | .map b,v,c=>by
  simp only[aE,Small]at c;simp only[cF,bR,h.map c,h.loop c,(h.an b c).1]
mutual
theorem dM.LQ(h:dM σ dL H0 β H):∀(a:AV)(cs:List a3),aE (Small H0.length) a->(br P w ad β H (cF σ a) cs↔br P w ad dL H0 a cs)
 | .p _,_,_=>by simp[cF,br]
 | .aC _,_,_=>by simp[cF,br]
 | .st u fs,cs,d=>by
  simp only[aE]at d;simp only[cF,br];exact exists_congr fun l=>exists_congr fun e=>and_congr_right fun _=>and_congr_left fun _=>dM.ze h l fs e d
 | .func f fi ca,cs,d=>by
  simp only[aE]at d;simp only[cF,br];exact exists_congr fun l=>exists_congr fun e=>and_congr (dM.ry h fi l d.1) (and_congr_left fun _=>dM.ry h ca e d.2)
 | .ptr b path,cs,d=>by
  have:=fun v=>h.pH (P:=P) (a:=.ptr b path) (v:=v) d;simp only[cF,br,bO]at this⊢;simp only[this]
 | .bZ b az ai i path,cs,d=>by
  have:=fun v=>h.pH (P:=P) (a:=.bZ b az ai i path) (v:=v) d;simp only[cF,br,bO]at this⊢;simp only[this]
 | .sl b az ai off len,cs,d=>by
  have:=fun v=>h.pH (P:=P) (a:=.sl b az ai off len) (v:=v) d;simp only[cF,br,bO]at this⊢;simp only[this]
 | .map b,cs,d=>by
  have:=fun v=>h.pH (P:=P) (a:=.map b) (v:=v) d;simp only[cF,br,bO]at this⊢;simp only[this]
theorem dM.ze(h:dM σ dL H0 β H):∀(g:List Nat)(l:List AV)(e:List (List a3)),aX (Small H0.length) l->(bM P w ad β H g (cO σ l) e↔bM P w ad dL H0 g l e)
 |[],[],e,_=>by simp[cO,bM]
 |[],_::_,e,_=>by simp[cO,bM]
 |_::_,[],e,_=>by simp[cO,bM]
 |n::g,v::vs,e,d=>by
  simp only[aX]at d;simp only[cO,bM];exact exists_congr fun c=>exists_congr fun cs=>and_congr_right fun _=>and_congr (dM.LQ h v c d.1) (and_congr_right fun _=>dM.ze h g vs cs d.2)
theorem dM.Dp(h:dM σ dL H0 β H):∀(a:AV)(v:a3),aE (Small H0.length) a->(aA P w ad β H (cF σ a) v↔aA P w ad dL H0 a v)
 | .p _,_,_=>by simp[cF,aA]
 | .aC vs,_,d=>by
  simp only[aE]at d;simp only[cF,aA];exact exists_congr fun l=>and_congr_left fun _=>dM.ry h vs l d
 | .st u fs,cs,d=>by
  simp only[aE]at d;simp only[cF,aA];exact exists_congr fun l=>exists_congr fun e=>and_congr_right fun _=>and_congr_left fun _=>dM.ze h l fs e d
 | .func f fi ca,cs,d=>by
  simp only[aE]at d;simp only[cF,aA];exact exists_congr fun l=>exists_congr fun e=>and_congr (dM.ry h fi l d.1) (and_congr_left fun _=>dM.ry h ca e d.2)
 | .ptr b path,v,d=>by
  have:=h.pH (P:=P) (a:=.ptr b path) (v:=v) d;simp only[cF,aA,bO]at this⊢;simp only[this]
 | .bZ b az ai i path,v,d=>by
  have:=h.pH (P:=P) (a:=.bZ b az ai i path) (v:=v) d;simp only[cF,aA,bO]at this⊢;simp only[this]
 | .sl b az ai off len,v,d=>by
  have:=h.pH (P:=P) (a:=.sl b az ai off len) (v:=v) d;simp only[cF,aA,bO]at this⊢;simp only[this]
 | .map b,v,d=>by
  have:=h.pH (P:=P) (a:=.map b) (v:=v) d;simp only[cF,aA,bO]at this⊢;simp only[this]
theorem dM.ry(h:dM σ dL H0 β H):∀(l:List AV)(vs:List a3),aX (Small H0.length) l->(bF P w ad β H (cO σ l) vs↔bF P w ad dL H0 l vs)
 |[],vs,_=>by simp[cO,bF]
 |a::l,vs,d=>by
  simp only[aX]at d;simp only[cO,bF];exact exists_congr fun y=>exists_congr fun j=>and_congr_right fun _=>and_congr (dM.Dp h a y d.1) (dM.ry h l j d.2)
end
theorem dM.P6(h:dM σ dL H0 β H){ah Prot0:Nat->Prop}{b:Nat}{o:Obj}(f:H0[b]?=some o)(e:o.refs (Small H0.length))(a:o.live->∀fz,cG ad dL Prot0 fz b↔cG ad β ah fz (σ b)):
 ff P w ad β H ah (σ b) (cX σ o)↔ff P w ad dL H0 Prot0 b o:=by
 have g:b<H0.length:=(be.1 f).1;obtain⟨k1,k2⟩:=h.an b g;cases o with
 |hole=>simp[cX,ff]
 |dead=>simp[cX,ff]
 |box fz t=>
  simp only[cX,ff,k1,<-a trivial,h.LQ t _ e,Lv,VZ]
 |arr k az ai es=>
  simp only[cX,ff,k1,k2,nC,rV,Kk]
  by_cases c:dd k es
  ·simp[c]
  ·simp only[c,false_or,<-a c,h.ze _ es _ e]
 |map fz es=>
  simp only[cX,ff,k1,<-a trivial]
 |du s pos=>
  simp only[cX,ff,k1,<-a trivial]
 |loop L=>
  simp only[cX,ff,k1,<-a trivial,Cc];exact exists_congr fun t=>exists_congr fun d=>exists_congr fun fn=>and_congr_right fun _=>and_congr_right fun _=>and_congr_left fun _=>forall_congr' fun x=>h.Dp _ _ (e x)
end
end
end Go.ak
namespace Go.ak
variable[Gl]
def sig(bs:List Nat)(a i:Nat):Nat:=match bs[i]? with
 |some b=>b
 |none=>a+(i-bs.length)
theorem sH{bs:List Nat}{a i:Nat}(h:i<bs.length):sig bs a i=bs[i]:=by simp[sig,h]
theorem sJ{bs:List Nat}{a i:Nat}(h:bs.length<=i):sig bs a i=a+(i-bs.length):=by simp[sig,h]
theorem aIt{bs:List Nat}{a:Nat}(e:bs.Nodup)(d:∀b∈bs,b<a){i j:Nat}(h:sig bs a i=sig bs a j):i=j:=by
 by_cases hi:i<bs.length<;>by_cases c:j<bs.length
 ·rw[sH hi,sH c]at h;exact(List.getElem_inj e).1 h
 ·rw[sH hi,sJ (by omega)]at h;have:=d _ (b3 hi);omega
 ·rw[sJ (by omega),sH c]at h;have:=d _ (b3 c);omega
 ·rw[sJ (by omega),sJ (by omega)]at h;omega
theorem qy:∀{l:List (Nat×Obj)}{H:aj}{x:Nat},(∀p∈l,p.1≠x)->(bc H l)[x]?=H[x]?
 |[],_,_,_=>rfl
 |(b,o)::r,H,x,h=>by
  simp only[bc];rw[qy (fun p a=>h p (by simp[a])),List.getElem?_set_ne (h (b,o) (by simp))]
theorem sV:∀{l:List (Nat×Obj)}{H:aj},(l.map (·.1)).Nodup->∀p∈l,p.1<H.length->(bc H l)[p.1]?=some p.2
 |[],_,_,_,h,_=>by simp at h
 |(b,o)::r,H,a,p,c,d=>by
  simp only[b5,b4]at a;simp only[bc];rcases bi.1 c with rfl|c
  ·rw[qy (fun q hq e=>a.1 (bV.2 ⟨q,hq,e⟩)),List.getElem?_set_self d]
  ·exact sV a.2 p c (by simpa using d)
theorem Bw(a:Nat):∀(l:List Obj),(newAt a l).map (·.1)=List.range' a l.length
 |[]=>rfl
 |o::r=>by simp[newAt,Bw (a+1) r,List.range'_succ]
theorem Ip:∀(l:List Obj)(a j:Nat)(h:j<l.length),(a+j,l[j])∈newAt a l
 |[],_,_,h=>by simp at h
 |o::r,a,0,h=>by simp[newAt]
 |o::r,a,j+1,h=>by
  have:=Ip r (a+1) j (by simpa using h);simp only[newAt,List.getElem_cons_succ,bi];right;have e:a+(j+1)=a+1+j:=by omega
  rw[e];exact this
section
variable{P:a0}{w w':a6}{ad aF ah:Nat->Prop}{β aK:Bd}{H H':aj}
theorem ff.mut{b:Nat}{o:Obj}(h:ff P w ad β H ah b o)(f:o.live)(j:¬ad (β.an b)):¬ah (β.an b):=by
 have held:∀{fz},cG ad β ah fz b->¬ah (β.an b):=by
  intro fz g;cases fz with
  |true=>exact(j (by simpa[cG]using g)).elim
  |false=>
   have:¬ad (β.an b)/\¬ah (β.an b):=by simpa[cG]using g
   exact this.2
 cases o with
 |hole=>exact f.elim
 |dead=>exact f.elim
 |box fz t=>
  obtain⟨cs,T,c,d,a,e⟩:=h;exact held a
 |arr k az ai es=>
  rcases h with h|⟨cs,T,l,rest,c,d,a,e,n,p,i,q⟩
  ·exact(f h).elim
  ·exact held i
 |map fz es=>
  obtain⟨m,clock,c,d,a⟩:=h;exact held a
 |du s pos=>
  obtain⟨bs,c,d,a⟩:=h;exact held a
 |loop L=>
  obtain⟨tmps,defers,fn,c,d,a,e⟩:=h;exact held e
theorem ff.carry(hi:∀k,ad k->aF k)(hs:∀k,ad k->w'.heap[k]?=w.heap[k]?)(aN:cw β H aK H'){b:Nat}{o:Obj}(m:o.refs (aJ H))
 (j:o.live->w'.heap[β.an b]?=w.heap[β.an b]?/\aK.an b=β.an b/\aK.cap b=β.cap b)(held:o.live->∀fz,cG ad β ah fz b->cG aF aK ah fz b)(h:ff P w ad β H ah b o):ff P w' aF aK H' ah b o:=by
 cases o with
 |hole=>trivial
 |dead=>trivial
 |box fz t=>
  obtain⟨cs,T,d,e,f,i⟩:=h;obtain⟨a,c,g⟩:=j trivial;exact⟨cs,T,by rw[c,a];exact d,br.mono hi hs aN _ _ m e,held trivial _ f,i⟩
 |arr k az ai es=>
  rcases h with h|⟨cs,T,n,rest,d,e,f,i,q,r,u,v⟩
  ·exact .inl h
  ·by_cases l:dd k es
   ·exact .inl l
   ·obtain⟨a,c,g⟩:=j l;exact .inr ⟨cs,T,n,rest,by rw[c,a];exact d,bM.mono hi hs aN _ _ _ m e,f,by rw[g];exact i,by rw[g];exact q,by rw[g];exact r,held l _ u,v⟩
 |map fz es=>
  obtain⟨p,clock,d,e,f⟩:=h;obtain⟨a,c,g⟩:=j trivial;exact⟨p,clock,by rw[c,a];exact d,cH.mono hi hs _ _ e,held trivial _ f⟩
 |du s pos=>
  obtain⟨bs,d,e,f⟩:=h;obtain⟨a,c,g⟩:=j trivial;exact⟨bs,by rw[c,a];exact d,e,held trivial _ f⟩
 |loop L=>
  obtain⟨tmps,defers,fn,d,e,f,i⟩:=h;obtain⟨a,c,g⟩:=j trivial;exact⟨tmps,defers,fn,by rw[c,a];exact d,e,fun x=>aA.mono hi hs aN _ _ (m x) (f x),held trivial _ i⟩
def dv(bs:List Nat)(a:Nat)(H0 bS:aj)(b:AV):aW:=
 {v:=cF (sig bs a) b,al:=bs.zip (H0.map (cX (sig bs a))),aM:=bs.zip ((bS.take H0.length).map (cX (sig bs a))),aS:=(bS.drop H0.length).map (cX (sig bs a))}
open Classical in
theorem H3{H0 bS:aj}{fG:List AV}{v0:AV}(bs:List Nat)(base:Nat)(hlen:bs.length=H0.length)(hnd:bs.Nodup)(hlt:∀b∈bs,b<base)
 (hl:H0.length<=bS.length)(ha:aX (aJ H0) fG)(ho:∀(b:Nat)(o:Obj),H0[b]?=some o->o.refs (aJ H0))
 {H:aj}{w:a6}{ad ah:Nat->Prop}{β:Bd}{cargs:List a3}(hr:bU P w ad β H ah)(hargs:bF P w ad β H (cO (sig bs base) fG) cargs)
 (al:∀p∈(dv bs base H0 bS v0).al,H[p.1]?=some p.2)(aS:∀i,i<(dv bs base H0 bS v0).aS.length->H[base+i]?=some .hole):
 ∃(dL:Bd)(Prot0:Nat->Prop),(∀b,dL.an b=β.an (sig bs base b))/\bU P w ad dL H0 Prot0/\bF P w ad dL H0 fG cargs/\(∀b,b<H0.length->(gM H (sig bs base b)↔gM H0 b))/\
  ∀(cv:a3)(w':a6)(β0':Bd)(aF:Nat->Prop),bY P Prot0 ad w dL H0 aF w' β0' bS->aA P w' aF β0' bS v0 cv->aE (aJ bS) v0->
   ∃aK,bY P ah ad w β H aF w' aK (bc H ((dv bs base H0 bS v0).aM++newAt base (dv bs base H0 bS v0).aS))/\
    aA P w' aF aK (bc H ((dv bs base H0 bS v0).aM++newAt base (dv bs base H0 bS v0).aS)) (dv bs base H0 bS v0).v cv/\
    aE (aJ (bc H ((dv bs base H0 bS v0).aM++newAt base (dv bs base H0 bS v0).aS))) (dv bs base H0 bS v0).v:=by
 obtain⟨σ,hσ⟩:∃σ,σ=sig bs base:=⟨_,rfl⟩
 have hinj:∀{i j},σ i=σ j->i=j:=fun{i j} h=>aIt hnd hlt (by rw[hσ]at h;exact h);have hold:∀{i}(hi:i<H0.length),σ i=bs[i]'(by omega):=fun hi=>by rw[hσ];exact sH _
 have hnw:∀{i},H0.length<=i->σ i=base+(i-H0.length):=fun hi=>by rw[hσ,sJ (by omega),hlen]
 have hget:∀(b:Nat)(o:Obj),H0[b]?=some o->H[σ b]?=some (cX σ o):=by
  intro b o hb;obtain⟨hbl,rfl⟩:=be.1 hb;have:=al (bs[b]'(by omega),cX (sig bs base) H0[b]) (by
   simp only[dv];rw[bl];exact⟨b,by simp;omega,by simp⟩)
  rw[hold hbl,hσ];exact this
 have hnewH:∀i,H0.length<=i->i<bS.length->H[σ i]?=some .hole:=by
  intro i h1 h2;rw[hnw h1];exact aS (i-H0.length) (by simp[dv];omega)
 obtain⟨H2,hH2⟩:∃H2,H2=bc H ((dv bs base H0 bS v0).aM++newAt base (dv bs base H0 bS v0).aS):=⟨_,rfl⟩
 have hkeys:∀p∈(dv bs base H0 bS v0).aM++newAt base (dv bs base H0 bS v0).aS,∃i,i<bS.length/\p.1=σ i:=by
  intro p hp;rcases List.mem_append.1 hp with hp|hp
  ·simp only[dv]at hp;have hm:=(bI hp).1;obtain⟨i,hi,he⟩:=bl.1 hm;exact⟨i,by omega,by rw[hold (by omega)];exact he.symm⟩
  ·have hm:p.1∈(newAt base (dv bs base H0 bS v0).aS).map (·.1):=List.mem_map_of_mem hp
   rw[Bw,b2]at hm;simp only[dv,List.length_map,List.length_drop]at hm;exact⟨H0.length+(p.1-base),by omega,by rw[hnw (by omega)];omega⟩
 have hndk:(((dv bs base H0 bS v0).aM++newAt base (dv bs base H0 bS v0).aS).map (·.1)).Nodup:=by
  rw[List.map_append,Bw];have e:(dv bs base H0 bS v0).aM.map (·.1)=bs:=by
   simp only[dv];rw[List.map_fst_zip];simp;omega
  rw[e,List.nodup_append];refine⟨hnd,List.nodup_range',fun a h1 b h2 he=>?_⟩;subst he;have:=hlt _ h1;rw[b2]at h2;omega
 have hA:∀(i:Nat)(o:Obj),bS[i]?=some o->H2[σ i]?=some (cX σ o):=by
  intro i o hi;obtain⟨hil,rfl⟩:=be.1 hi
  by_cases hi0:i<H0.length
  ·have hm:(bs[i]'(by omega),cX (sig bs base) bS[i])∈(dv bs base H0 bS v0).aM++newAt base (dv bs base H0 bS v0).aS:=by
    refine List.mem_append_left _ ?_;simp only[dv];rw[bl];exact⟨i,by simp;omega,by simp⟩
   have:=sV (H:=H) hndk _ hm (by
    have:=hget i _ (bb hi0);rw[hold hi0]at this;exact(be.1 this).1)
   rw[hH2,hold hi0,this,hσ]
  ·have hm:(base+(i-H0.length),cX (sig bs base) bS[i])∈(dv bs base H0 bS v0).aM++newAt base (dv bs base H0 bS v0).aS:=by
    refine List.mem_append_right _ ?_;have:=Ip (dv bs base H0 bS v0).aS base (i-H0.length) (by simp[dv];omega);have e:(dv bs base H0 bS v0).aS[i-H0.length]'(by simp[dv];omega)=cX (sig bs base) bS[i]:=by
     simp only[dv,List.getElem_map,List.getElem_drop];congr 2;omega
    rw[e]at this;exact this
   have:=sV (H:=H) hndk _ hm (by
    have:=hnewH i (by omega) hil;rw[hnw (by omega)]at this;exact(be.1 this).1)
   rw[hH2,hnw (by omega),this,hσ]
 have hB:∀x,(∀i,i<bS.length->σ i≠x)->H2[x]?=H[x]?:=by
  intro x hx;rw[hH2];refine qy fun p hp=>?_;obtain⟨i,h1,h2⟩:=hkeys p hp;rw[h2];exact hx i h1
 let dL:Bd:=⟨fun b=>β.an (σ b),fun b=>β.cap (σ b)⟩
 let Prot0:Nat->Prop:=fun k=>ah k\/∃x o,H[x]?=some o/\o.live/\(∀i,i<H0.length->σ i≠x)/\β.an x=k
 have hemb:dM σ dL H0 β H:=⟨hget,fun b _=>⟨rfl,rfl⟩⟩
 have small:∀x:Nat×Nat,aJ H0 x->Small H0.length x:=fun x⟨o,ho,_⟩=>(be.1 ho).1;have held0:∀{b:Nat}{o:Obj},H0[b]?=some o->o.live->∀fz,cG ad dL Prot0 fz b↔cG ad β ah fz (σ b):=by
  intro b o hb hlv fz;cases fz with
  |true=>simp[cG,dL]
  |false=>
   simp only[cG,av,if_false];refine and_congr_right fun hni=>⟨fun h hp=>h (.inl hp),fun h hp=>?_⟩
   rcases hp with hp|⟨x,o',h1,h2,h3,h4⟩
   ·exact h hp
   ·exact h3 b (be.1 hb).1 (hr.inj _ _ _ _ (hget b o hb) h1 (ql.2 hlv) h2 hni h4.symm)
 have hr0:bU P w ad dL H0 Prot0:=by
  refine⟨fun b o hb=>?_,fun b b' o o' h1 h2 l1 l2 hni he=>?_,ho,hr.bQ,fun k hk=>?_,hr.ir⟩
  ·exact(hemb.P6 hb ((ho b o hb).mono small) (held0 hb)).1 (hr.cJ _ _ (hget b o hb))
  ·exact hinj (hr.inj _ _ _ _ (hget b o h1) (hget b' o' h2) (ql.2 l1) (ql.2 l2) hni he)
  ·rcases hk with hk|⟨x,o,h1,h2,_,rfl⟩
   ·exact hr.dU k hk
   ·exact hr.mr h1 h2
 have hargs0:bF P w ad dL H0 fG cargs:=by
  rw[<-hσ]at hargs;exact(hemb.ry _ _ (aX.mono small _ ha)).1 hargs
 refine⟨dL,Prot0,fun b=>by rw[<-hσ],hr0,hargs0,fun b hb=>by rw[<-hσ];exact hemb.loop hb,fun cv w' β0' aF hp hv hvr=>?_⟩
 let aK:Bd:=⟨fun x=>if h:∃i,i<bS.length/\σ i=x then β0'.an h.choose else β.an x,fun x=>if h:∃i,i<bS.length/\σ i=x then β0'.cap h.choose else β.cap x⟩
 have hβ:∀i,i<bS.length->aK.an (σ i)=β0'.an i/\aK.cap (σ i)=β0'.cap i:=by
  intro i hi;have hex:∃j,j<bS.length/\σ j=σ i:=⟨i,hi,rfl⟩
  have hc:hex.choose=i:=hinj hex.choose_spec.2;simp only[aK,dif_pos hex,hc,and_self]
 have hβn:∀x,(∀i,i<bS.length->σ i≠x)->aK.an x=β.an x/\aK.cap x=β.cap x:=by
  intro x hx;have hnex:¬∃i,i<bS.length/\σ i=x:=fun⟨i,h1,h2⟩=>hx i h1 h2;simp only[aK,dif_neg hnex,and_self]
 have hemb':dM σ β0' bS aK H2:=⟨hA,fun b hb=>hβ b hb⟩
 have small':∀x:Nat×Nat,aJ bS x->Small bS.length x:=fun x⟨o,ho,_⟩=>(be.1 ho).1;have split:∀x,(∃i,i<bS.length/\σ i=x)\/∀i,i<bS.length->σ i≠x:=by
  intro x
  by_cases hx:∃i,i<bS.length/\σ i=x
  ·exact .inl hx
  ·exact .inr fun i h1 h2=>hx ⟨i,h1,h2⟩
 have inOld:∀{i v},i<bS.length->aJ H (σ i,v)->aJ H0 (i,v)/\i<H0.length:=by
  intro i v hi ⟨o,h1,h2⟩
  by_cases hi0:i<H0.length
  ·refine⟨?_,hi0⟩;have:=hget i _ (bb hi0);simp only at h1;rw[this]at h1;cases h1;exact⟨_,bb hi0,Ly.1 h2⟩
  ·have:=hnewH i (by omega) hi;simp only at h1;rw[this]at h1;cases h1;exact h2.elim
 have gS:cw β H aK H2:=by
  refine⟨?_,?_,?_,?_,?_⟩
  ·intro b hb hlv;rcases split b with⟨i,hi,rfl⟩|hx
   ·obtain⟨k1,k2⟩:=inOld hi hb;obtain⟨g1,g2⟩:=hp.step.box i k1 ((hemb'.box hi).1 hlv);exact⟨(hemb.box k2).2 g1,(hβ i hi).1.trans g2⟩
   ·unfold mw at hlv⊢;rw[hB b hx]at hlv;exact⟨hlv,(hβn b hx).1⟩
  ·intro b hb hlv;rcases split b with⟨i,hi,rfl⟩|hx
   ·obtain⟨k1,k2⟩:=inOld hi hb;obtain⟨g1,g2⟩:=hp.step.it i k1 ((hemb'.it hi).1 hlv);exact⟨(hemb.it k2).2 g1,(hβ i hi).1.trans g2⟩
   ·unfold mA at hlv⊢;rw[hB b hx]at hlv;exact⟨hlv,(hβn b hx).1⟩
  ·intro b hb hlv;rcases split b with⟨i,hi,rfl⟩|hx
   ·obtain⟨k1,k2⟩:=inOld hi hb;obtain⟨g1,g2⟩:=hp.step.map i k1 ((hemb'.map hi).1 hlv);exact⟨(hemb.map k2).2 g1,(hβ i hi).1.trans g2⟩
   ·unfold mv at hlv⊢;rw[hB b hx]at hlv;exact⟨hlv,(hβn b hx).1⟩
  ·intro b az ai k es hb hlv;rcases split b with⟨i,hi,rfl⟩|hx
   ·obtain⟨k1,k2⟩:=inOld hi hb;obtain⟨gA,g0,rfl⟩:=(hemb'.arr hi).1 hlv;obtain⟨k0,es1,g1,g2,g3,g4⟩:=hp.step.arr i az ai k gA k1 g0;refine⟨k0,cO σ es1,(hemb.arr k2).2 ⟨_,g1,rfl⟩,by rw[rV,rV];exact g2,by rw[nC,nC];exact g3,fun hn=>?_⟩;rw[nC]at hn;rw[(hβ i hi).1,(hβ i hi).2];exact g4 hn
   ·unfold fg at hlv⊢;rw[hB b hx]at hlv;exact⟨k,es,hlv,Nat.le_refl _,Iff.rfl,fun _=>hβn b hx⟩
  ·intro b hb hlv;rcases split b with⟨i,hi,rfl⟩|hx
   ·obtain⟨k1,k2⟩:=inOld hi hb;obtain⟨g1,g2⟩:=hp.step.loop i k1 ((hemb'.loop hi).1 hlv);exact⟨(hemb.loop k2).2 g1,(hβ i hi).1.trans g2⟩
   ·unfold gM at hlv⊢;rw[hB b hx]at hlv;exact⟨hlv,(hβn b hx).1⟩
 have hinn:∀x,aJ H x->aJ H2 x:=by
  rintro⟨b,v⟩ hb;rcases split b with⟨i,hi,rfl⟩|hx
  ·obtain⟨k1,_⟩:=inOld hi hb;exact(hemb'.DF (x:=(i,v)) hi).2 (hp.eP _ k1)
  ·obtain⟨o,h1,h2⟩:=hb;exact⟨o,by simp only;rw[hB b hx];exact h1,h2⟩
 have prot0:∀{x:Nat}{o:Obj},(∀i,i<bS.length->σ i≠x)->H[x]?=some o->o.live->Prot0 (β.an x):=by
  intro x o hx h1 h2;exact .inr ⟨x,o,h1,h2,fun i hi=>hx i (by omega),rfl⟩
 have mut':∀{i:Nat}{o:Obj},bS[i]?=some o->o.live->¬aF (β0'.an i)->¬Prot0 (β0'.an i):=by
  intro i o h1 h2 h3;exact(hp.rel.cJ i o h1).mut h2 h3
 have hrel:bU P w' aF aK H2 ah:=by
  refine⟨fun x o hx=>?_,fun x x' o o' h1 h2 l1 l2 hni he=>?_,fun x o hx=>?_,hp.rel.bQ,fun k hk=>hp.rel.dU k (.inl hk),hp.rel.ir⟩
  ·rcases split x with⟨i,hi,rfl⟩|hn
   ·have hg:=hA i _ (bb hi);rw[hg]at hx;cases hx;refine(hemb'.P6 (Prot0:=Prot0) (bb hi) ((hp.rel.refs i _ (bb hi)).mono small') (fun hlv fz=>?_)).2 (hp.rel.cJ i _ (bb hi));cases fz with
    |true=>simp[cG,(hβ i hi).1]
    |false=>
     simp only[cG,av,if_false,(hβ i hi).1];exact⟨fun h=>⟨h.1,fun hp=>h.2 (.inl hp)⟩,fun h=>⟨h.1,mut' (bb hi) hlv h.1⟩⟩
   ·rw[hB x hn]at hx;refine ff.carry hp.bQ (fun k hk=>hp.ext.same k (.inr hk)) gS (hr.refs x o hx) (fun hlv=>⟨hp.ext.same _ (.inl (prot0 hn hx hlv)),hβn x hn⟩) (fun hlv fz hh=>?_) (hr.cJ x o hx);have hp0:=prot0 hn hx hlv;cases fz with
    |true=>
     simp only[cG,if_true]at hh⊢;rw[(hβn x hn).1];exact hp.bQ _ hh
    |false=>
     simp only[cG,av,if_false]at hh⊢;rw[(hβn x hn).1];exact⟨fun hi=>(hp.fresh _ hi).elim hh.1 (fun h=>h hp0),hh.2⟩
  ·rcases split x with⟨i,hi,rfl⟩|hn<;>rcases split x' with⟨j,hj,rfl⟩|hn'
   ·have g1:=hA i _ (bb hi);have g2:=hA j _ (bb hj);rw[g1]at h1;cases h1;rw[g2]at h2;cases h2;rw[(hβ i hi).1,(hβ j hj).1]at he;rw[(hβ i hi).1]at hni;rw[hp.rel.inj i j _ _ (bb hi) (bb hj) (ql.1 l1) (ql.1 l2) hni he]
   ·have g1:=hA i _ (bb hi);rw[g1]at h1;cases h1;rw[hB x' hn']at h2;rw[(hβ i hi).1,(hβn x' hn').1]at he;rw[(hβ i hi).1]at hni;exact(mut' (bb hi) (ql.1 l1) hni (he▸prot0 hn' h2 l2)).elim
   ·have g2:=hA j _ (bb hj);rw[g2]at h2;cases h2;rw[hB x hn]at h1;rw[(hβ j hj).1,(hβn x hn).1]at he;rw[(hβn x hn).1]at hni;exact(mut' (bb hj) (ql.1 l2) (he▸hni) (he▸prot0 hn h1 l1)).elim
   ·rw[hB x hn]at h1;rw[hB x' hn']at h2;rw[(hβn x hn).1,(hβn x' hn').1]at he;rw[(hβn x hn).1]at hni;exact hr.inj _ _ _ _ h1 h2 l1 l2 (fun hi=>hni (hp.bQ _ hi)) he
  ·rcases split x with⟨i,hi,rfl⟩|hn
   ·have hg:=hA i _ (bb hi);rw[hg]at hx;cases hx;rw[Vm];exact(hp.rel.refs i _ (bb hi)).mono (fun y hy=>(hemb'.DF (small' y hy)).2 hy)
   ·rw[hB x hn]at hx;exact(hr.refs x o hx).mono hinn
 refine⟨aK,?_,?_,?_⟩
 ·rw[<-hH2];refine⟨hp.bQ,fun k hk=>(hp.fresh k hk).imp id (fun h h'=>h (.inl h')),⟨hp.ext.size,fun k hk=>hp.ext.same k (hk.imp .inl id),hp.ext.io⟩,gS,hrel,hinn,fun b hb=>?_⟩;rcases split b with⟨i,hi,rfl⟩|hx
  ·by_cases hi0:i<H0.length
   ·exact(hemb'.loop hi).2 (hp.loop i ((hemb.loop hi0).1 hb))
   ·obtain⟨L,hL⟩:=hb;rw[hnewH i (by omega) hi]at hL;cases hL
  ·unfold gM at hb⊢;rw[hB b hx];exact hb
 ·rw[<-hH2];show aA P w' aF aK H2 (cF (sig bs base) v0) cv;rw[<-hσ];exact(hemb'.Dp _ _ (aE.mono small' _ hvr)).2 hv
 ·rw[<-hH2];show aE (aJ H2) (cF (sig bs base) v0);rw[<-hσ,BQ];exact aE.mono (fun y hy=>(hemb'.DF (small' y hy)).2 hy) _ hvr
theorem cE.frame{f:aT}{H0 bS:aj}{fG:List AV}{g:AV}(h:cE P f H0 fG bS g)(bs:List Nat)(a:Nat)(r:bs.length=H0.length)(t:bs.Nodup)(s:∀b∈bs,b<a)
 (q:H0.length<=bS.length)(d:aX (aJ H0) fG)(u:∀(b:Nat)(o:Obj),H0[b]?=some o->o.refs (aJ H0)):
 rq P f (cO (sig bs a) fG) a (dv bs a H0 bS g):=by
 refine⟨h.1,fun H w ad ah β m x n _ al aS=>?_⟩;obtain⟨dL,i,-,y,p,-,back⟩:=H3 bs a r t s q d u x n al aS;refine(h.2 w ad i dL m y p d).mono ?_;rintro e w' ⟨c,B,aF,rfl,v,z,A⟩;obtain⟨aK,j,k,l⟩:=back c w' B aF v z A;exact⟨c,aK,aF,rfl,j,k,l⟩
theorem fh.frame{b:Nat}{H0 bS:aj}{fG:List AV}{i:AV}(h:fh P b H0 fG bS i)(bs:List Nat)(a:Nat)(x:bs.length=H0.length)(A:bs.Nodup)(z:∀b∈bs,b<a)
 (v:H0.length<=bS.length)(g:aX (aJ H0) fG)(B:∀(b:Nat)(o:Obj),H0[b]?=some o->o.refs (aJ H0)):
 nO P (sig bs a b) (cO (sig bs a) fG) a (dv bs a H0 bS i):=by
 intro H w ad ah β p D r _ al aS;obtain⟨dL,j,t,E,s,y,back⟩:=H3 bs a x A z v g B D r al aS;have u:b<H0.length:=by
  obtain⟨L,q⟩:=h.1;exact(be.1 q).1
 refine⟨(y b u).2 h.1,?_⟩;obtain⟨f,tmps,assign,body,d,e⟩:=h.2 w ad j dL p E s g;rw[t]at d e;refine⟨f,tmps,assign,body,d,fun n I=>?_⟩;obtain⟨c,w',J,aF,g1,C,F,G⟩:=e n I;obtain⟨aK,k,l,m⟩:=back c w' J aF C F G;exact⟨c,w',aK,aF,g1,k,l,m⟩
end
end Go.ak
namespace Go.ak
variable[Gl]
def kt(b:Nat):List Nat->Nat->Option Nat
 |[],_=>none
 |x::r,i=>bif ce x b then some i else kt b r (i+1)
theorem Km{b:Nat}:∀{l:List Nat}{i j:Nat},kt b l i=some j->i<=j/\l[j-i]?=some b
 |[],_,_,h=>by simp[kt]at h
 |x::r,i,j,h=>by
  simp only[kt]at h;cases a:ce x b
  ·simp only[a,cond_false]at h;obtain⟨d,c⟩:=Km h;refine⟨by omega,?_⟩;have e:j-i=(j-(i+1))+1:=by omega
   rw[e,List.getElem?_cons_succ];exact c
  ·simp only[a,cond_true,da]at h;subst h;simp[dt a]
section
variable(bs:List Nat)
mutual
def lS:AV->Option AV
 | .p v=>some (.p v)
 | .ptr b path=>match kt b bs 0 with
  |some i=>some (.ptr i path)
  |none=>none
 | .bZ b az ai i path=>match kt b bs 0 with
  |some j=>some (.bZ j az ai i path)
  |none=>none
 | .sl b az ai off len=>match kt b bs 0 with
  |some j=>some (.sl j az ai off len)
  |none=>none
 | .map b=>match kt b bs 0 with
  |some j=>some (.map j)
  |none=>none
 | .func f fi ca=>match my fi,my ca with
  |some a,some b=>some (.func f a b)
  |_,_=>none
 | .st u fs=>match my fs with
  |some a=>some (.st u a)
  |none=>none
 | .aC vs=>match my vs with
  |some a=>some (.aC a)
  |none=>none
def my:List AV->Option (List AV)
 |[]=>some []
 |v::r=>match lS v,my r with
  |some a,some b=>some (a::b)
  |_,_=>none
end
def CP:Obj->Option Obj
 | .box fz t=>match lS bs t with
  |some a=>some (.box fz a)
  |none=>none
 | .arr k az ai es=>match my bs es with
  |some a=>some (.arr k az ai a)
  |none=>none
 | .map fz es=>some (.map fz es)
 | .du s n=>some (.du s n)
 | .dead=>some .dead
 |_=>none
def vf(H:aj):List Nat->Option aj
 |[]=>some []
 |b::r=>match H[b]? with
  |some o=>match CP bs o,vf H r with
   |some a,some t=>some (a::t)
   |_,_=>none
  |none=>none
end
section
variable{bs:List Nat}{base:Nat}
theorem yj{b i:Nat}(h:kt b bs 0=some i):sig bs base i=b:=by
 have:=(Km h).2;simp only[Nat.sub_zero]at this;simp[sig,this]
mutual
theorem Jn:∀{a c:AV},lS bs a=some c->cF (sig bs base) c=a
 | .p v,c,h=>by simp only[lS,da]at h;subst h;rfl
 | .ptr b path,c,h=>by
  simp only[lS]at h
  split at h
  ·rename_i i hi;simp only[da]at h;subst h;simp only[cF,yj hi]
  ·simp at h
 | .bZ b az ai i path,c,h=>by
  simp only[lS]at h
  split at h
  ·rename_i i hi;simp only[da]at h;subst h;simp only[cF,yj hi]
  ·simp at h
 | .sl b az ai off len,c,h=>by
  simp only[lS]at h
  split at h
  ·rename_i i hi;simp only[da]at h;subst h;simp only[cF,yj hi]
  ·simp at h
 | .map b,c,h=>by
  simp only[lS]at h
  split at h
  ·rename_i i hi;simp only[da]at h;subst h;simp only[cF,yj hi]
  ·simp at h
 | .func f fi ca,c,h=>by
  simp only[lS]at h
  split at h
  ·rename_i a b d g;simp only[da]at h;subst h;simp only[cF,pW d,pW g]
  ·simp at h
 | .st u fs,c,h=>by
  simp only[lS]at h
  split at h
  ·rename_i a d;simp only[da]at h;subst h;simp only[cF,pW d]
  ·simp at h
 | .aC vs,c,h=>by
  simp only[lS]at h
  split at h
  ·rename_i a d;simp only[da]at h;subst h;simp only[cF,pW d]
  ·simp at h
theorem pW:∀{l e:List AV},my bs l=some e->cO (sig bs base) e=l
 |[],e,h=>by simp only[my,da]at h;subst h;rfl
 |v::r,e,h=>by
  simp only[my]at h
  split at h
  ·rename_i a b d g;simp only[da]at h;subst h;simp only[cO,Jn d,pW g]
  ·simp at h
end
theorem UT{o c:Obj}(h:CP bs o=some c):cX (sig bs base) c=o:=by
 cases o<;>simp only[CP]at h
 case box fz t=>
  split at h
  ·rename_i a b;simp only[da]at h;subst h;simp only[cX,Jn b]
  ·simp at h
 case arr k az ai es=>
  split at h
  ·rename_i a b;simp only[da]at h;subst h;simp only[cX,pW b]
  ·simp at h
 case hole=>simp at h
 case loop=>simp at h
 all_goals (simp only[da]at h;subst h;rfl)
theorem H6{H:aj}:∀{l:List Nat}{H0:aj},vf bs H l=some H0->H0.length=l.length/\∀p∈l.zip (H0.map (cX (sig bs base))),H[p.1]?=some p.2
 |[],H0,h=>by simp only[vf,da]at h;subst h;simp
 |b::r,H0,h=>by
  simp only[vf]at h
  split at h
  case h_2=>simp at h
  rename_i o f
  split at h
  case h_2=>simp at h
  rename_i a t d e;simp only[da]at h;subst h;obtain⟨i1,i2⟩:=H6 e;refine⟨by simp[i1],fun p c=>?_⟩;simp only[b5,List.zip_cons_cons,bi]at c;rcases c with rfl|c
  ·simp only[UT d];exact f
  ·exact i2 p c
end
mutual
def O8:AV->List Nat->List Nat
 | .p _,acc=>acc
 | .ptr b _,acc| .bZ b _ _ _ _,acc| .sl b _ _ _ _,acc| .map b,acc=>b::acc
 | .func _ fi ca,acc=>tL fi (tL ca acc)
 | .st _ fs,acc| .aC fs,acc=>tL fs acc
def tL:List AV->List Nat->List Nat
 |[],acc=>acc
 |v::r,acc=>O8 v (tL r acc)
end
def adY:Obj->List Nat
 | .box _ t=>O8 t []
 | .arr _ _ _ es=>tL es []
 |_=>[]
def C5(H:aj):Nat->List Nat->List Nat->List Nat
 |0,_,acc=>acc
 |_,[],acc=>acc
 |n+1,b::r,acc=>match kt b acc 0 with
  |some _=>C5 H n r acc
  |none=>C5 H n (match H[b]? with
   |some o=>adY o++r
   |none=>r) (b::acc)
def nodupB:List Nat->Bool
 |[]=>true
 |x::r=>(match kt x r 0 with
  |some _=>false
  |none=>true)&&nodupB r
theorem Ic{b:Nat}:∀{l:List Nat}{i:Nat},kt b l i=none->b∉l
 |[],_,_=>by simp
 |x::r,i,h=>by
  simp only[kt]at h;cases a:ce x b
  ·simp only[a,cond_false]at h;have:=Ic h;simp only[bi,not_or];refine⟨fun e=>?_,this⟩;subst e;rw[cx]at a;cases a
  ·simp[a]at h
theorem Il:∀{l:List Nat},nodupB l=true->l.Nodup
 |[],_=>List.nodup_nil
 |x::r,h=>by
  simp only[nodupB,ap]at h;rw[b4];refine⟨?_,Il h.2⟩;have a:=h.1
  split at a
  ·simp at a
  ·rename_i b;exact Ic b
def zL(H:aj)(b v:Nat):Bool:=match H[b]? with
 |some .hole|none=>false
 |some (.arr _ az _ _)=>cc v az
 |some _=>true
theorem aea{H:aj}{b v:Nat}(h:zL H b v=true):aJ H (b,v):=by
 unfold zL at h
 split at h
 ·simp at h
 ·simp at h
 ·rename_i k az ai c a;exact⟨_,a,cS h⟩
 ·rename_i o d e a;refine⟨o,a,?_⟩;cases o with
  |hole=>exact(d rfl).elim
  |arr k az ai c=>exact(e _ _ _ _ rfl).elim
  |_=>trivial
mutual
def q7(H:aj):AV->Bool
 | .p _=>true
 | .ptr b _| .map b=>zL H b 0
 | .bZ b az _ _ _| .sl b az _ _ _=>zL H b az
 | .func _ fi ca=>nK H fi&&nK H ca
 | .st _ fs| .aC fs=>nK H fs
def nK(H:aj):List AV->Bool
 |[]=>true
 |v::r=>q7 H v&&nK H r
end
mutual
theorem BR{H:aj}:∀{a:AV},q7 H a=true->aE (aJ H) a
 | .p _,_=>by simp[aE]
 | .ptr _ _,h| .map _,h| .bZ _ _ _ _ _,h| .sl _ _ _ _ _,h=>by
  simp only[q7]at h;simp only[aE];exact aea h
 | .func _ fi ca,h=>by
  simp only[q7,ap]at h;simp only[aE];exact⟨pX h.1,pX h.2⟩
 | .st _ _,h| .aC _,h=>by
  simp only[q7]at h;simp only[aE];exact pX h
theorem pX{H:aj}:∀{l:List AV},nK H l=true->aX (aJ H) l
 |[],_=>by simp[aX]
 |v::r,h=>by
  simp only[nK,ap]at h;simp only[aX];exact⟨BR h.1,pX h.2⟩
end
def yB(H:aj):Obj->Bool
 | .box _ t=>q7 H t
 | .arr _ _ _ es=>nK H es
 | .loop _=>false
 |_=>true
theorem Ih{H:aj}{o:Obj}(h:yB H o=true):o.refs (aJ H):=by
 cases o<;>simp only[yB]at h<;>simp only[Obj.refs]
 ·exact BR h
 ·exact pX h
 ·simp at h
def qP(p:Obj->Bool):List Obj->Bool
 |[]=>true
 |o::r=>p o&&qP p r
theorem u4{p:Obj->Bool}:∀{l:List Obj},qP p l=true->∀o∈l,p o=true
 |[],_,o,h=>by simp at h
 |a::r,h,o,b=>by
  simp only[qP,ap]at h;rcases bi.1 b with rfl|b
  ·exact h.1
  ·exact u4 h.2 o b
def yy(n:Nat):List Nat->Bool
 |[]=>true
 |x::r=>cc (x+1) n&&yy n r
theorem CK{n:Nat}:∀{l:List Nat},yy n l=true->∀x∈l,x<n
 |[],_,o,h=>by simp at h
 |a::r,h,o,b=>by
  simp only[yy,ap]at h;rcases bi.1 b with rfl|b
  ·exact cS h.1
  ·exact CK h.2 o b
def yv:Obj->Bool
 | .hole=>false
 |_=>true
def vx(run:List AV->aj->Option (AV×aj))(args:List AV)(H:aj):Option aW:=
 let bs:=C5 H 1000 (tL args []) []
 match my bs args,vf bs H bs with
 |some fG,some H0=>bif nodupB bs&&(yy H.length bs&&(nK H0 fG&&qP (yB H0) H0))then
  match run fG H0 with
  |some (v0,H1)=>bif cc H0.length H1.length&&(qP yv (H1.take H0.length))then some (dv bs H.length H0 H1 v0)else none
  |none=>none
  else none
 |_,_=>none
theorem BI{P:a0}{f:aT}{run:List AV->aj->Option (AV×aj)}(n:∀args H v H',run args H=some (v,H')->cE P f H args H' v){args:List AV}{H:aj}{e:aW}(h:vx run args H=some e):
 rq P f args H.length e/\nT H e:=by
 unfold vx at h;dsimp only at h
 split at h
 case h_2=>simp at h
 rename_i fG H0 g i;simp only[ao,c9,ap]at h;obtain⟨⟨g1,g2,g3,g4⟩,h⟩:=h
 split at h
 case h_2=>simp at h
 rename_i q H1 j;simp only[c9,da]at h;obtain⟨⟨g5,g7⟩,rfl⟩:=h;obtain⟨k1,k2⟩:=H6 (base:=H.length) i;have hf:=(n _ _ _ _ j).frame _ H.length k1.symm (Il g1) (CK g2) (cS g5) (pX g3) (fun b o k=>Ih (u4 g4 o (b0 k)));rw[pW g]at hf;refine⟨hf,k2,fun p d=>?_⟩;simp only[dv]at d;have c:=bI d;refine⟨CK g2 _ c.1,fun l=>?_⟩;obtain⟨o,m,a⟩:=bV.1 c.2;rw[l]at a;have:=u4 g7 o m;rw[Wr.1 a]at this;simp[yv]at this
mutual
theorem vy:∀v:AV,cF (fun i=>i) v=v
 | .p _| .sl .. | .bZ .. | .ptr .. | .map _=>rfl
 | .st u vs=>by simp only[cF,oM vs]
 | .aC vs=>by simp only[cF,oM vs]
 | .func f a b=>by simp only[cF,oM a,oM b]
theorem oM:∀l:List AV,cO (fun i=>i) l=l
 |[]=>rfl
 |v::l=>by simp only[cO,vy v,oM l]
end
theorem ID:∀e:Env,sZ (fun i=>i) e=e
 |[]=>rfl
 |(x,v)::r=>by simp only[sZ,vy v,ID r]
theorem Oo(o:Obj):cX (fun i=>i) o=o:=by
 cases o<;>simp only[cX,vy,oM,ID]
theorem zf(n:Nat):sig (bo n) n=fun i=>i:=by
 funext i
 by_cases h:i<n
 ·rw[sH (by simpa using h)];simp
 ·rw[sJ (by simpa using h)];simp;omega
def fB(H:aj):List (Nat×Obj):=(bo H.length).zip H
theorem tC{H:aj}{p:Nat×Obj}(h:p∈fB H):H[p.1]?=some p.2:=by
 rw[fB,bl]at h;obtain⟨i,hi,a⟩:=h;rw[List.getElem_zip]at a;subst a;simp
def zE(H:aj):Env->Bool
 |[]=>true
 |(_,v)::r=>q7 H v&&zE H r
theorem Ll{H:aj}:∀{e:Env},zE H e=true->∀x,aE (aJ H) (aQ e x)
 |[],_,x=>by simp[aQ,aE]
 |(y,v)::r,h,x=>by
  simp only[zE,ap]at h;simp only[aQ]
  split
  ·exact BR h.1
  ·exact Ll h.2 x
def MS(H:aj):Obj->Bool
 | .loop L=>zE H L.env
 |o=>yB H o
theorem Vn{H:aj}{o:Obj}(h:MS H o=true):o.refs (aJ H):=by
 cases o<;>first
  |exact Ih h
  |exact Ll h
def Cv(run:Nat->aj->List AV->Option (aj×AV))(b:Nat)(args:List AV)(H:aj):Option aW:=
 bif nK H args&&qP (MS H) H then
  match run b H args with
  |some (H1,v)=>bif cc H.length H1.length&&(qP yv (H1.take H.length))then some {v,al:=fB H,aM:=(bo H.length).zip (H1.take H.length),aS:=H1.drop H.length}else none
  |none=>none
 else none
theorem Ut{P:a0}{run:Nat->aj->List AV->Option (aj×AV)}(k:∀b H args H' v,run b H args=some (H',v)->fh P b H args H' v){b:Nat}{args:List AV}{H:aj}{e:aW}(h:Cv run b args H=some e):
 nO P b args H.length e/\nT H e:=by
 unfold Cv at h;simp only[ao,c9,ap]at h;obtain⟨⟨g3,g4⟩,h⟩:=h
 split at h
 case h_2=>simp at h
 rename_i H1 f g;simp only[c9,da]at h;obtain⟨⟨g5,g7⟩,rfl⟩:=h;have hf:=(k _ _ _ _ _ g).frame (bo H.length) H.length (by simp) List.nodup_range (fun b a=>by simpa using a) (cS g5) (pX g3) (fun b o a=>Vn (u4 g4 o (b0 a)));have e:dv (bo H.length) H.length H H1 f={v:=f,al:=fB H,aM:=(bo H.length).zip (H1.take H.length),aS:=H1.drop H.length}:=by
  simp only[dv,zf,vy];rw[show(cX fun i=>i)=id from funext Oo,b1,b1,b1,fB]
 rw[e,zf,oM]at hf;refine⟨hf,fun p c=>tC c,fun p c=>?_⟩;have d:=bI c;refine⟨by simpa using d.1,fun j=>?_⟩;have:=u4 g7 p.2 d.2;rw[j]at this;simp[yv]at this
end Go.ak
namespace Go.ak
variable[Gl]
inductive RT where
 |lf
 |vl (v:AV)
 |nd (a b c d:RT)
inductive Q4 where|a|b|c|d
def q4(n:Nat):Q4:=match n with
 |0=>.a
 |1=>.b
 |2=>.c
 |_=>.d
def pathOf:Nat->Nat->List Q4
 |0,_=>[]
 |k+1,n=>q4 (n% 4)::pathOf k (n/4)
noncomputable def vH(p:List Q4):RT->AV:=
 cb (motive:=fun _=>RT->AV) (fun R=>RT.rec (motive:=fun _=>AV) (.p .undef) (fun v=>v) (fun _ _ _ _ _ _ _ _=>.p .undef) R)
  (fun q _ e R=>RT.rec (motive:=fun _=>AV) (.p .undef) (fun _=>.p .undef) (fun a b c d _ _ _ _=>Q4.rec (motive:=fun _=>AV) (e a) (e b) (e c) (e d) q) R) p
noncomputable def D2(v:AV)(p:List Q4):RT->RT:=
 cb (motive:=fun _=>RT->RT) (fun _=>.vl v)
  (fun q _ e R=>RT.rec (motive:=fun _=>RT)
   (Q4.rec (motive:=fun _=>RT) (.nd (e .lf) .lf .lf .lf) (.nd .lf (e .lf) .lf .lf) (.nd .lf .lf (e .lf) .lf) (.nd .lf .lf .lf (e .lf)) q)
   (fun _=>Q4.rec (motive:=fun _=>RT) (.nd (e .lf) .lf .lf .lf) (.nd .lf (e .lf) .lf .lf) (.nd .lf .lf (e .lf) .lf) (.nd .lf .lf .lf (e .lf)) q)
   (fun a b c d _ _ _ _=>Q4.rec (motive:=fun _=>RT) (.nd (e a) b c d) (.nd a (e b) c d) (.nd a b (e c) d) (.nd a b c (e d)) q) R) p
noncomputable def jP(k:Nat)(R:RT)(n:Nat):AV:=bif cc (n+1) (4^k)then vH (pathOf k n) R else .p .undef
noncomputable def wv(k:Nat)(R:RT)(n:Nat)(v:AV):RT:=D2 v (pathOf k n) R
theorem JA:∀(p:List Q4),vH p .lf=.p .undef
 |[]=>rfl
 |_::_=>rfl
theorem HQ(v:AV):∀(p:List Q4)(R:RT),vH p (D2 v p R)=v
 |[],_=>rfl
 |x::p,R=>by
  cases R<;>cases x<;>exact HQ v p _
theorem GR(v:AV):∀(p q:List Q4)(R:RT),p.length=q.length->p≠q->vH p (D2 v q R)=vH p R
 |[],[],R,_,h=>(h rfl).elim
 |[],_::_,R,h,_=>by simp at h
 |_::_,[],R,h,_=>by simp at h
 |x::p,y::q,R,h,f=>by
  have g:=fun R(f:p≠q)=>GR v p q R (by simpa using h) f;have i:=JA p;cases R with
  |nd a b c d=>
   cases x<;>cases y<;>first
    |rfl
    |exact g _ (fun e=>f (by rw[e]))
  |_=>
   cases x<;>cases y<;>first
    |exact i
    |exact(g _ (fun e=>f (by rw[e]))).trans i
theorem AP:∀k n,(pathOf k n).length=k
 |0,_=>rfl
 |k+1,n=>by simp[pathOf,AP k]
theorem aH3{m n:Nat}(a:m<4)(b:n<4)(h:q4 m=q4 n):m=n:=by
 have hc:∀n,n<4->n=0\/n=1\/n=2\/n=3:=by omega
 rcases hc m a with rfl|rfl|rfl|rfl<;>rcases hc n b with rfl|rfl|rfl|rfl<;>simp[q4]at h<;>rfl
theorem HT:∀(k m n:Nat),m<4^k->n<4^k->pathOf k m=pathOf k n->m=n
 |0,m,n,a,b,_=>by simp at a b;omega
 |k+1,m,n,a,b,h=>by
  simp only[pathOf,List.cons.injEq]at h;have c:=aH3 (c6 _ (by omega)) (c6 _ (by omega)) h.1;have d:=HT k (m/4) (n/4) (by rw[cy]at a;omega) (by rw[cy]at b;omega) h.2;omega
theorem K8(k n:Nat):jP k .lf n=.p .undef:=by
 simp[jP,JA]
theorem XR{a b:Nat}(h:a<=b):cc a b=true:=ck h
theorem LB{a b:Nat}(h:¬a<=b):cc a b=false:=by
 cases c:cc a b
 ·rfl
 ·exact(h (cS c)).elim
theorem Br(k:Nat)(R:RT)(d x:Nat)(v:AV)(h:d<4^k):jP k (wv k R d v) x=if x=d then v else jP k R x:=by
 unfold jP wv
 by_cases hx:x+1<=4^k
 ·simp only[XR hx,cond_true]
  by_cases a:x=d
  ·subst a;rw[HQ,if_pos rfl]
  ·rw[if_neg a,GR _ _ _ _ (by rw[AP,AP]) (fun e=>a (HT k x d (by omega) h e))]
 ·have:x≠d:=by omega
  simp only[LB hx,cond_false,this,if_false]
def Rel(k:Nat)(e:Env)(R:RT):Prop:=∀x,aQ e x=jP k R x
noncomputable def kC(k:Nat)(d:Option Nat)(v:AV)(R:RT):Option RT:=
 match d with
 |none=>some R
 |some d=>bif cc (d+1) (4^k)then some (wv k R d v)else none
theorem uL{k:Nat}{d:Option Nat}{v:AV}{R a:RT}{e:Env}(h:kC k d v R=some a)(b:Rel k e R):Rel k (put d v e) a:=by
 unfold kC at h
 split at h
 ·simp only[da]at h;subst h;exact b
 ·simp only[ao,c9,da]at h;obtain⟨c,rfl⟩:=h;intro x;rw[Br _ _ _ _ _ (by have:=cS c;omega)];simp only[put,aQ]
  split
  ·rfl
  ·exact b x
noncomputable def jL(k:Nat)(R:RT):ax->AV
 | .tmp t=>jP k R t
 | .const v=>.p (ofConst v)
 | .global g=>.p (Gl.g g)
 | .func f=>.p (.func f [] [])
theorem yM{k:Nat}{R:RT}{e:Env}(a:Rel k e R):jL k R=ev e:=by
 funext o;cases o<;>simp[jL,ev,a _]
def po(H:aj)(e:aW):aj:=
 match e.aM,e.aS with
 |[],[]=>H
 |_,_=>bc H e.aM++e.aS
theorem JO(H:aj)(e:aW):po H e=bc H e.aM++e.aS:=by
 unfold po;split
 ·rename_i a b;simp[a,b,bc]
 ·rfl
structure jE where
 cP:aT->List AV->aj->Option (AV×aj)
 cD:aT->List AV->aj->Option aW
 cY:Nat->aj->List AV->Option (aj×AV)
 cI:AV->Nat->aj->Option aj
 zB:Nat->List AV->aj->Option aW
structure jR(P:a0)(B:jE):Prop where
 cP:∀f args H v H',B.cP f args H=some (v,H')->∀K:AV->aj->Prop,K v H'->gO P false f args H K
 cD:∀f args H e,B.cD f args H=some e->∀K:aW->Prop,K e->gU P f args H K
 cY:∀b H args H' v,B.cY b H args=some (H',v)->fh P b H args H' v
 cI:∀it b H H',B.cI it b H=some H'->∀K:aj->Prop,K H'->ja P it b H K
 zB:∀b args H e,B.zB b args H=some e->nO P b args H.length e/\nT H e
section
variable(P:a0)(ag:aT->Bool)(B:jE)(k:Nat)
noncomputable def wo(o:Oper)(R:RT)(H:aj):Option (RT×aj):=
 match o.op with
 | .call {callee:=.value f,args,.. }=>match(match jL k R f with
  | .p (.func g fi ca)=>B.cP g (fi.map .p++args.toList.map (jL k R)++ca.map .p) H
  | .func g fi ca=>B.cP g (fi++args.toList.map (jL k R)++ca) H
  | .map b=>match B.cY b H (args.toList.map (jL k R))with
   |some (H',v)=>some (v,H')
   |none=>none
  |_=>none)with
  |some (v,H')=>match kC k o.dst v R with
   |some a=>some (a,H')
   |none=>none
  |none=>none
 |_=>match zR P ag o (jL k R) H with
  |some e=>match kC k o.dst e.v R with
   |some a=>some (a,po H e)
   |none=>none
  |none=>none
noncomputable def yK(a:Array Oper)(j:Nat)(R:RT):AV:=
 match(a[j]?).bind (·.dst)with
 |some d=>jP k R d
 |none=>.p (.aC [])
noncomputable def mO(b:Array Oper):List Oper->RT->aj->Option (RT×aj)
 |[],R,H=>some (R,H)
 |o::r,R,H=>match o.guard with
  |none=>match wo P ag B k o R H with
   |some (a,H')=>mO b r a H'
   |none=>none
  |some (j,want)=>match yK k b j R with
   | .p (.bool t)=>match t,want with
    |true,true|false,false=>match wo P ag B k o R H with
     |some (a,H')=>mO b r a H'
     |none=>none
    |_,_=>match kC k o.dst (.p (.aC [])) R with
     |some a=>mO b r a H
     |none=>none
   | .p (.aC [])=>match kC k o.dst (.p (.aC [])) R with
    |some a=>mO b r a H
    |none=>none
   |_=>none
noncomputable def vQ(o:Oper)(R:RT)(H:aj):Option aW:=
 match o.op with
 | .call {callee:=.value f,args,.. }=>match jL k R f with
  | .p (.func g fi ca)=>B.cD g (fi.map .p++args.toList.map (jL k R)++ca.map .p) H
  | .func g fi ca=>B.cD g (fi++args.toList.map (jL k R)++ca) H
  | .map b=>B.zB b (args.toList.map (jL k R)) H
  |_=>none
 |_=>zR P ag o (jL k R) H
noncomputable def mF(b:Array Oper):List Oper->Nat->List Touch->RT->aj->Option (RT×aj)
 |[],_,acc,R,H=>bif iy b acc then some (R,H)else none
 |o::r,i,acc,R,H=>match o.guard with
  |none=>match vQ P ag B k o R H with
   |some e=>match kC k o.dst e.v R with
    |some a=>mF b r (i+1) (fP i H.length e acc) a (po H e)
    |none=>none
   |none=>none
  |some (j,want)=>match yK k b j R with
   | .p (.bool t)=>match t,want with
    |true,true|false,false=>match vQ P ag B k o R H with
     |some e=>match kC k o.dst e.v R with
      |some a=>mF b r (i+1) (fP i H.length e acc) a (po H e)
      |none=>none
     |none=>none
    |_,_=>match kC k o.dst (.p (.aC [])) R with
     |some a=>mF b r (i+1) acc a H
     |none=>none
   | .p (.aC [])=>match kC k o.dst (.p (.aC [])) R with
    |some a=>mF b r (i+1) acc a H
    |none=>none
   |_=>none
abbrev Out:=Option (bu×RT×aj)
def vF(f:RT->aj->Out):Nat->RT->aj->Out
 |0,_,_=>none
 |n+1,R,H=>match f R H with
  |some (.normal,a,H')=>vF f n a H'
  |r=>r
noncomputable def tI(k:Nat)(R:RT):Nat->Env
 |0=>[]
 |n+1=>(n,jP k R n)::tI k R n
def WN:Nat:=100000
def zd(j:Option Code):Option bu:=
 match j with
 |none=>some .normal
 |some (.exit id)=>some (.exit id)
 |some .ret=>some .ret
 |_=>none
def DZ(b:Nat)(R:RT)(H:aj):Out:=
 match H[b]? with
 |some (.loop L)=>match L.st with
  | .busy=>none
  |_=>match zd L.pending with
   |some e=>some (e,R,H.set b (.loop {L with st:=.exhausted}))
   |none=>none
 |_=>none
noncomputable def gT(q:Cx):Code->RT->aj->Out
 | .skip,R,H| .label _,R,H=>some (.normal,R,H)
 | .region _ ops draw,R,H=>bif draw then match mF P ag B k ops ops.toList 0 [] R H with
   |some (d,H')=>some (.normal,d,H')
   |none=>none
  else match mO P ag B k ops ops.toList R H with
   |some (d,H')=>some (.normal,d,H')
   |none=>none
 | .seq a b,R,H=>match gT q a R H with
  |some (.normal,d,H')=>gT q b d H'
  |r=>r
 | .cond c a b,R,H=>match jL k R c with
  | .p (.bool t)=>match t with
   |true=>gT q a R H
   |false=>gT q b R H
  |_=>none
 | .block id b,R,H=>match gT q b R H with
  |some (.exit i,d,H')=>bif ce i id then some (.normal,d,H')else some (.exit i,d,H')
  |r=>r
 | .scope b,R,H=>gT q b R H
 | .loop b,R,H=>vF (fun R H=>gT q b R H) WN R H
 | .rangeFunc f e a b,R,H=>bif cc q.2 H.length&&cc q.1 (4^k)then match B.cI (jL k R f) H.length (H++[.loop ⟨.ready,none,q.1,e.toList,a,b,tI k R (4^k)⟩])with
   |some H'=>DZ H.length R H'
   |none=>none
  else none
 | .exit id,R,H=>some (.exit id,R,H)
 | .ret,R,H=>some (.ret,R,H)
 |_,_,_=>none
end
section
variable{P:a0}{ag:aT->Bool}{B:jE}{k:Nat}
theorem I0(e:aW)(dst:Option Tmp)(env:Env)(H:aj):e.app dst ⟨env,H⟩=⟨put dst e.v env,po H e⟩:=by
 simp[aW.app,JO]
theorem aHk(b:jR P B){o:Oper}{R i:RT}{H H':aj}{env:Env}(h:wo P ag B k o R H=some (i,H'))(g:Rel k env R):
 ∃j,Rel k j i/\∀K:St->Prop,K ⟨j,H'⟩->jw P ag false o K ⟨env,H⟩:=by
 unfold wo at h;unfold jw;rw[yM g]at h
 split at h
 ·rename_i f args n c
  split at h
  case h_2=>simp at h
  rename_i v l hc
  split at h
  case h_2=>simp at h
  rename_i m d;simp only[da,db]at h;obtain⟨rfl,rfl⟩:=h;refine⟨_,uL d g,fun K a=>?_⟩;simp only[c]
  split at hc
  ·rename_i hf;simp only[hf];exact b.cP _ _ _ _ _ hc _ a
  ·rename_i hf;simp only[hf];exact b.cP _ _ _ _ _ hc _ a
  ·rename_i hf
   split at hc
   ·rename_i l s r;simp only[da,db]at hc;obtain⟨rfl,rfl⟩:=hc;simp only[hf];exact⟨_,_,b.cY _ _ _ _ _ r,a⟩
   ·simp at hc
  ·simp at hc
 ·rename_i q
  split at h
  case h_2=>simp at h
  rename_i e p
  split at h
  case h_2=>simp at h
  rename_i m d;simp only[da,db]at h;obtain⟨rfl,rfl⟩:=h;refine⟨_,uL d g,fun K a=>?_⟩
  split
  ·rename_i f args n c;exact(q _ _ _ c).elim
  ·exact MT p (by rw[I0];exact a)
theorem I1{a:Array Oper}{j:Nat}{R:RT}{env:Env}(b:Rel k env R):yK k a j R=guardOf a j env:=by
 unfold yK guardOf;split
 ·rename_i h;simp only[h];exact(b _).symm
 ·rename_i h;simp only[h]
theorem CB(f:jR P B){c:Array Oper}:∀{l:List Oper}{R a:RT}{H H':aj}{env:Env},mO P ag B k c l R H=some (a,H')->Rel k env R->
 ∃b,Rel k b a/\∀K:St->Prop,K ⟨b,H'⟩->gP P ag false c l K ⟨env,H⟩
 |[],R,a,H,H',env,h,d=>by
  simp only[mO,da,db]at h;obtain⟨rfl,rfl⟩:=h;exact⟨env,d,fun K g=>g⟩
 |o::l,R,a,H,H',env,h,d=>by
  have run:(match wo P ag B k o R H with
    |some (a,H')=>mO P ag B k c l a H'
    |none=>none)=some (a,H')->∃b,Rel k b a/\∀K:St->Prop,K ⟨b,H'⟩->jw P ag false o (gP P ag false c l K) ⟨env,H⟩:=by
   intro h
   split at h
   case h_2=>simp at h
   rename_i n H1 e;obtain⟨w,q,a2⟩:=aHk f e d;obtain⟨u,r,s⟩:=CB f h q;exact⟨u,r,fun K g=>a2 _ (s K g)⟩
  have skip:(match kC k o.dst (.p (.aC [])) R with
    |some a=>mO P ag B k c l a H
    |none=>none)=some (a,H')->∃b,Rel k b a/\∀K:St->Prop,K ⟨b,H'⟩->gP P ag false c l K ⟨put o.dst (.p (.aC [])) env,H⟩:=by
   intro h
   split at h
   case h_2=>simp at h
   rename_i n e;exact CB f h (uL e d)
  simp only[mO]at h;simp only[gP]
  split at h
  ·rename_i i;simp only[i];exact run h
  ·rename_i j v i;simp only[i];rw[I1 d]at h
   split at h
   ·rename_i t m;simp only[m];cases t<;>cases v
    ·simpa using run h
    ·simpa using skip h
    ·simpa using skip h
    ·simpa using run h
   ·rename_i m;simp only[m];exact skip h
   ·simp at h
theorem ZF(b:jR P B){o:Oper}{R:RT}{H:aj}{e:aW}{env:Env}(h:vQ P ag B k o R H=some e)(l:Rel k env R)(K:aW->Prop)(a:K e):jg P ag o ⟨env,H⟩ K:=by
 unfold vQ at h;unfold jg;rw[yM l]at h
 split at h
 ·rename_i f args d c;simp only[c]
  split at h
  ·rename_i hf;simp only[hf];exact b.cD _ _ _ _ h _ a
  ·rename_i hf;simp only[hf];exact b.cD _ _ _ _ h _ a
  ·rename_i hf;simp only[hf];obtain⟨g,i⟩:=b.zB _ _ _ _ h;exact⟨e,g,i,a⟩
  ·simp at h
 ·rename_i j
  split
  ·rename_i f args d c;exact(j _ _ _ c).elim
  ·exact MT h a
theorem B5(m:jR P B){f:Array Oper}:∀{l:List Oper}{i:Nat}{b:List Touch}{R a:RT}{H H':aj}{env:Env},mF P ag B k f l i b R H=some (a,H')->Rel k env R->
 ∃c,Rel k c a/\∀K:St->Prop,K ⟨c,H'⟩->fW P ag f l i b K ⟨env,H⟩
 |[],i,b,R,a,H,H',env,h,d=>by
  simp only[mF,ao,c9,da,db]at h;obtain⟨g,rfl,rfl⟩:=h;exact⟨env,d,fun K n=>⟨g,n⟩⟩
 |o::l,i,b,R,a,H,H',env,h,d=>by
  have run:(match vQ P ag B k o R H with
    |some e=>match kC k o.dst e.v R with
     |some a=>mF P ag B k f l (i+1) (fP i H.length e b) a (po H e)
     |none=>none
    |none=>none)=some (a,H')->∃c,Rel k c a/\∀K:St->Prop,K ⟨c,H'⟩->jg P ag o ⟨env,H⟩ (fun e=>fW P ag f l (i+1) (fP i H.length e b) K (e.app o.dst ⟨env,H⟩)):=by
   intro h
   split at h
   case h_2=>simp at h
   rename_i e y
   split at h
   case h_2=>simp at h
   rename_i s g;obtain⟨x,u,w⟩:=B5 m h (uL g d);exact⟨x,u,fun K n=>ZF m y d _ (by rw[I0];exact w K n)⟩
  have skip:(match kC k o.dst (.p (.aC [])) R with
    |some a=>mF P ag B k f l (i+1) b a H
    |none=>none)=some (a,H')->∃c,Rel k c a/\∀K:St->Prop,K ⟨c,H'⟩->fW P ag f l (i+1) b K ⟨put o.dst (.p (.aC [])) env,H⟩:=by
   intro h
   split at h
   case h_2=>simp at h
   rename_i s g;exact B5 m h (uL g d)
  simp only[mF]at h;simp only[fW]
  split at h
  ·rename_i q;simp only[q];exact run h
  ·rename_i j z q;simp only[q];rw[I1 d]at h
   split at h
   ·rename_i t r;simp only[r];cases t<;>cases z
    ·simpa using run h
    ·simpa using skip h
    ·simpa using skip h
    ·simpa using run h
   ·rename_i r;simp only[r];exact skip h
   ·simp at h
theorem JV(R:RT):∀(n:Nat),∀x,aQ (tI k R n) x=if x<n then jP k R x else .p .undef
 |0,x=>by simp[tI,aQ]
 |n+1,x=>by
  simp only[tI,aQ,JV R n]
  by_cases h:x=n
  ·subst h;simp
  ·simp only[h,if_false]
   by_cases a:x<n
   ·simp[a,Nat.lt_succ_of_lt a]
   ·have:¬x<n+1:=by omega
    simp[a,this]
theorem W3(k:Nat)(R:RT)(n:Nat)(h:4^k<=n):jP k R n=.p .undef:=by
 unfold jP;rw[LB (by omega)];rfl
theorem ZK{R:RT}{env:Env}(a:Rel k env R):∀x,aQ (tI k R (4^k)) x=aQ env x:=by
 intro x;rw[JV,a]
 split
 ·rfl
 ·rw[W3 k R x (by omega)]
theorem WV{j:Option Code}{e:bu}(h:zd j=some e)(Q:bu->St->Prop)(s:St)(hq:Q e s):je Q j s:=by
 unfold zd at h;unfold je
 split at h<;>simp at h<;>subst h<;>exact hq
theorem Xi{b:Nat}{R a:RT}{H H':aj}{e:bu}{env:Env}(h:DZ b R H=some (e,a,H')):a=R/\∀Q:bu->St->Prop,Q e ⟨env,H'⟩->il b env Q H:=by
 unfold DZ at h
 split at h
 case h_2=>simp at h
 rename_i L c
 have go:(match zd L.pending with
   |some e=>some (e,R,H.set b (.loop {L with st:=.exhausted}))
   |none=>none)=some (e,a,H')->L.st≠.busy->a=R/\∀Q:bu->St->Prop,Q e ⟨env,H'⟩->il b env Q H:=by
  intro h aN
  split at h
  case h_2=>simp at h
  rename_i e' d;simp only[da,db]at h;obtain⟨rfl,rfl,rfl⟩:=h;exact⟨rfl,fun Q hq=>by unfold il;simp only[c];exact⟨aN,WV d Q _ hq⟩⟩
 split at h
 ·simp at h
 ·rename_i aN;exact go h aN
theorem Vf{q:Cx}{b:Code}{Q:bu->St->Prop}{s s':St}(f:∀c:bu->St->Prop,c .normal s'->cd P ag q b c s)(d:cd P ag q (.loop b) Q s'):cd P ag q (.loop b) Q s:=by
 simp only[cd]at d⊢;obtain⟨I,⟨a,t0,hf,hI⟩,g⟩:=d;refine⟨fun n t=>I n t\/(n=a+1/\t=s),⟨a+1,s,.inl rfl,.inr ⟨rfl,rfl⟩⟩,?_⟩;rintro n t (h|⟨rfl,rfl⟩)
 ·obtain⟨e,u,k1,k2⟩:=mZ b t _ (g n t h);refine k2 _ ?_;cases e with
  |normal=>
   obtain⟨m,i,g1,g2,g3⟩:=k1;exact⟨m,i,g1,g2,.inl g3⟩
  |exit id=>exact k1
  |ret=>exact k1
 ·exact f _ ⟨a,t0,Nat.lt_succ_self _,hf,.inl hI⟩
theorem Ve{q:Cx}{b:Code}{Q:bu->St->Prop}{s s':St}{e:bu}(f:e≠.normal)(d:∀a:bu->St->Prop,a e s'->cd P ag q b a s)(c:Q e s'):cd P ag q (.loop b) Q s:=by
 simp only[cd];refine⟨fun n t=>n=0/\t=s,⟨0,s,.inl rfl,rfl,rfl⟩,?_⟩;rintro n t ⟨rfl,rfl⟩;refine d _ ?_;cases e with
 |normal=>exact(f rfl).elim
 |exit id=>exact c
 |ret=>exact c
theorem Kg{q:Cx}{b:Code}{f:RT->aj->Out}(hf:∀{R a:RT}{H H':aj}{e:bu}{env:Env},f R H=some (e,a,H')->Rel k env R->∃c,Rel k c a/\∀Q:bu->St->Prop,Q e ⟨c,H'⟩->cd P ag q b Q ⟨env,H⟩):
 ∀(n:Nat){R a:RT}{H H':aj}{e:bu}{env:Env},vF f n R H=some (e,a,H')->Rel k env R->∃c,Rel k c a/\∀Q:bu->St->Prop,Q e ⟨c,H'⟩->cd P ag q (.loop b) Q ⟨env,H⟩
 |0,R,a,H,H',e,env,h,g=>by simp[vF]at h
 |n+1,R,a,H,H',e,env,h,g=>by
  simp only[vF]at h
  split at h
  ·rename_i r H1 o;obtain⟨i,d,a2⟩:=hf o g;obtain⟨m,j,l⟩:=Kg hf n h d;exact⟨m,j,fun Q hq=>Vf a2 (l Q hq)⟩
  ·rename_i p;obtain⟨i,d,a2⟩:=hf h g;refine⟨i,d,fun Q hq=>Ve ?_ a2 hq⟩;rintro rfl;exact p _ _ h
theorem kM(m:jR P B){q:Cx}:∀{c:Code}{R l:RT}{H H':aj}{e:bu}{env:Env},gT P ag B k q c R H=some (e,l,H')->Rel k env R->
 ∃r,Rel k r l/\∀Q:bu->St->Prop,Q e ⟨r,H'⟩->cd P ag q c Q ⟨env,H⟩
 | .skip,R,l,H,H',e,env,h,d| .label _,R,l,H,H',e,env,h,d| .exit _,R,l,H,H',e,env,h,d| .ret,R,l,H,H',e,env,h,d=>by
  simp only[gT,da,db]at h;obtain⟨rfl,rfl,rfl⟩:=h;exact⟨env,d,fun Q hq=>hq⟩
 | .region id ops draw,R,l,H,H',e,env,h,d=>by
  simp only[gT]at h;cases draw
  ·simp only[cond_false]at h
   split at h
   case h_2=>simp at h
   rename_i o H1 n;simp only[da,db]at h;obtain⟨rfl,rfl,rfl⟩:=h;obtain⟨j,g,a2⟩:=CB m n d;exact⟨j,g,fun Q hq=>by simp only[cd];exact a2 _ hq⟩
  ·simp only[cond_true]at h
   split at h
   case h_2=>simp at h
   rename_i o H1 n;simp only[da,db]at h;obtain⟨rfl,rfl,rfl⟩:=h;obtain⟨j,g,a2⟩:=B5 m n d;exact⟨j,g,fun Q hq=>by simp only[cd,if_true];exact a2 _ hq⟩
 | .seq a b,R,l,H,H',e,env,h,d=>by
  simp only[gT]at h
  split at h
  ·rename_i o H1 n;obtain⟨j,g,a2⟩:=kM m n d;obtain⟨w,u,v⟩:=kM m h g;exact⟨w,u,fun Q hq=>by simp only[cd];exact a2 _ (v Q hq)⟩
  ·rename_i p;obtain⟨j,g,a2⟩:=kM m h d;refine⟨j,g,fun Q hq=>by
    simp only[cd];refine a2 _ ?_;cases e with
    |normal=>exact(p _ _ h).elim
    |exit id=>exact hq
    |ret=>exact hq⟩
 | .cond c a b,R,l,H,H',e,env,h,d=>by
  simp only[gT,yM d]at h
  split at h
  case h_2=>simp at h
  rename_i t s;cases t
  ·obtain⟨j,g,a2⟩:=kM m h d;exact⟨j,g,fun Q hq=>by simp only[cd,s];exact a2 Q hq⟩
  ·obtain⟨j,g,a2⟩:=kM m h d;exact⟨j,g,fun Q hq=>by simp only[cd,s,if_true];exact a2 Q hq⟩
 | .block id b,R,l,H,H',e,env,h,d=>by
  simp only[gT]at h
  split at h
  ·rename_i i o H1 n;obtain⟨j,g,a2⟩:=kM m n d;cases hi:ce i id
   ·simp only[hi,cond_false,da,db]at h;obtain⟨rfl,rfl,rfl⟩:=h;refine⟨j,g,fun Q hq=>by
     simp only[cd];refine a2 _ ?_;have:i≠id:=fun e=>by subst e;simp[cx]at hi
     simp only[this,if_false];exact hq⟩
   ·simp only[hi,cond_true,da,db]at h;obtain⟨rfl,rfl,rfl⟩:=h;refine⟨j,g,fun Q hq=>by
     simp only[cd];refine a2 _ ?_;simp only[dt hi,if_true];exact hq⟩
  ·rename_i p;obtain⟨j,g,a2⟩:=kM m h d;refine⟨j,g,fun Q hq=>by
    simp only[cd];refine a2 _ ?_;cases e with
    |normal=>exact hq
    |exit id=>exact(p _ _ _ h).elim
    |ret=>exact hq⟩
 | .scope b,R,l,H,H',e,env,h,d=>by
  simp only[gT]at h;obtain⟨j,g,a2⟩:=kM m h d;exact⟨j,g,fun Q hq=>by simp only[cd];exact a2 Q hq⟩
 | .loop b,R,l,H,H',e,env,h,d=>by
  simp only[gT]at h;exact Kg (fun h d=>kM m h d) _ h d
 | .rangeFunc f z a b,R,l,H,H',e,env,h,d=>by
  simp only[gT,ao,c9,ap]at h;obtain⟨⟨n,y⟩,h⟩:=h
  split at h
  case h_2=>simp at h
  rename_i H1 hI;obtain⟨rfl,x⟩:=Xi (env:=env) h;refine⟨env,d,fun Q hq=>?_⟩;simp only[cd];rw[yM d]at hI;exact⟨cS n,_,ZK d,m.cI _ _ _ _ hI _ (x Q hq)⟩
 | .goto _,_,_,_,_,_,_,h,_=>by simp[gT]at h
 | .refuse _,_,_,_,_,_,_,h,_=>by simp[gT]at h
end
def rF(n:Nat):Nat:=
 match cc n 16,cc n 64,cc n 256,cc n 1024 with
 |true,_,_,_=>2
 |_,true,_,_=>3
 |_,_,true,_=>4
 |_,_,_,true=>5
 |_,_,_,_=>6
noncomputable def vC(k:Nat):Nat->List AV->RT
 |_,[]=>.lf
 |i,v::r=>wv k (vC k (i+1) r) i v
theorem Ks(k:Nat):∀(l:List AV)(i:Nat),i+l.length<=4^k->Rel k (iG i l) (vC k i l)
 |[],i,_=>fun x=>by simp[iG,vC,aQ,K8]
 |v::r,i,h=>fun x=>by
  simp only[List.length_cons]at h;rw[vC,Br _ _ _ _ _ (by omega)];simp only[iG,aQ]
  split
  ·rfl
  ·exact Ks k r (i+1) (by omega) x
noncomputable def vR(k:Nat):Env->Option RT
 |[]=>some .lf
 |(x,v)::r=>match vR k r with
  |some R=>bif cc (x+1) (4^k)then some (wv k R x v)else none
  |none=>none
theorem JU(k:Nat):∀{e:Env}{R:RT},vR k e=some R->Rel k e R
 |[],R,h=>by
  simp only[vR,da]at h;subst h;intro x;simp[aQ,K8]
 |(y,v)::r,R,h=>by
  simp only[vR]at h
  split at h
  case h_2=>simp at h
  rename_i c a;simp only[ao,c9,da]at h;obtain⟨b,rfl⟩:=h;intro x;rw[Br _ _ _ _ _ (by have:=cS b;omega)];simp only[aQ]
  split
  ·rfl
  ·exact JU k a x
noncomputable def zX(P:a0)(k:Nat)(R:RT)(H:aj):List a1->Option (List AV)
 |[]=>some []
 |r::rs=>match(match r with
  | .tmp t=>some (jP k R t)
  | .cell a T=>match jP k R a with
   | .ptr b path=>match H[b]? with
    |some (.box _ t)=>match eK t path with
     |some v=>bif sE (kindOf P T) (aa v)then some v else none
     |none=>none
    |_=>none
   |_=>none),zX P k R H rs with
  |some v,some vs=>some (v::vs)
  |_,_=>none
theorem K9{P:a0}{k:Nat}{R:RT}{H:aj}{env:Env}(d:Rel k env R):∀{e:List a1}{vs:List AV},zX P k R H e=some vs->fC P ⟨env,H⟩ e=some vs
 |[],vs,h=>h
 |r::e,vs,h=>by
  simp only[zX]at h
  split at h
  case h_2=>simp at h
  rename_i v o c f;simp only[da]at h;subst h;have g:o6 P ⟨env,H⟩ r=some v:=by
   cases r with
   |tmp t=>simp only[o6];rw[d];exact c
   |cell a T=>
    simp only[o6];dsimp only at c;rw[<-d]at c
    split at c
    case h_2=>simp at c
    rename_i b n j
    split at c
    case h_2=>simp at c
    rename_i fz t l
    split at c
    case h_2=>simp at c
    rename_i u m;simp only[ao,c9,da]at c;obtain⟨i,rfl⟩:=c;rw[j];simp only[l,m,(iH i).1,if_true]
  simp only[fC,g,K9 d f]
section
variable(P:a0)(ag:aT->Bool)
noncomputable def zj(B:jE)(fn:Func)(args:List AV)(N:Nat)(H:aj):Option (AV×aj):=
 bif cc args.length fn.ntmps&&cc fn.ntmps (4^rF fn.ntmps)then
  match gT P ag B (rF fn.ntmps) (fn.ntmps,N) (fn.body.getD .skip) (vC (rF fn.ntmps) 0 args) H with
  |some (.exit _,_,_)=>none
  |some (_,R,H')=>match zX P (rF fn.ntmps) R H' fn.results.toList with
   |some vs=>some (oneOf vs,H')
   |none=>none
  |none=>none
 else none
structure mR where
 jQ:aT->Option Func
 zJ:aT->List PV->Option PV
 zK:aT->List AV->aj->Option (AV×aj)
 lh:aT->aT->Nat
 tK:aT->List AV->aj->Option (List (Nat×Obj)×PV)
noncomputable def pI(pl:mR)(B:aT->jE)(f:aT)(vs:List PV):Option PV:=
 match pl.zJ f vs with
 |some v=>some v
 |none=>match pl.jQ f with
  |some fn=>match zj P ag (B f) fn (vs.map .p) 0 []with
   |some (v,H)=>et H 9 v
   |none=>none
  |none=>none
noncomputable def n9(pl:mR)(B:aT->jE)(f:aT)(args:List AV)(H:aj):Option (AV×aj):=
 match pl.zK f args H with
 |some r=>some r
 |none=>match pl.jQ f with
  |some fn=>zj P ag (B f) fn args H.length H
  |none=>none
noncomputable def yH(B:jE)(b:Nat)(H:aj)(args:List AV):Option (aj×AV):=
 match H[b]? with
 |some (.loop L)=>bif ce args.length L.params.length&&(L.params.all (fun x=>decide (x<L.n))&&codeOk fit L.n L.assign&&codeOk fit L.n L.body)then
  match vR (rF L.n) (qG L.params args L.env)with
  |some R=>match gT P ag B (rF L.n) (L.n,H.length) L.assign R H with
   |some (.normal,f,H1)=>match H1[b]? with
    |some (.loop c)=>match c.st with
     | .ready=>match gT P ag B (rF L.n) (L.n,H.length) L.body f (H1.set b (.loop {c with st:=.busy}))with
      |some (e,_,a)=>match a[b]? with
       |some (.loop d)=>some (a.set b (.loop {d with st:=if(gN e).isNone then .ready else .done,pending:=gN e}),.p (.bool (gN e).isNone))
       |_=>none
      |none=>none
     |_=>none
    |_=>none
   |_=>none
  |none=>none
  else none
 |_=>none
noncomputable def DL(pl:mR)(B:aT->jE)(it:AV)(b:Nat)(H:aj):Option aj:=
 match it with
 | .p (.func g fi ca)=>match n9 P ag pl B g (fi.map .p++[.map b]++ca.map .p) H with
  |some (_,H')=>some H'
  |none=>none
 | .func g fi ca=>match n9 P ag pl B g (fi++[.map b]++ca) H with
  |some (_,H')=>some H'
  |none=>none
 |_=>none
noncomputable def Dx(pl:mR)(B:aT->jE)(c f:aT)(args:List AV)(H:aj):Option (AV×aj):=
 match pl.tK f args H with
 |some (_,v)=>some (.p v,H)
 |none=>match pl.lh c f with
 |0=>match eE args with
  |some vs=>match pI P ag pl B f vs with
   |some v=>some (.p v,H)
   |none=>none
  |none=>n9 P ag pl B f args H
 |1=>n9 P ag pl B f args H
 |3=>match vx (n9 P ag pl B f) args H with
  |some e=>some (e.v,po H e)
  |none=>none
 |_=>match mP H args with
  |some (vs,H1)=>match pI P ag pl B f vs with
   |some v=>some (.p v,H1)
   |none=>none
  |none=>none
noncomputable def Dw(pl:mR)(B:aT->jE)(c f:aT)(args:List AV)(H:aj):Option aW:=
 match pl.tK f args H with
 |some (al,v)=>some {v:=.p v,al}
 |none=>match pl.lh c f with
 |3=>vx (n9 P ag pl B f) args H
 |_=>match eE args with
 |some vs=>match pI P ag pl B f vs with
  |some v=>some {v:=.p v}
  |none=>none
 |none=>match nN H args with
  |some (vs,bs)=>match kP H bs with
   |some (al,aM)=>match pI P ag pl B f vs with
    |some v=>some {v:=.p v,al,aM}
    |none=>none
   |none=>none
  |none=>vx (n9 P ag pl B f) args H
def sN:jE:=⟨fun _ _ _=>none,fun _ _ _=>none,fun _ _ _=>none,fun _ _ _=>none,fun _ _ _=>none⟩
noncomputable def ka(pl:mR):Nat->aT->jE
 |0,_=>sN
 |n+1,c=>⟨Dx P ag pl (ka pl n) c,Dw P ag pl (ka pl n) c,yH P ag (ka pl n c),DL P ag pl (ka pl n),Cv (yH P ag (ka pl n c))⟩
end
structure nI(P:a0)(pl:mR):Prop where
 mix:P.follows .mixedOrders=true
 jQ:∀f fn,pl.jQ f=some fn->aq P f fn
 zJ:∀f vs v,pl.zJ f vs=some v->au P f vs v
 zK:∀f args H v H',pl.zK f args H=some (v,H')->cE P f H args H' v
 tK:∀f args H al v,pl.tK f args H=some (al,v)->Di P f args al v/\∀p∈al,H[p.1]?=some p.2
section
variable{P:a0}{ag:aT->Bool}{B1:jE}{B:aT->jE}{pl:mR}
theorem JL(f:jR P B1){fn:Func}{args:List AV}{N:Nat}{H H':aj}{v:AV}(h:zj P ag B1 fn args N H=some (v,H')):
 args.length<=fn.ntmps/\∃e a vs,(match e with
  |bu.exit _=>False
  |_=>True)/\fC P ⟨a,H'⟩ fn.results.toList=some vs/\oneOf vs=v/\∀Q:bu->St->Prop,Q e ⟨a,H'⟩->cd P ag (fn.ntmps,N) (fn.body.getD .skip) Q ⟨iG 0 args,H⟩:=by
 unfold zj at h;simp only[ao,c9,ap]at h;obtain⟨⟨b,c⟩,h⟩:=h;have b:=cS b;have c:=cS c;refine⟨b,?_⟩
 split at h
 ·simp at h
 ·rename_i e R k g hc
  split at h
  case h_2=>simp at h
  rename_i vs j;simp only[da,db]at h;obtain⟨rfl,rfl⟩:=h;obtain⟨a,d,a2⟩:=kM f hc (Ks _ args 0 (by omega));refine⟨e,a,vs,?_,K9 d j,rfl,a2⟩;cases e with
  |exit i=>exact g i rfl
  |_=>trivial
 ·simp at h
theorem uR(a:nI P pl)(j:∀c,jR P (B c)){f:aT}{vs:List PV}{v:PV}(h:pI P ag pl B f vs=some v):au P f vs v:=by
 unfold pI at h
 split at h
 ·rename_i v' hk;simp only[da]at h;subst h;exact a.zJ _ _ _ hk
 ·split at h
  case h_2=>simp at h
  rename_i fn hf
  split at h
  case h_2=>simp at h
  rename_i v' H' k;obtain⟨b,e,m,l,d,g,rfl,i⟩:=JL (j _) k;exact zI ag (a.jQ _ _ hf) a.mix (by simpa using b) (i _ ⟨d,l,g,h⟩)
theorem qq(a:nI P pl)(j:∀c,jR P (B c)){f:aT}{args:List AV}{H H':aj}{v:AV}(h:n9 P ag pl B f args H=some (v,H')):cE P f H args H' v:=by
 unfold n9 at h
 split at h
 ·rename_i r hk;simp only[da]at h;subst h;exact a.zK _ _ _ _ _ hk
 ·split at h
  case h_2=>simp at h
  rename_i fn hf;obtain⟨b,e,l,k,d,g,rfl,i⟩:=JL (j _) h;exact O3 ag (a.jQ _ _ hf) a.mix b (i _ ⟨d,k,g,rfl,.inl rfl⟩)
theorem IX{args:List AV}{vs:List PV}(h:eE args=some vs):args=vs.map .p:=lK h
theorem XJ(b:nI P pl)(d:∀c,jR P (B c)){c f:aT}{args:List AV}{H H':aj}{v:AV}(h:Dx P ag pl B c f args H=some (v,H'))(K:AV->aj->Prop)(a:K v H'):gO P false f args H K:=by
 unfold Dx at h
 split at h
 ·rename_i al v' hx;simp only[da,db]at h;obtain⟨rfl,rfl⟩:=h;obtain⟨i,j⟩:=b.tK _ _ _ _ _ hx;exact .inr ⟨rfl,.inr (.inr (.inr ⟨al,v',i,j,a⟩))⟩
 split at h
 ·split at h
  ·rename_i vs m
   split at h
   case h_2=>simp at h
   rename_i v' g;simp only[da,db]at h;obtain⟨rfl,rfl⟩:=h;exact .inl ⟨vs,v',IX m,uR b d g,a⟩
  ·exact .inr ⟨rfl,.inr (.inl ⟨H',v,qq b d h,a⟩)⟩
 ·exact .inr ⟨rfl,.inr (.inl ⟨H',v,qq b d h,a⟩)⟩
 ·split at h
  case h_2=>simp at h
  rename_i e k;simp only[da,db]at h;obtain⟨rfl,rfl⟩:=h;obtain⟨i,j⟩:=BI (fun args H v H' g=>qq b d g) k;exact .inr ⟨rfl,.inr (.inr (.inl ⟨e,i,j,by rw[<-JO];exact a⟩))⟩
 ·split at h
  case h_2=>simp at h
  rename_i vs H1 l
  split at h
  case h_2=>simp at h
  rename_i v' g;simp only[da,db]at h;obtain⟨rfl,rfl⟩:=h;exact .inr ⟨rfl,.inl ⟨vs,H1,v',l,uR b d g,a⟩⟩
theorem XK(i:nI P pl)(j:∀c,jR P (B c)){c f:aT}{args:List AV}{H:aj}{e:aW}(h:Dw P ag pl B c f args H=some e)(K:aW->Prop)(g:K e):gU P f args H K:=by
 unfold Dw at h
 split at h
 ·rename_i al v' hx;simp only[da]at h;subst h;obtain⟨b,d⟩:=i.tK _ _ _ _ _ hx;exact .inr (.inr (.inr ⟨al,v',b,d,g⟩))
 split at h
 ·obtain⟨b,d⟩:=BI (fun args H v H' a=>qq i j a) h;exact .inr (.inr (.inl ⟨e,b,d,g⟩))
 split at h
 ·rename_i vs m
  split at h
  case h_2=>simp at h
  rename_i v' a;simp only[da]at h;subst h;exact .inl ⟨vs,v',IX m,uR i j a,g⟩
 ·split at h
  case h_2=>
   obtain⟨b,d⟩:=BI (fun args H v H' a=>qq i j a) h;exact .inr (.inr (.inl ⟨e,b,d,g⟩))
  rename_i vs bs l
  split at h
  case h_2=>simp at h
  rename_i al aM k
  split at h
  case h_2=>simp at h
  rename_i v' a;simp only[da]at h;subst h;exact .inr (.inl ⟨vs,bs,al,aM,v',l,k,uR i j a,g⟩)
theorem IC(o:nI P pl)(a:jR P B1){b:Nat}{H H':aj}{args:List AV}{v:AV}(h:yH P ag B1 b H args=some (H',v)):fh P b H args H' v:=by
 unfold yH at h
 split at h
 case h_2=>simp at h
 rename_i L i;simp only[ao,c9,ap]at h;obtain⟨⟨f,g⟩,h⟩:=h
 split at h
 case h_2=>simp at h
 rename_i R l
 split at h
 case h_2=>simp at h
 rename_i s H1 m
 split at h
 case h_2=>simp at h
 rename_i q j
 split at h
 case h_2=>simp at h
 rename_i aN
 split at h
 case h_2=>simp at h
 rename_i e t p n
 split at h
 case h_2=>simp at h
 rename_i r k;simp only[da,db]at h;obtain⟨rfl,rfl⟩:=h;obtain⟨w,c,a2⟩:=kM a m (JU _ l);obtain⟨x,u,d⟩:=kM a n c;refine O4 ag o.mix i (dt f) (by simpa only[ap]using g) ?_;unfold yf;refine a2 _ ?_;simp only[xn,j];refine⟨aN,d _ ?_⟩;simp only[sy,k];exact⟨trivial,.inl rfl⟩
theorem WW(g:nI P pl)(e:∀c,jR P (B c)){it:AV}{b:Nat}{H H':aj}(h:DL P ag pl B it b H=some H')(K:aj->Prop)(f:K H'):ja P it b H K:=by
 unfold DL at h
 split at h
 ·split at h
  case h_2=>simp at h
  rename_i v a d;simp only[da]at h;subst h;exact⟨a,v,qq g e d,f⟩
 ·split at h
  case h_2=>simp at h
  rename_i v a d;simp only[da]at h;subst h;exact⟨a,v,qq g e d,f⟩
 ·simp at h
theorem su(a:nI P pl):∀n c,jR P (ka P ag pl n c)
 |0,_=>⟨fun _ _ _ _ _ h=>by simp[ka,sN]at h,fun _ _ _ _ h=>by simp[ka,sN]at h,fun _ _ _ _ _ h=>by simp[ka,sN]at h,fun _ _ _ _ h=>by simp[ka,sN]at h,fun _ _ _ _ h=>by simp[ka,sN]at h⟩
 |n+1,c=>⟨fun _ _ _ _ _ h=>XJ a (su a n) h,fun _ _ _ _ h=>XK a (su a n) h,fun _ _ _ _ _ h=>IC a (su a n c) h,fun _ _ _ _ h=>WW a (su a n) h,fun _ _ _ _ h=>Ut (fun _ _ _ _ _ b=>IC a (su a n c) b) h⟩
theorem reckon{f:aT}{vs:List PV}{v:PV}(n:Nat)(a:nI P pl)(h:pI P ag pl (ka P ag pl n) f vs=some v):au P f vs v:=uR a (su a n) h
end
section
variable{P:a0}{ag:aT->Bool}
theorem au.cZ{f:aT}{args d:List PV}{v v':PV}(h:au P f args v)(g:bC d args)(i:Wk v v'):au P f d v':=by
 rcases h with h|h
 ·refine .inl ⟨h.1,fun w ad a j k c=>(h.2 w ad a j k (bJ.cZ _ _ _ g c)).mono ?_⟩;rintro e w' ⟨b,aF,k1,k2,k3,k4,k5,k6,l,k7⟩;exact⟨b,aF,k1,k2,k3,k4,k5,k6,l,aD.cZ _ _ _ i k7⟩
 ·refine .inr fun w ad a c=>?_;obtain⟨b,k1,k2⟩:=h w ad a (bJ.cZ _ _ _ g c);exact⟨b,k1,aD.cZ _ _ _ i k2⟩
def zn(P:a0)(a:List a1)(v:PV)(e:bu)(s:St):Prop:=
 (match e with
  | .exit _=>False
  |_=>True)/\∃vs,fC P s a=some vs/\∃v',et s.heap 9 (oneOf vs)=some v'/\Wk v' v
theorem VC{a:List a1}{v:PV}{s:St}:zn P a v .ret s=∃vs,fC P s a=some vs/\∃v',et s.heap 9 (oneOf vs)=some v'/\Wk v' v:=by simp[zn]
theorem Tm{a:List a1}{v:PV}{s:St}:zn P a v .normal s=∃vs,fC P s a=some vs/\∃v',et s.heap 9 (oneOf vs)=some v'/\Wk v' v:=by simp[zn]
theorem rp.cZ{f:aT}{args a:List PV}{v v':PV}(h:rp P f args v)(j:bC a args)(k:Wk v v'):rp P f a v':=by
 refine⟨h.1,fun w ad b d g i=>(h.2 w ad b d g (bJ.cZ _ _ _ j i)).mono ?_⟩;rintro e w' ⟨c,aF,k1,k2,k3,k4,k5,k6,l,k7⟩;exact⟨c,aF,k1,k2,k3,k4,k5,k6,l,aD.cZ _ _ _ k k7⟩
theorem HV{dst:Option Tmp}{h:Nat}{pos:String}{af:Array Edge}{g:Option (Nat×Bool)}{env:Env}{heap:aj}{L:St->Prop}{f:aT}{fi ca:Array ax}(hf:ag f=false):
 dj P ag ⟨dst,.makeFunc (.func f) fi ca,h,pos,af,g⟩ L ⟨env,heap⟩=bh (qW f (fi.toList.map (ev env)) (ca.toList.map (ev env))) (eh dst ⟨env,heap⟩ L):=by
 simp only[dj,kx,fu,hf,qW,av,if_false]
 split
 ·rename_i c d;simp only[c,d,bh,true_and]
 ·rename_i c
  split
  ·rename_i a b d e;exact(c a b d e).elim
  ·simp only[bh,true_and]
theorem Hw{dst:Option Tmp}{h:Nat}{pos:String}{af:Array Edge}{g:Option (Nat×Bool)}{env:Env}{heap:aj}{K:aW->Prop}{f:aT}{fi ca:Array ax}(hf:ag f=false):
 dm P ag ⟨dst,.makeFunc (.func f) fi ca,h,pos,af,g⟩ ⟨env,heap⟩ K=bh (qW f (fi.toList.map (ev env)) (ca.toList.map (ev env))) K:=by
 simp only[dm,kx,fu,hf,qW,av,if_false]
 split
 ·rename_i c d;simp only[c,d,bh,true_and]
 ·rename_i c
  split
  ·rename_i a b d e;exact(c a b d e).elim
  ·simp only[bh,true_and]
section guards
variable{ops:Array Oper}{o:Oper}{r:List Oper}{K:St->Prop}{want t:Bool}{s:St}{i:Nat}{acc:List Touch}
theorem Hi:yJ P ag ops o r K want s (.p (.bool t))=if t=want then dj P ag o (fR P ag ops r K) s else fR P ag ops r K ⟨put o.dst (.p (.aC [])) s.env,s.heap⟩:=(rfl)
theorem HZ:yJ P ag ops o r K want s (.p (.aC []))=fR P ag ops r K ⟨put o.dst (.p (.aC [])) s.env,s.heap⟩:=(rfl)
theorem GH:yx P ag ops o r i acc K want s (.p (.bool t))=if t=want then dm P ag o s (vI P ag ops r i acc K o.dst s)else fX P ag ops r (i+1) acc K ⟨put o.dst (.p (.aC [])) s.env,s.heap⟩:=(rfl)
theorem Hh:yx P ag ops o r i acc K want s (.p (.aC []))=fX P ag ops r (i+1) acc K ⟨put o.dst (.p (.aC [])) s.env,s.heap⟩:=(rfl)
theorem Tk{l:List Oper}{j:Nat}{e:Env}:guardOf l.toArray j e=match(l[j]?).bind (·.dst)with
 |some d=>aQ e d
 |none=>.p (.aC []):=by simp only[guardOf,List.getElem?_toArray];cases l[j]?.bind (·.dst)<;>rfl
end guards
section calls
variable{f:aT}{H H1:aj}{K:AV->aj->Prop}{L:aW->Prop}{v a b c d e a' b' c' d' e':PV}{dr:Bool}
theorem Y7(h:au P f [] v)(hk:K (.p v) H):gO P dr f [] H K:=.inl ⟨[],v,rfl,h,hk⟩
theorem Y8(h:au P f [a'] v)(hk:K (.p v) H)(b:Wk a a':=by first|exact Wk.refl _|simp[Wk,bC]):gO P dr f [.p a] H K:=.inl ⟨[a],v,rfl,h.cZ (by simp only[bC];exact⟨b,trivial⟩) (Wk.refl _),hk⟩
theorem Y9(h:au P f [a',b'] v)(hk:K (.p v) H)(c:Wk a a':=by first|exact Wk.refl _|simp[Wk,bC])(d:Wk b b':=by first|exact Wk.refl _|simp[Wk,bC]):gO P dr f [.p a,.p b] H K:=
 .inl ⟨[a,b],v,rfl,h.cZ (by simp only[bC];exact⟨c,d,trivial⟩) (Wk.refl _),hk⟩
theorem Za(h:au P f [a',b',c'] v)(hk:K (.p v) H)(d:Wk a a':=by first|exact Wk.refl _|simp[Wk,bC])(e:Wk b b':=by first|exact Wk.refl _|simp[Wk,bC])(g:Wk c c':=by first|exact Wk.refl _|simp[Wk,bC]):gO P dr f [.p a,.p b,.p c] H K:=
 .inl ⟨[a,b,c],v,rfl,h.cZ (by simp only[bC];exact⟨d,e,g,trivial⟩) (Wk.refl _),hk⟩
theorem Zb(h:au P f [a',b',c',d'] v)(hk:K (.p v) H)(e:Wk a a':=by first|exact Wk.refl _|simp[Wk,bC])(g:Wk b b':=by first|exact Wk.refl _|simp[Wk,bC])(i:Wk c c':=by first|exact Wk.refl _|simp[Wk,bC])(j:Wk d d':=by first|exact Wk.refl _|simp[Wk,bC]):gO P dr f [.p a,.p b,.p c,.p d] H K:=
 .inl ⟨[a,b,c,d],v,rfl,h.cZ (by simp only[bC];exact⟨e,g,i,j,trivial⟩) (Wk.refl _),hk⟩
theorem Zc(h:au P f [a',b',c',d',e'] v)(hk:K (.p v) H)(g:Wk a a':=by first|exact Wk.refl _|simp[Wk,bC])(i:Wk b b':=by first|exact Wk.refl _|simp[Wk,bC])(j:Wk c c':=by first|exact Wk.refl _|simp[Wk,bC])(k:Wk d d':=by first|exact Wk.refl _|simp[Wk,bC])(l:Wk e e':=by first|exact Wk.refl _|simp[Wk,bC]):gO P dr f [.p a,.p b,.p c,.p d,.p e] H K:=
 .inl ⟨[a,b,c,d,e],v,rfl,h.cZ (by simp only[bC];exact⟨g,i,j,k,l,trivial⟩) (Wk.refl _),hk⟩
theorem YS(h:au P f [] v)(hk:L {v:=.p v}):gU P f [] H L:=.inl ⟨[],v,rfl,h,hk⟩
theorem YT(h:au P f [a'] v)(hk:L {v:=.p v})(b:Wk a a':=by first|exact Wk.refl _|simp[Wk,bC]):gU P f [.p a] H L:=.inl ⟨[a],v,rfl,h.cZ (by simp only[bC];exact⟨b,trivial⟩) (Wk.refl _),hk⟩
theorem YU(h:au P f [a',b'] v)(hk:L {v:=.p v})(c:Wk a a':=by first|exact Wk.refl _|simp[Wk,bC])(d:Wk b b':=by first|exact Wk.refl _|simp[Wk,bC]):gU P f [.p a,.p b] H L:=
 .inl ⟨[a,b],v,rfl,h.cZ (by simp only[bC];exact⟨c,d,trivial⟩) (Wk.refl _),hk⟩
theorem YV(h:au P f [a',b',c'] v)(hk:L {v:=.p v})(d:Wk a a':=by first|exact Wk.refl _|simp[Wk,bC])(e:Wk b b':=by first|exact Wk.refl _|simp[Wk,bC])(g:Wk c c':=by first|exact Wk.refl _|simp[Wk,bC]):gU P f [.p a,.p b,.p c] H L:=
 .inl ⟨[a,b,c],v,rfl,h.cZ (by simp only[bC];exact⟨d,e,g,trivial⟩) (Wk.refl _),hk⟩
theorem YW(h:au P f [a',b',c',d'] v)(hk:L {v:=.p v})(e:Wk a a':=by first|exact Wk.refl _|simp[Wk,bC])(g:Wk b b':=by first|exact Wk.refl _|simp[Wk,bC])(i:Wk c c':=by first|exact Wk.refl _|simp[Wk,bC])(j:Wk d d':=by first|exact Wk.refl _|simp[Wk,bC]):gU P f [.p a,.p b,.p c,.p d] H L:=
 .inl ⟨[a,b,c,d],v,rfl,h.cZ (by simp only[bC];exact⟨e,g,i,j,trivial⟩) (Wk.refl _),hk⟩
theorem YX(h:au P f [a',b',c',d',e'] v)(hk:L {v:=.p v})(g:Wk a a':=by first|exact Wk.refl _|simp[Wk,bC])(i:Wk b b':=by first|exact Wk.refl _|simp[Wk,bC])(j:Wk c c':=by first|exact Wk.refl _|simp[Wk,bC])(k:Wk d d':=by first|exact Wk.refl _|simp[Wk,bC])(l:Wk e e':=by first|exact Wk.refl _|simp[Wk,bC]):gU P f [.p a,.p b,.p c,.p d,.p e] H L:=
 .inl ⟨[a,b,c,d,e],v,rfl,h.cZ (by simp only[bC];exact⟨g,i,j,k,l,trivial⟩) (Wk.refl _),hk⟩
theorem Zd{args:List AV}{vs a:List PV}(h:au P f a v)(c:mP H args=some (vs,H1))(hk:K (.p v) H1)(b:bC vs a:=by first|exact bC.refl _|simp[Wk,bC]):gO P false f args H K:=
 .inr ⟨rfl,.inl ⟨vs,H1,v,c,h.cZ b (Wk.refl _),hk⟩⟩
theorem YZ{args:List AV}{vs a:List PV}{bs:List Nat}{al aM:List (Nat×Obj)}(h:au P f a v)(c:nN H args=some (vs,bs))(hf:kP H bs=some (al,aM))(hk:L {v:=.p v,al,aM})(b:bC vs a:=by first|exact bC.refl _|simp[Wk,bC]):gU P f args H L:=
 .inr (.inl ⟨vs,bs,al,aM,v,c,hf,h.cZ b (Wk.refl _),hk⟩)
end calls
def KV(T:aj)(a v:AV):Prop:=a=v\/Gh T a v
theorem QR{T:aj}{v:AV}:KV T v v=True:=by simp[KV]
theorem QP{T:aj}{b az ai off len:Nat}:KV T (.p .aO) (.sl b az ai off len)=(az=0/\off=0/\len=0/\∃k z,T[b]?=some (.arr k 0 z [])/\k.gr=true):=by simp[KV,Gh,fM]
theorem QS{T:aj}{u u':ay}{fs:List PV}{a:List AV}:KV T (.p (.st u fs)) (.st u' a)=(u=u'/\kG T fs a):=by simp[KV,Gh,fM]
def lN(T:aj)(e:Env):Env->Prop
 |[]=>True
 |(x,v)::r=>KV T (aQ e x) v/\lN T e r
def KO(T:aj)(o:Obj):Obj->Prop
 | .hole=>True
 | .box false v'=>match o with
  | .box false v=>KV T v v'
  |_=>False
 | .arr k az z es=>(o=.hole/\az=0/\es=[]/\k.gr=true)\/o=.arr k az z es
 |o'=>o=o'
def KN:Obj->Prop
 | .hole=>True
 | .arr k az _ es=>az=0/\es=[]/\k.gr=true
 |_=>False
def gQ(T:aj):aj->aj->Prop
 |_,[]=>True
 |[],o'::t=>KN o'/\gQ T [] t
 |o::h,o'::t=>KO T o o'/\gQ T h t
theorem lN.get{T:aj}{e:Env}:∀{t:Env},lN T e t->∀x,aQ t x=aQ e x\/aQ t x=.p .undef\/Gh T (aQ e x) (aQ t x)
 |[],_,x=>.inr (.inl rfl)
 |(y,v)::t,h,x=>by
  simp only[lN]at h;simp only[aQ]
  split
  ·rename_i hx;subst hx;rcases h.1 with h|h
   ·exact .inl h.symm
   ·exact .inr (.inr h)
  ·exact lN.get h.2 x
theorem gQ.get{T:aj}:∀{h t:aj},gQ T h t->∀(b:Nat)(o:Obj),t[b]?=some o->
 o=.hole\/h[b]?=some o\/((h[b]?=none\/h[b]?=some .hole)/\∃k z,o=.arr k 0 z []/\k.gr=true)\/(∃v v',h[b]?=some (.box false v)/\o=.box false v'/\Gh T v v')
 |_,[],_,b,o,c=>by simp at c
 |[],o'::t,hk,b,o,c=>by
  simp only[gQ]at hk;cases b with
  |zero=>
   simp at c;subst c;cases o'<;>have a:=hk.1<;>simp only[KN]at a
   ·exact .inl rfl
   ·obtain⟨rfl,rfl,d⟩:=a;exact .inr (.inr (.inl ⟨.inl rfl,_,_,rfl,d⟩))
  |succ b=>simpa using gQ.get hk.2 b o (by simpa using c)
 |e::h,o'::t,hk,b,o,c=>by
  simp only[gQ]at hk;cases b with
  |zero=>
   simp at c;subst c;have a:=hk.1;cases o' with
   |hole=>exact .inl rfl
   |dead=>simp only[KO]at a;subst a;exact .inr (.inl rfl)
   |map fz es=>simp only[KO]at a;subst a;exact .inr (.inl rfl)
   |du s p=>simp only[KO]at a;subst a;exact .inr (.inl rfl)
   |loop L=>simp only[KO]at a;subst a;exact .inr (.inl rfl)
   |arr k az z es=>
    simp only[KO]at a;rcases a with⟨rfl,rfl,rfl,d⟩|rfl
    ·exact .inr (.inr (.inl ⟨.inr rfl,_,_,rfl,d⟩))
    ·exact .inr (.inl rfl)
   |box fz v'=>
    cases fz with
    |true=>simp only[KO]at a;subst a;exact .inr (.inl rfl)
    |false=>
     simp only[KO]at a
     split at a
     ·rcases a with rfl|a
      ·exact .inr (.inl rfl)
      ·exact .inr (.inr (.inr ⟨_,_,rfl,rfl,a⟩))
     ·exact a.elim
  |succ b=>simpa using gQ.get hk.2 b o (by simpa using c)
theorem dc.og{N:Nat}{s t:St}(d:t.heap.take N=s.heap.take N)(c:lN t.heap s.env t.env)(hh:gQ t.heap s.heap t.heap)(e:gV t.heap t.env)(f:dC t.heap t.heap):dc N s t:=by
 refine .inr ⟨⟨c.get,hh.get,e.get,f.get⟩,fun b a=>?_⟩;have:=congrArg (fun l:aj=>l[b]?) d;simpa[List.getElem?_take,a]using this
theorem LG{T:aj}{o:Obj}:KO T o o=True:=by
 cases o with
 |box fz v=>cases fz<;>simp[KO,KV]
 |_=>simp[KO]
theorem QN{T:aj}{o:Obj}:KO T o .hole=True:=by simp[KO]
theorem QM{T:aj}{v v':AV}:KO T (.box false v) (.box false v')=KV T v v':=(rfl)
theorem QO{T:aj}{k:AK}{az z:Nat}{a:List AV}:KO T .hole (.arr k az z a)=(az=0/\a=[]/\k.gr=true):=by simp[KO]
theorem QL:KN .hole=True:=(rfl)
theorem QK{k:AK}{az z:Nat}{a:List AV}:KN (.arr k az z a)=(az=0/\a=[]/\k.gr=true):=(rfl)
theorem QQ{T:aj}{x y:PV}:KV T (.p x) (.p y)=(x=y):=by
 have:Gh T (.p x) (.p y)↔x=y:=by cases x<;>simp[Gh,fM,eq_comm]
 simp[KV,this]
def tX{α:Type}(N:Nat)(mk:α->St)(ok:α->Prop)(m:α->Nat)(n:Nat)(s:St):Prop:=∃a',m a'<n/\ok a'/\dc N s (mk a')
def qX{α:Type}(N:Nat)(mk:α->St)(ok:α->Prop)(m:α->Nat)(n:Nat)(Q:bu->St->Prop)(e:bu)(s:St):Prop:=
 match e with
 | .normal=>tX N mk ok m n s
 |e=>Q e s
section
variable{α:Type}{N:Nat}{mk:α->St}{ok:α->Prop}{m:α->Nat}{n:Nat}{Q:bu->St->Prop}{s s':St}{q:Cx}
theorem SW:qX N mk ok m n Q .normal s=tX N mk ok m n s:=(rfl)
theorem Un{id:Nat}:qX N mk ok m n Q (.exit id) s=Q (.exit id) s:=(rfl)
theorem Vh:qX N mk ok m n Q .ret s=Q .ret s:=(rfl)
theorem wl{b:Code}(mk:α->St)(ok:α->Prop)(m:α->Nat)(c:α)(l:ok c)(gS:∀a,ok a->di P ag q b (qX q.2 mk ok m (m a) Q) (mk a))
 (k:(mk c).heap.take q.2=s.heap.take q.2:=by simp)(i:lN (mk c).heap s.env (mk c).env:=by simp)(j:gQ (mk c).heap s.heap (mk c).heap:=by simp)(o:gV (mk c).heap (mk c).env:=by simp)(p:dC (mk c).heap (mk c).heap:=by simp):
 di P ag q (.loop b) Q s:=by
 simp only[di];refine⟨fun n t=>∃a,ok a/\t=mk a/\n=m a,⟨m c,mk c,dc.og k i j o p,c,l,rfl,rfl⟩,?_⟩;rintro n t ⟨a,h,rfl,rfl⟩;have:qX q.2 mk ok m (m a) Q=sY q.2 (m a) (fun n t=>∃a,ok a/\t=mk a/\n=m a) Q:=by
  funext e s
  cases e with
  |normal=>
   simp only[qX,sY,tX,eq_iff_iff];constructor
   ·rintro⟨a',d,f,g⟩;exact⟨m a',mk a',d,g,a',f,rfl,rfl⟩
   ·rintro⟨_,_,d,g,a',f,rfl,rfl⟩;exact⟨a',d,f,g⟩
  |exit id=>rfl
  |ret=>rfl
 rw[<-this];exact gS a h
theorem rnd(a':α)(b:ok a')(a:m a'<n:=by omega)(e:(mk a').heap.take N=s.heap.take N:=by simp)(c:lN (mk a').heap s.env (mk a').env:=by simp)(d:gQ (mk a').heap s.heap (mk a').heap:=by simp)(f:gV (mk a').heap (mk a').env:=by simp)(g:dC (mk a').heap (mk a').heap:=by simp):
 tX N mk ok m n s:=⟨a',a,b,dc.og e c d f g⟩
end
theorem aP(n:Int)(h:-9223372036854775808<=n)(a:n<=9223372036854775807):IntKind.i64.wrap n=n:=IntWalk.i64_in n ⟨h,a⟩
theorem Al(a b:Int):(a<b/\¬b<=a)\/(¬a<b/\b<=a):=by omega
theorem b9{i:Nat}(h:i<4611686018427387904):IntKind.i64.wrap ((i:Int)+1)=(i:Int)+1:=aP _ (by omega) (by omega)
attribute [simp] Wk bC aJ Obj.has Hi HZ GH Hh Tk HV Hw qW SW Un Vh lN gQ QR QQ QP QS LG QN QM QO QL QK kG fM AK.gr gV dC aE Obj.refs
attribute [simp] VC Tm Wk.refl bC.refl
end
end Go.ak
namespace Go.ak
variable[Gl]
mutual
def dQ:PV->Prop
 | .str s=>∀c∈s,c<256
 | .cm t=>dQ t
 | .cN _ es| .seq es| .st _ es| .aC es=>lP es
 |_=>True
def lP:List PV->Prop
 |[]=>True
 |v::vs=>dQ v/\lP vs
end
section
variable{P:a0}{w:a6}{ad:Nat->Prop}
theorem JJ(bs:ByteArray):∀c∈bs.data.toList.map (·.toNat),c<256:=by
 intro c hc;simp only[bV]at hc;obtain⟨b,_,rfl⟩:=hc;exact UInt8.toNat_lt b
mutual
theorem aY.dQ:∀(v:PV)(cs:List a3),aY P w ad v cs->dQ v
 | .str s,cs,h=>by simp only[aY]at h;obtain⟨bs,_,rfl⟩:=h;simp only[ak.dQ];exact JJ bs
 | .cm t,cs,h=>by simp only[aY]at h;obtain⟨_,_,ts,a,_⟩:=h;simp only[ak.dQ];exact aY.dQ t ts a
 | .cN f b,cs,h=>by simp only[aY]at h;obtain⟨_,_,_,_,d,a,_⟩:=h;simp only[ak.dQ];exact bk.dQ _ b d a
 | .seq b,cs,h=>by
  simp only[aY]at h;simp only[ak.dQ];rcases h with⟨rfl,_⟩|⟨_,_,_,_,d,a,_⟩
  ·trivial
  ·exact bk.dQ _ b d a
 | .st u b,cs,h=>by simp only[aY]at h;obtain⟨l,d,_,a,_⟩:=h;simp only[ak.dQ];exact bk.dQ _ b d a
 | .aC b,cs,h=>by simp[aY]at h
 | .undef,_,_| .bool _,_,_| .int _ _,_,_| .dH,_,_| .aO,_,_| .fc,_,_| .gD,_,_| .gd,_,_| .dT _,_,_| .func _ _ _,_,_=>by simp[ak.dQ]
theorem bk.dQ:∀(l:List Nat)(b:List PV)(d:List (List a3)),bk P w ad l b d->lP b
 |_,[],_,_=>by simp[ak.lP]
 |[],_::_,_,h=>by simp[bk]at h
 |n::l,v::vs,d,h=>by
  simp only[bk]at h;obtain⟨c,cs,_,a,_,g⟩:=h;simp only[ak.lP];exact⟨aY.dQ v c a,bk.dQ l vs cs g⟩
theorem aD.dQ:∀(v:PV)(x:a3),aD P w ad v x->dQ v
 | .str s,cs,h=>by simp only[aD]at h;obtain⟨bs,_,rfl⟩:=h;simp only[ak.dQ];exact JJ bs
 | .cm t,cs,h=>by simp only[aD]at h;obtain⟨_,_,ts,a,_⟩:=h;simp only[ak.dQ];exact aY.dQ t ts a
 | .cN f b,cs,h=>by simp only[aD]at h;obtain⟨_,_,_,_,d,a,_⟩:=h;simp only[ak.dQ];exact bk.dQ _ b d a
 | .seq b,cs,h=>by
  simp only[aD]at h;simp only[ak.dQ];rcases h with⟨rfl,_⟩|⟨_,_,_,_,d,a,_⟩
  ·trivial
  ·exact bk.dQ _ b d a
 | .st u b,cs,h=>by simp only[aD]at h;obtain⟨l,d,_,a,_⟩:=h;simp only[ak.dQ];exact bk.dQ _ b d a
 | .aC b,cs,h=>by simp only[aD]at h;obtain⟨e,a,_⟩:=h;simp only[ak.dQ];exact bJ.dQ b e a
 | .undef,_,_| .bool _,_,_| .int _ _,_,_| .dH,_,_| .aO,_,_| .fc,_,_| .gD,_,_| .gd,_,_| .dT _,_,_| .func _ _ _,_,_=>by simp[ak.dQ]
theorem bJ.dQ:∀(b:List PV)(e:List a3),bJ P w ad b e->lP b
 |[],_,_=>by simp[ak.lP]
 |v::vs,e,h=>by
  simp only[bJ]at h;obtain⟨y,i,_,a,g⟩:=h;simp only[ak.lP];exact⟨aD.dQ v y a,bJ.dQ vs i g⟩
end
theorem Rv{f:aT}{args:List PV}{v:PV}(h:lP args->au P f args v):au P f args v:=by
 by_cases hs:lP args
 ·exact h hs
 ·exact .inr fun w ad b a=>(hs (bJ.dQ _ _ a)).elim
end
end Go.ak
