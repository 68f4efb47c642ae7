import Derived.Test.YthmfmhbicipdmaaGreatDoorThC
/- Parts of a proof. -/
set_option linter.unusedSimpArgs false
set_option linter.unusedVariables false
set_option linter.unusedSectionVars false
open BitVec renaming ofInt->am
open Bool renaming cond_eq_ite->ao, and_eq_true->av, false_eq_true->ax
open Go renaming Operand->ay, TypeId->aT, FuncId->a0, Program->a1, ResultVar->a3, Value->a4, IntKind->a5, BinOp->a6, World->a7
open Int renaming natCast_nonneg->a8, ofNat_eq_natCast->a9, toNat_natCast->bb
open List renaming getElem?_eq_getElem->be, getElem?_eq_some_iff->bf, mem_cons->bi, mem_iff_getElem->bl, range->bo, replicate->bv, isEmpty_cons->bw, of_mem_zip->b0, mem_map->b1, mem_of_getElem?->b2, map_id->b3, mem_range'_1->b4, getElem_mem->b5, nodup_cons->cb, map_cons->cc, rec->cd
open Nat renaming ble->ce, beq->ck, ble_eq_true_of_le->cx, beq_refl->cy, pow_succ->c6, mod_lt->c9
open Option renaming ite_none_right_eq_some->da
open Option.some renaming injEq->db
open Prod.mk renaming injEq->dg
namespace Go.ak
set_option linter.unusedSectionVars false
variable[Gl]
section
variable{P:a1}{ag:a0->Bool}{q:Cx}
theorem OD{Q:bA->St->Prop}{s:St}:dw P ag q .skip Q s=Q .normal s:=(rfl)
theorem Nf{l:Nat}{Q:bA->St->Prop}{s:St}:dw P ag q (.label l) Q s=Q .normal s:=(rfl)
theorem OE{id:Nat}{Q:bA->St->Prop}{s:St}:dw P ag q (.exit id) Q s=Q (.exit id) s:=(rfl)
theorem Sz{Q:bA->St->Prop}{s:St}:dw P ag q .ret Q s=Q .ret s:=(rfl)
theorem Nc{b:Code}{Q:bA->St->Prop}{s:St}:dw P ag q (.scope b) Q s=dw P ag q b Q s:=(rfl)
theorem OG{id:Nat}{l:List Oper}{Q:bA->St->Prop}{s:St}:dw P ag q (.region id l.toArray true) Q s=gL P ag l.toArray l 0 [] (Q .normal) s:=by simp[dw]
theorem Nd{id:Nat}{l:List Oper}{Q:bA->St->Prop}{s:St}:dw P ag q (.region id l.toArray false) Q s=gD P ag l.toArray l (Q .normal) s:=by simp[dw]
theorem SA{a b:Code}{Q:bA->St->Prop}{s:St}:dw P ag q (.seq a b) Q s=dw P ag q a (vp (dw P ag q b Q) Q) s:=(rfl)
theorem Ng{id:Nat}{b:Code}{Q:bA->St->Prop}{s:St}:dw P ag q (.block id b) Q s=dw P ag q b (oM id Q) s:=(rfl)
theorem OH{c:ay}{a b:Code}{Q:bA->St->Prop}{s:St}:dw P ag q (.cond c a b) Q s=uM (ev s.env c) (dw P ag q a Q) (dw P ag q b Q) s:=(rfl)
theorem JD{K:St->Prop}{Q:bA->St->Prop}{s:St}:vp K Q .normal s=K s:=(rfl)
theorem KU{id:Nat}{K:St->Prop}{Q:bA->St->Prop}{s:St}:vp K Q (.exit id) s=Q (.exit id) s:=(rfl)
theorem LQ{K:St->Prop}{Q:bA->St->Prop}{s:St}:vp K Q .ret s=Q .ret s:=(rfl)
theorem JY{t:Bool}{a b:St->Prop}{s:St}:uM (.p (.bool t)) a b s=if t then a s else b s:=(rfl)
def xH(P:a1)(ag:a0->Bool)(b:Array Oper)(r:List Oper)(i:Nat)(a:List Touch)(K:St->Prop)(dst:Option Tmp)(s:St)(e:aR):Prop:=
 gL P ag b r (i+1) (gC i s.heap.length e a) K (e.app dst s)
theorem Mm{b:Array Oper}{r:List Oper}{i:Nat}{a:List Touch}{K:St->Prop}{dst:Option Tmp}{env:Env}{heap:aj}{v:AV}{al aL:List (Nat×Obj)}{aP:List Obj}:
 xH P ag b r i a K dst ⟨env,heap⟩ ⟨v,al,aL,aP⟩=gL P ag b r (i+1) (gC i heap.length ⟨v,al,aL,aP⟩ a) K ⟨put dst v env,bm heap aL++aP⟩:=(rfl)
theorem Oc{dst:Option Tmp}{env:Env}{heap:aj}{K:St->Prop}{v:AV}{al aL:List (Nat×Obj)}{aP:List Obj}:eK dst ⟨env,heap⟩ K ⟨v,al,aL,aP⟩=K ⟨put dst v env,bm heap aL++aP⟩:=(rfl)
theorem ND{dst:Option Tmp}{env:Env}{heap H:aj}{K:St->Prop}{v:AV}:Bv dst ⟨env,heap⟩ K v H=K ⟨put dst v env,H⟩:=(rfl)
def Af(P:a1)(ag:a0->Bool)(b:Array Oper)(o:Oper)(r:List Oper)(i:Nat)(a:List Touch)(K:St->Prop)(c:Bool)(s:St)(g:AV):Prop:=
 match g with
 | .p (.bool t)=>if t=c then dC P ag o s (xH P ag b r i a K o.dst s)else gL P ag b r (i+1) a K ⟨put o.dst (.p (.aC [])) s.env,s.heap⟩
 | .p (.aC [])=>gL P ag b r (i+1) a K ⟨put o.dst (.p (.aC [])) s.env,s.heap⟩
 |_=>False
def Ar(P:a1)(ag:a0->Bool)(a:Array Oper)(o:Oper)(r:List Oper)(K:St->Prop)(b:Bool)(s:St)(g:AV):Prop:=
 match g with
 | .p (.bool t)=>if t=b then dB P ag o (gD P ag a r K) s else gD P ag a r K ⟨put o.dst (.p (.aC [])) s.env,s.heap⟩
 | .p (.aC [])=>gD P ag a r K ⟨put o.dst (.p (.aC [])) s.env,s.heap⟩
 |_=>False
theorem OC{b:Array Oper}{i:Nat}{a:List Touch}{K:St->Prop}{s:St}:gL P ag b [] i a K s=(iZ b a=true/\K s):=(rfl)
theorem Nb{b:Array Oper}{i c:Nat}{pos:String}{a:List Touch}{K:St->Prop}{s:St}{dst:Option Tmp}{op:Op}{af:Array Edge}{r:List Oper}:
 gL P ag b ({dst,op,type:=c,pos,after:=af,guard:=none}::r) i a K s=dC P ag {dst,op,type:=c,pos,after:=af,guard:=none} s (xH P ag b r i a K dst s):=(rfl)
theorem LW{a:Array Oper}{i d j:Nat}{b:Bool}{pos:String}{c:List Touch}{K:St->Prop}{s:St}{dst:Option Tmp}{op:Op}{af:Array Edge}{r:List Oper}:
 gL P ag a ({dst,op,type:=d,pos,after:=af,guard:=some (j,b)}::r) i c K s=Af P ag a {dst,op,type:=d,pos,after:=af,guard:=some (j,b)} r i c K b s (guardOf a j s.env):=(rfl)
theorem OA{a:Array Oper}{K:St->Prop}{s:St}:gD P ag a [] K s=K s:=(rfl)
theorem M9{a:Array Oper}{b:Nat}{pos:String}{K:St->Prop}{s:St}{dst:Option Tmp}{op:Op}{af:Array Edge}{r:List Oper}:
 gD P ag a ({dst,op,type:=b,pos,after:=af,guard:=none}::r) K s=dB P ag {dst,op,type:=b,pos,after:=af,guard:=none} (gD P ag a r K) s:=(rfl)
theorem LV{a:Array Oper}{c j:Nat}{b:Bool}{pos:String}{K:St->Prop}{s:St}{dst:Option Tmp}{op:Op}{af:Array Edge}{r:List Oper}:
 gD P ag a ({dst,op,type:=c,pos,after:=af,guard:=some (j,b)}::r) K s=Ar P ag a {dst,op,type:=c,pos,after:=af,guard:=some (j,b)} r K b s (guardOf a j s.env):=(rfl)
end
section EY
variable{P:a1}{ag:a0->Bool}{q:Cx}
end EY
section ops
variable{P:a1}{ag:a0->Bool}{dst:Option Tmp}{ty:Nat}{pos:String}{af:Array Edge}{g:Option (Nat×Bool)}{env:Env}{heap:aj}{K:aR->Prop}{L:St->Prop}
theorem PU{x:ay}:dC P ag ⟨dst,.move x,ty,pos,af,g⟩ ⟨env,heap⟩ K=K {v:=ev env x}:=(rfl)
theorem Mk{x:ay}:dC P ag ⟨dst,.assign x,ty,pos,af,g⟩ ⟨env,heap⟩ K=K {v:=ev env x}:=(rfl)
theorem PS{c a b:ay}:dC P ag ⟨dst,.pick c a b,ty,pos,af,g⟩ ⟨env,heap⟩ K=bh (sO (ev env c) (ev env a) (ev env b)) K:=(rfl)
theorem NX{T:aT}:dC P ag ⟨dst,.alloc T,ty,pos,af,g⟩ ⟨env,heap⟩ K=bh (sr P T heap.length) K:=(rfl)
theorem QF{T:aT}{x:ay}:dC P ag ⟨dst,.box T x,ty,pos,af,g⟩ ⟨env,heap⟩ K=bh (uX P T heap.length (ev env x)) K:=(rfl)
theorem NW{T:aT}{a:Array (Nat×ay)}:dC P ag ⟨dst,.build T a,ty,pos,af,g⟩ ⟨env,heap⟩ K=bh (so P T (a.toList.map fun(i,x)=>(i,ev env x))) K:=(rfl)
theorem Jf{T:aT}{n:Nat}{a:Array (Nat×ay)}:dC P ag ⟨dst,.buildSlice T n a,ty,pos,af,g⟩ ⟨env,heap⟩ K=bh (rl P T n (a.toList.map fun(i,x)=>(i,ev env x)) heap.length) K:=(rfl)
theorem Pq{T:aT}{a:ay}:dC P ag ⟨dst,.load T a,ty,pos,af,g⟩ ⟨env,heap⟩ K=bh (qu P T heap (ev env a)) K:=(rfl)
theorem NQ{T:aT}{a x:ay}:dC P ag ⟨dst,.store T a x,ty,pos,af,g⟩ ⟨env,heap⟩ K=bh (qg P T heap (ev env a) (ev env x)) K:=(rfl)
theorem QE{op:a6}{T a:aT}{x y:ay}:dC P ag ⟨dst,.binOp op T x y a,ty,pos,af,g⟩ ⟨env,heap⟩ K=bh (jL P op T (mU y) heap (ev env x) (ev env y)) K:=(rfl)
theorem QJ{op:UnOp}{T:aT}{x:ay}:dC P ag ⟨dst,.unOp op T x,ty,pos,af,g⟩ ⟨env,heap⟩ K=bh (tD op (ev env x)) K:=(rfl)
theorem Ps{S D:aT}{x:ay}:dC P ag ⟨dst,.convert S D x,ty,pos,af,g⟩ ⟨env,heap⟩ K=bh (sF P S D heap (ev env x)) K:=(rfl)
theorem Lo{t:ay}{i:Nat}:dC P ag ⟨dst,.extract t i,ty,pos,af,g⟩ ⟨env,heap⟩ K=bh (rI (ev env t) i) K:=(rfl)
theorem JF{T:aT}{a:ay}{f:Nat}:dC P ag ⟨dst,.fieldAddr T a f,ty,pos,af,g⟩ ⟨env,heap⟩ K=bh (pL P T (ev env a) f) K:=(rfl)
theorem JE{T:aT}{x i:ay}:dC P ag ⟨dst,.indexAddr T x i,ty,pos,af,g⟩ ⟨env,heap⟩ K=bh (pK P T heap (ev env x) (ev env i)) K:=(rfl)
theorem NU{T:aT}{x i:ay}:dC P ag ⟨dst,.index T x i,ty,pos,af,g⟩ ⟨env,heap⟩ K=bh (sA P T (ev env x) (ev env i)) K:=(rfl)
theorem QG{x:ay}{a:Array aT}:dC P ag ⟨dst,.call {callee:=.builtin .len,args:=#[x],argTypes:=a},ty,pos,af,g⟩ ⟨env,heap⟩ K=bh (tt P (a.getD 0 0) a.size heap (ev env x)) K:=(rfl)
theorem Pt{f:ay}{args:List ay}{a:Array aT}:dC P ag ⟨dst,.call {callee:=.value f,args:=args.toArray,argTypes:=a},ty,pos,af,g⟩ ⟨env,heap⟩ K=sj P (ev env f) (args.map (ev env)) heap K:=(rfl)
theorem Pb{x:ay}:dB P ag ⟨dst,.move x,ty,pos,af,g⟩ L ⟨env,heap⟩=eK dst ⟨env,heap⟩ L {v:=ev env x}:=(rfl)
theorem Lx{x:ay}:dB P ag ⟨dst,.assign x,ty,pos,af,g⟩ L ⟨env,heap⟩=eK dst ⟨env,heap⟩ L {v:=ev env x}:=(rfl)
theorem O9{c a b:ay}:dB P ag ⟨dst,.pick c a b,ty,pos,af,g⟩ L ⟨env,heap⟩=bh (sO (ev env c) (ev env a) (ev env b)) (eK dst ⟨env,heap⟩ L):=(rfl)
theorem Nr{T:aT}:dB P ag ⟨dst,.alloc T,ty,pos,af,g⟩ L ⟨env,heap⟩=bh (sr P T heap.length) (eK dst ⟨env,heap⟩ L):=(rfl)
theorem R0{T:aT}{x:ay}:dB P ag ⟨dst,.box T x,ty,pos,af,g⟩ L ⟨env,heap⟩=bh (uX P T heap.length (ev env x)) (eK dst ⟨env,heap⟩ L):=(rfl)
theorem Nq{T:aT}{a:Array (Nat×ay)}:dB P ag ⟨dst,.build T a,ty,pos,af,g⟩ L ⟨env,heap⟩=bh (so P T (a.toList.map fun(i,x)=>(i,ev env x))) (eK dst ⟨env,heap⟩ L):=(rfl)
theorem I9{T:aT}{n:Nat}{a:Array (Nat×ay)}:dB P ag ⟨dst,.buildSlice T n a,ty,pos,af,g⟩ L ⟨env,heap⟩=bh (rl P T n (a.toList.map fun(i,x)=>(i,ev env x)) heap.length) (eK dst ⟨env,heap⟩ L):=(rfl)
theorem Pc{T:aT}{a:ay}:dB P ag ⟨dst,.load T a,ty,pos,af,g⟩ L ⟨env,heap⟩=bh (qu P T heap (ev env a)) (eK dst ⟨env,heap⟩ L):=(rfl)
theorem NH{T:aT}{a x:ay}:dB P ag ⟨dst,.store T a x,ty,pos,af,g⟩ L ⟨env,heap⟩=bh (qg P T heap (ev env a) (ev env x)) (eK dst ⟨env,heap⟩ L):=(rfl)
theorem RZ{op:a6}{T a:aT}{x y:ay}:dB P ag ⟨dst,.binOp op T x y a,ty,pos,af,g⟩ L ⟨env,heap⟩=bh (jL P op T (mU y) heap (ev env x) (ev env y)) (eK dst ⟨env,heap⟩ L):=(rfl)
theorem R6{op:UnOp}{T:aT}{x:ay}:dB P ag ⟨dst,.unOp op T x,ty,pos,af,g⟩ L ⟨env,heap⟩=bh (tD op (ev env x)) (eK dst ⟨env,heap⟩ L):=(rfl)
theorem Pe{S D:aT}{x:ay}:dB P ag ⟨dst,.convert S D x,ty,pos,af,g⟩ L ⟨env,heap⟩=bh (sF P S D heap (ev env x)) (eK dst ⟨env,heap⟩ L):=(rfl)
theorem Kx{t:ay}{i:Nat}:dB P ag ⟨dst,.extract t i,ty,pos,af,g⟩ L ⟨env,heap⟩=bh (rI (ev env t) i) (eK dst ⟨env,heap⟩ L):=(rfl)
theorem Jw{T:aT}{a:ay}{f:Nat}:dB P ag ⟨dst,.fieldAddr T a f,ty,pos,af,g⟩ L ⟨env,heap⟩=bh (pL P T (ev env a) f) (eK dst ⟨env,heap⟩ L):=(rfl)
theorem Jv{T:aT}{x i:ay}:dB P ag ⟨dst,.indexAddr T x i,ty,pos,af,g⟩ L ⟨env,heap⟩=bh (pK P T heap (ev env x) (ev env i)) (eK dst ⟨env,heap⟩ L):=(rfl)
theorem Np{T:aT}{x i:ay}:dB P ag ⟨dst,.index T x i,ty,pos,af,g⟩ L ⟨env,heap⟩=bh (sA P T (ev env x) (ev env i)) (eK dst ⟨env,heap⟩ L):=(rfl)
theorem R3{x:ay}{a:Array aT}:dB P ag ⟨dst,.call {callee:=.builtin .len,args:=#[x],argTypes:=a},ty,pos,af,g⟩ L ⟨env,heap⟩=bh (tt P (a.getD 0 0) a.size heap (ev env x)) (eK dst ⟨env,heap⟩ L):=(rfl)
theorem Pf{f:ay}{args:List ay}{a:Array aT}:dB P ag ⟨dst,.call {callee:=.value f,args:=args.toArray,argTypes:=a},ty,pos,af,g⟩ L ⟨env,heap⟩=sG P (ev env f) (args.map (ev env)) heap (Bv dst ⟨env,heap⟩ L):=(rfl)
theorem NR{T:aT}{x:ay}{lo hi:Option ay}:dC P ag ⟨dst,.slice T x lo hi none,ty,pos,af,g⟩ ⟨env,heap⟩ K=bh (qj P T heap (ev env x) (lo.map (ev env)) (hi.map (ev env))) K:=(rfl)
theorem Nl{T:aT}{x:ay}{lo hi:Option ay}:dB P ag ⟨dst,.slice T x lo hi none,ty,pos,af,g⟩ L ⟨env,heap⟩=bh (qj P T heap (ev env x) (lo.map (ev env)) (hi.map (ev env))) (eK dst ⟨env,heap⟩ L):=(rfl)
theorem Mi{T:aT}{x i:ay}{ok:Bool}:dC P ag ⟨dst,.lookup T x i ok,ty,pos,af,g⟩ ⟨env,heap⟩ K=bh (sK P T heap (ev env x) (ev env i) ok) K:=(rfl)
theorem Lv{T:aT}{x i:ay}{ok:Bool}:dB P ag ⟨dst,.lookup T x i ok,ty,pos,af,g⟩ L ⟨env,heap⟩=bh (sK P T heap (ev env x) (ev env i) ok) (eK dst ⟨env,heap⟩ L):=(rfl)
theorem JR{T:aT}{m k x:ay}:dC P ag ⟨dst,.mapUpdate T m k x,ty,pos,af,g⟩ ⟨env,heap⟩ K=bh (mT P T heap (ev env m) (ev env k) (ev env x)) K:=(rfl)
theorem Jt{T:aT}{m k x:ay}:dB P ag ⟨dst,.mapUpdate T m k x,ty,pos,af,g⟩ L ⟨env,heap⟩=bh (mT P T heap (ev env m) (ev env k) (ev env x)) (eK dst ⟨env,heap⟩ L):=(rfl)
theorem Mj{T:aT}{m k x:ay}:dC P ag ⟨dst,.insert T m k x,ty,pos,af,g⟩ ⟨env,heap⟩ K=bh (mT P T heap (ev env m) (ev env k) (ev env x)) K:=(rfl)
theorem Lw{T:aT}{m k x:ay}:dB P ag ⟨dst,.insert T m k x,ty,pos,af,g⟩ L ⟨env,heap⟩=bh (mT P T heap (ev env m) (ev env k) (ev env x)) (eK dst ⟨env,heap⟩ L):=(rfl)
theorem NT{T:aT}{x:ay}:dC P ag ⟨dst,.range T x,ty,pos,af,g⟩ ⟨env,heap⟩ K=bh (rY P T heap.length (ev env x)) K:=(rfl)
theorem Nn{T:aT}{x:ay}:dB P ag ⟨dst,.range T x,ty,pos,af,g⟩ L ⟨env,heap⟩=bh (rY P T heap.length (ev env x)) (eK dst ⟨env,heap⟩ L):=(rfl)
theorem PT{it:ay}:dC P ag ⟨dst,.next it true,ty,pos,af,g⟩ ⟨env,heap⟩ K=bh (sQ heap (ev env it)) K:=(rfl)
theorem Pa{it:ay}:dB P ag ⟨dst,.next it true,ty,pos,af,g⟩ L ⟨env,heap⟩=bh (sQ heap (ev env it)) (eK dst ⟨env,heap⟩ L):=(rfl)
theorem JS{T:aT}{l c:ay}:dC P ag ⟨dst,.makeSlice T l c,ty,pos,af,g⟩ ⟨env,heap⟩ K=bh (sS P T heap.length (ev env l) (ev env c)) K:=(rfl)
theorem Ju{T:aT}{l c:ay}:dB P ag ⟨dst,.makeSlice T l c,ty,pos,af,g⟩ L ⟨env,heap⟩=bh (sS P T heap.length (ev env l) (ev env c)) (eK dst ⟨env,heap⟩ L):=(rfl)
theorem JV{x:ay}:dC P ag ⟨dst,.nilCheck x,ty,pos,af,g⟩ ⟨env,heap⟩ K=bh (rT (ev env x)) K:=(rfl)
theorem Kh{x:ay}:dB P ag ⟨dst,.nilCheck x,ty,pos,af,g⟩ L ⟨env,heap⟩=bh (rT (ev env x)) (eK dst ⟨env,heap⟩ L):=(rfl)
theorem QI{args:Array ay}{a:Array aT}:dC P ag ⟨dst,.call {callee:=.builtin .min,args,argTypes:=a},ty,pos,af,g⟩ ⟨env,heap⟩ K=bh (lE false (args.toList.map (ev env))) K:=(rfl)
theorem R5{args:Array ay}{a:Array aT}:dB P ag ⟨dst,.call {callee:=.builtin .min,args,argTypes:=a},ty,pos,af,g⟩ L ⟨env,heap⟩=bh (lE false (args.toList.map (ev env))) (eK dst ⟨env,heap⟩ L):=(rfl)
theorem QH{args:Array ay}{a:Array aT}:dC P ag ⟨dst,.call {callee:=.builtin .max,args,argTypes:=a},ty,pos,af,g⟩ ⟨env,heap⟩ K=bh (lE true (args.toList.map (ev env))) K:=(rfl)
theorem R4{args:Array ay}{a:Array aT}:dB P ag ⟨dst,.call {callee:=.builtin .max,args,argTypes:=a},ty,pos,af,g⟩ L ⟨env,heap⟩=bh (lE true (args.toList.map (ev env))) (eK dst ⟨env,heap⟩ L):=(rfl)
theorem Ln{T:aT}:dC P ag ⟨dst,.makeMap T none,ty,pos,af,g⟩ ⟨env,heap⟩ K=K {v:=.map heap.length,aP:=[.map false []]}:=(rfl)
theorem K8{T:aT}:dB P ag ⟨dst,.makeMap T none,ty,pos,af,g⟩ L ⟨env,heap⟩=eK dst ⟨env,heap⟩ L {v:=.map heap.length,aP:=[.map false []]}:=(rfl)
theorem Ml{s x:ay}{T X:aT}:dC P ag ⟨dst,.call {callee:=.builtin .append,args:=#[s,x],argTypes:=#[T,X]},ty,pos,af,g⟩ ⟨env,heap⟩ K=bh (qf P T X heap (ev env s) (ev env x)) K:=by simp[dC,lG]
theorem Ly{s x:ay}{T X:aT}:dB P ag ⟨dst,.call {callee:=.builtin .append,args:=#[s,x],argTypes:=#[T,X]},ty,pos,af,g⟩ L ⟨env,heap⟩=bh (qf P T X heap (ev env s) (ev env x)) (eK dst ⟨env,heap⟩ L):=by simp[dB,lG]
theorem Pr{s x:ay}{T X:aT}:dC P ag ⟨dst,.call {callee:=.builtin .copy,args:=#[s,x],argTypes:=#[T,X]},ty,pos,af,g⟩ ⟨env,heap⟩ K=bh (copyV P T heap (ev env s) (ev env x)) K:=by simp[dC,lG]
theorem Pd{s x:ay}{T X:aT}:dB P ag ⟨dst,.call {callee:=.builtin .copy,args:=#[s,x],argTypes:=#[T,X]},ty,pos,af,g⟩ L ⟨env,heap⟩=bh (copyV P T heap (ev env s) (ev env x)) (eK dst ⟨env,heap⟩ L):=by simp[dB,lG]
theorem QB{f:a0}{fi ca:List AV}{args:List AV}{M:AV->aj->Prop}:sG P (.func f fi ca) args heap M=iy P false f (fi++args++ca) heap M:=(rfl)
theorem Pu{f:a0}{fi ca:List AV}{args:List AV}:sj P (.func f fi ca) args heap K=iF P f (fi++args++ca) heap K:=(rfl)
theorem QC{f:a0}{fi ca:List PV}{args:List AV}{M:AV->aj->Prop}:sG P (.p (.func f fi ca)) args heap M=iy P false f (fi.map .p++args++ca.map .p) heap M:=(rfl)
theorem QD{f:a0}{fi ca:List PV}{args:List AV}:sj P (.p (.func f fi ca)) args heap K=iF P f (fi.map .p++args++ca.map .p) heap K:=(rfl)
end ops
section
variable{P:a1}
@[simp] theorem aPh{b:Bool}:aI (.bool b)=.leaf:=(rfl)
@[simp] theorem aPK{k:a5}{n:Int}:aI (.int k n)=.leaf:=(rfl)
@[simp] theorem aPP{l:List Nat}:aI (.str l)=.leaf:=(rfl)
@[simp] theorem aPL:aI .aH=.leaf:=(rfl)
@[simp] theorem aPM{l:List PV}:aI (.seq l)=.leaf:=(rfl)
@[simp] theorem aPJ{l:List (PV×PV)}:aI (.eB l)=.leaf:=(rfl)
@[simp] theorem aPO{u:aT}{fs:List PV}:aI (.st u fs)=.agg u:=(rfl)
@[simp] theorem aPe{v:PV}:aa (.p v)=aI v:=(rfl)
@[simp] theorem aPg{u:aT}{fs:List AV}:aa (.st u fs)=.agg u:=(rfl)
@[simp] theorem aPf{b v e o l:Nat}:aa (.sl b v e o l)=.leaf:=(rfl)
@[simp] theorem aN9{u:aT}{fs:List PV}:bW (.st u fs)=fs:=(rfl)
theorem XA{a:List a3}{Q:PV->Prop}{s:St}:A0 P a Q .ret s=∃vs,fY P s a=some vs/\∃v,eM s.heap 9 (oneOf vs)=some v/\Q v:=by simp[A0]
theorem Vj{a:List a3}{Q:PV->Prop}{s:St}:A0 P a Q .normal s=∃vs,fY P s a=some vs/\∃v,eM s.heap 9 (oneOf vs)=some v/\Q v:=by simp[A0]
attribute [simp] XA Vj jK OD Nf OE Sz Nc OG Nd SA Ng OH JD KU LQ JY Mm Oc ND OC Nb OA M9 LW LV
 PU Mk PS NX QF NW Jf Pq NQ QE QJ Ps Lo JF JE NU QG Pt
 Pb Lx O9 Nr R0 Nq I9 Pc NH RZ R6 Pe Kx Jw Jv Np R3 Pf QC QD NR Nl Mi Lv JR Jt Mj Lw NT Nn PT Pa JS Ju JV Kh QI R5 QH R4 Ln K8 Ml Ly Pr Pd QB Pu qf ly qj sK mT rY sQ sS copyV rT lE iq dJ fq gB lZ qJ mH uv gk ja mB WL Xo
 Uz VS W1 Un U7 WB
 aN put jl ev ofConst bm gC iu oJ fo lL gu iK eA sO sr uX jM so rl jL vf Fy tD sF rI sA tt qu qg pL pK lenOf iC iY mA bG
 mU fY ql oneOf eM
end
section
variable{P:a1}{ag:a0->Bool}
def sE:jQ->jQ->Bool
 | .leaf,.leaf=>true
 | .agg u,.agg v=>ck u v
 |_,_=>false
theorem jn{a b:jQ}(h:sE a b=true):a=b/\b≠.bad:=by
 cases a<;>cases b<;>simp_all [sE]
def kE:AK->AK->Bool
 | .exact,.exact| .grow,.grow| .frozen,.frozen| .bytes,.bytes=>true
 |_,_=>false
def xZ:AK->Bool
 | .frozen=>false
 |_=>true
theorem Em{k:AK}(h:xZ k=true):k≠.frozen:=by cases k<;>simp_all [xZ]
def po(k:AK)(a:List AV):Bool:=match k.gr,a with
 |true,[]=>false
 |_,_=>true
theorem xm{k:AK}{a:List AV}(h:po k a=true):¬(k.gr=true/\a=[]):=by
 rintro⟨b,rfl⟩;simp[po,b]at h
theorem dE{a b:Nat}(h:ck a b=true):a=b:=Nat.eq_of_beq_eq_true h
theorem cX{a b:Nat}(h:ce a b=true):a<=b:=Nat.le_of_ble_eq_true h
def Q1:a5->a5->Bool:=fun a b=>decide (a=b)
def xn(P:a1)(l:List Nat):List (Nat×AV)->Bool
 |[]=>true
 |(i,v)::r=>(match l[i]? with
  |some n=>ck (bG P (aa v)) n&&(match aa v with
   | .bad=>false
   |_=>true)
  |none=>false)&&xn P l r
theorem CS{l:List Nat}:∀{r:List (Nat×AV)},xn P l r=true->mA P l r
 |[],_=>trivial
 |(i,v)::r,h=>by
  simp only[xn,av]at h;refine⟨?_,CS h.2⟩;have a:=h.1
  split at a
  ·rename_i n c;simp only[av]at a;refine⟨n,c,dE a.1,fun b=>?_⟩;rw[b]at a;simp at a
  ·simp at a
def qw(P:a1)(sz:Nat):List AV->Bool
 |[]=>true
 |v::r=>(match aa v with
  | .bad=>false
  |s=>ck (bG P s) sz)&&qw P sz r
theorem uE{sz:Nat}:∀{r:List AV},qw P sz r=true->fq P sz r
 |[],_=>trivial
 |v::r,h=>by
  simp only[qw,av]at h;refine⟨?_,uE h.2⟩;have a:=h.1
  split at a
  ·simp at a
  ·rename_i b;exact⟨b,dE a⟩
def Fi(P:a1)(T:aT)(H:aj)(a:AV):Option aR:=
 match a with
 | .ptr b path=>match H[b]? with
  |some (.box fz t)=>match fo t path with
   |some s=>bif sE (kindOf P T) (aa s)then some {v:=s,al:=[(b,.box fz t)]}else none
   |none=>none
  |_=>none
 | .b7 b aA ai i path=>match H[b]? with
  |some (.arr k d c es)=>bif ck aA d&&ck ai c then match es[i]? with
   |some x=>match fo x path with
    |some s=>bif sE (kindOf P T) (aa s)then some {v:=s,al:=[(b,.arr k d c es)]}else none
    |none=>none
   |none=>none
   else none
  |_=>none
 | .p (.cm t)=>bif sE (kindOf P T) (aI t)then some {v:=.p t}else none
 |_=>none
theorem YJ{T:aT}{H:aj}{a:AV}{e:aR}{K:aR->Prop}(h:Fi P T H a=some e)(hk:K e):oQ P T H a K:=by
 unfold Fi at h;unfold oQ
 split at h
 ·split at h
  ·split at h
   ·rename_i hs;simp only[ao,da,db]at h;rename_i c _ _;obtain⟨b,rfl⟩:=h;simp only[c,hs];exact⟨(jn b).1,hk⟩
   ·simp at h
  ·simp at h
 ·split at h
  ·rename_i c;simp only[ao,da,av]at h;obtain⟨⟨b,d⟩,h⟩:=h
   split at h
   ·rename_i hx
    split at h
    ·rename_i hs;simp only[da,db]at h;obtain⟨f,rfl⟩:=h;obtain⟨hi,rfl⟩:=bf.1 hx;simp only[c];refine⟨dE b,dE d,hi,?_⟩;simp only[hs];exact⟨(jn f).1,hk⟩
    ·simp at h
   ·simp at h
  ·simp at h
 ·simp only[ao,da,db]at h;obtain⟨b,rfl⟩:=h;exact⟨(jn b).1,hk⟩
 ·simp at h
def Ed(P:a1)(T:aT)(H:aj)(a x:AV):Option aR:=
 bif sE (kindOf P T) (aa x)then match a with
 | .ptr b path=>match H[b]? with
  |some (.box false t)=>match fo t path,gu t path x with
   |some s,some d=>bif sE (aa s) (aa x)then some {v:=.p (.aC []),al:=[(b,.box false t)],aL:=[(b,.box false d)]}else none
   |_,_=>none
  |_=>none
 | .b7 b aA ai i path=>match H[b]? with
  |some (.arr k e c es)=>bif ck aA e&&(ck ai c&&xZ k)then match es[i]? with
   |some y=>match fo y path,gu y path x with
    |some s,some d=>bif sE (aa s) (aa x)then some {v:=.p (.aC []),al:=[(b,.arr k e c es)],aL:=[(b,.arr k e c (es.set i d))]}else none
    |_,_=>none
   |none=>none
   else none
  |_=>none
 |_=>none
 else none
theorem WS{T:aT}{H:aj}{a x:AV}{e:aR}{K:aR->Prop}(h:Ed P T H a x=some e)(hk:K e):oG P T H a x K:=by
 unfold Ed at h;unfold oG;simp only[ao,da]at h;obtain⟨f,h⟩:=h;refine⟨(jn f).1,(jn f).2,?_⟩
 split at h
 ·split at h
  ·rename_i c
   split at h
   ·rename_i hs d;simp only[da,db]at h;obtain⟨b,rfl⟩:=h;simp only[c,hs,d];exact⟨(jn b).1,hk⟩
   ·simp at h
  ·simp at h
 ·split at h
  ·rename_i c;simp only[da,av]at h;obtain⟨⟨b,g,i⟩,h⟩:=h
   split at h
   ·rename_i k
    split at h
    ·rename_i hs d;simp only[da,db]at h;obtain⟨j,rfl⟩:=h;obtain⟨hi,rfl⟩:=bf.1 k;simp only[c];refine⟨dE b,dE g,Em i,hi,?_⟩;simp only[hs,d];exact⟨(jn j).1,hk⟩
    ·simp at h
   ·simp at h
  ·simp at h
 ·simp at h
def E8(op:a6)(k:a5)(a b:Int):Option PV:=
 match op with
 | .add=>some (.int k (k.wrap (a+b)))
 | .sub=>some (.int k (k.wrap (a-b)))
 | .mul=>some (.int k (k.wrap (a*b)))
 | .quo=>match b with
  | .ofNat 0=>none
  |b=>some (.int k (k.wrap (a.tdiv b)))
 | .rem=>match b with
  | .ofNat 0=>none
  |b=>some (.int k (a.tmod b))
 | .and=>some (.int k (k.wrap (am k.bits a&&&am k.bits b).toNat))
 | .or=>some (.int k (k.wrap (am k.bits a|||am k.bits b).toNat))
 | .xor=>some (.int k (k.wrap (am k.bits a^^^am k.bits b).toNat))
 | .andNot=>some (.int k (k.wrap (am k.bits a&&&~~~am k.bits b).toNat))
 | .eql=>some (.bool (a==b))
 | .neq=>some (.bool (a !=b))
 | .lss=>some (.bool (decide (a<b)))
 | .leq=>some (.bool (decide (a<=b)))
 | .gtr=>some (.bool (decide (a>b)))
 | .geq=>some (.bool (decide (a>=b)))
 | .shl=>match b with
  | .ofNat _=>some (.int k (k.wrap (a*2^(min b.toNat k.bits))))
  |_=>none
 | .shr=>match b with
  | .ofNat _=>some (.int k (a.fdiv (2^(min b.toNat k.bits))))
  |_=>none
theorem aAL{op:a6}{k:a5}{a b:Int}{v:PV}{K:PV->Prop}(h:E8 op k a b=some v)(hk:K v):qt op k a b K:=by
 cases op<;>simp only[E8]at h<;>simp only[qt]
 case quo|rem=>
  split at h
  ·simp at h
  ·rename_i d;simp only[db]at h;subst h;exact⟨fun c=>d (by rw[c];rfl),hk⟩
 case shl|shr=>
  split at h
  ·simp only[db]at h;subst h;exact⟨a8 _,hk⟩
  ·simp at h
 all_goals (simp only[db]at h;subst h;exact hk)
def ES(P:a1)(op:a6)(T:aT)(c:Bool)(H:aj)(x y:AV):Option PV:=
 match x,y with
 | .p (.int k a),.p (.int d b)=>bif Q1 k d||(match op with
  | .shl| .shr=>true
  |_=>false)then E8 op k a b else none
 | .p (.str a),.p (.str b)=>match op with
  | .add=>bif ce (a.length+b.length) 9223372036854775807 then some (.str (a++b))else none
  | .eql=>some (.bool (a==b))
  | .neq=>some (.bool (!(a==b)))
  | .lss=>some (.bool (jG a b))
  | .leq=>some (.bool (jG a b||a==b))
  | .gtr=>some (.bool (!(jG a b||a==b)))
  | .geq=>some (.bool (!(jG a b)))
  |_=>none
 | .p (.bool a),.p (.bool b)=>bif rW P T then match op with
  | .eql=>some (.bool (a==b))
  | .neq=>some (.bool (!(a==b)))
  |_=>none
  else none
 | .p (.st u fs),.p (.st u' gs)=>bif nR P T then match gh P 9 T (.st u fs) (.st u' gs),op with
  |some r,.eql=>some (.bool r)
  |some r,.neq=>some (.bool !r)
  |_,_=>none
  else none
 |x,y=>match dI P T c y with
  |some k=>match cV H k x,op with
   |some r,.eql=>some (.bool r)
   |some r,.neq=>some (.bool !r)
   |_,_=>none
  |none=>none
theorem ZM{op:a6}{T:aT}{c:Bool}{H:aj}{x y:AV}{v:PV}{K:PV->Prop}(h:ES P op T c H x y=some v)(hk:K v):lg P op T c H x y K:=by
 unfold ES at h;unfold lg
 split at h
 ·simp only[ao,da,Bool.or_eq_true,Q1,decide_eq_true_eq]at h;refine⟨?_,aAL h.2 hk⟩;rcases h.1 with b|b
  ·exact .inl b
  ·cases op<;>simp at b<;>simp
 ·split at h<;>simp only[qq]
  ·simp only[ao,da,db]at h;obtain⟨b,rfl⟩:=h;exact⟨by have:=cX b;omega,hk⟩
  ·simp only[db]at h;subst h;exact hk
  ·simp only[db]at h;subst h;exact hk
  ·simp only[db]at h;subst h;exact hk
  ·simp only[db]at h;subst h;exact hk
  ·simp only[db]at h;subst h;exact hk
  ·simp only[db]at h;subst h;exact hk
  ·simp at h
 ·simp only[ao,da]at h;refine⟨h.1,?_⟩;have a:=h.2
  split at a
  ·simp only[db]at a;subst a;exact hk
  ·simp only[db]at a;subst a;exact hk
  ·simp at a
 ·simp only[ao,da]at h;refine⟨h.1,?_⟩;have a:=h.2
  split at a
  ·rename_i d;simp only[db]at a;subst a;simp only[d];exact hk
  ·rename_i d;simp only[db]at a;subst a;simp only[d];exact hk
  ·simp at a
 ·split at h
  case h_2=>simp at h
  rename_i k f;show lg P op T c H x y _;rw[Lb f];obtain⟨r,e,d⟩:∃r,cV H k x=some r/\((op=.eql/\v=.bool r)\/(op=.neq/\v=.bool !r)):=by
   revert h;generalize cV H k x=q;intro h;cases q with
   |none=>simp at h
   |some r=>cases op<;>simp at h<;>exact⟨r,rfl,by simp[h]⟩
  rw[e];rcases d with⟨rfl,rfl⟩|⟨rfl,rfl⟩<;>exact hk
def CI(P:a1)(T:aT)(a:AV)(f:Nat):Option aR:=
 match eU P T with
 |some (u,n)=>bif ce (f+1) n then match a with
  | .ptr b path=>some {v:=.ptr b (path++[(u,f)])}
  | .b7 b aA ai i path=>some {v:=.b7 b aA ai i (path++[(u,f)])}
  | .p (.cm t)=>bif sE (aI t) (.agg u)then match(bW t)[f]? with
   |some g=>some {v:=.p (.cm g)}
   |none=>none
   else none
  |_=>none
  else none
 |_=>none
theorem Us{T:aT}{a:AV}{f:Nat}{e:aR}{K:aR->Prop}(h:CI P T a f=some e)(hk:K e):ou P T a f K:=by
 unfold CI at h;unfold ou
 split at h
 ·rename_i hs;simp only[ao,da]at h;obtain⟨b,h⟩:=h;simp only[hs];refine⟨by have:=cX b;omega,?_⟩
  split at h
  ·simp only[db]at h;subst h;exact hk
  ·simp only[db]at h;subst h;exact hk
  ·simp only[da]at h;obtain⟨c,h⟩:=h
   split at h
   ·rename_i d;simp only[db]at h;subst h;simp only[d];exact⟨(jn c).1,hk⟩
   ·simp at h
  ·simp at h
 ·simp at h
def oE(a:Option Nat)(b:Nat):Bool:=match a with
 |some x=>ck x b
 |none=>false
theorem xF{a:Option Nat}{b:Nat}(h:oE a b=true):a=some b:=by
 unfold oE at h;split at h
 ·rw[dE h]
 ·simp at h
def CF(P:a1)(T:aT)(H:aj)(x i:AV):Option aR:=
 match i with
 | .p (.int _ (.ofNat i))=>match x with
  | .p (.cT _ es)=>match es[i]? with
   |some y=>bif oE (cG P T) (bG P (aI y))then some {v:=.p (.cm y)}else none
   |none=>none
  | .p (.seq es)=>match es[i]? with
   |some y=>bif oE (cG P T) (bG P (aI y))then some {v:=.p (.cm y)}else none
   |none=>none
  | .sl b aA ai off len=>bif oE (cG P T) ai&&ce (i+1) len then match H[b]? with
   |some (.arr k c a es)=>bif ck aA c&&(ck ai a&&po k es)then some {v:=.b7 b aA ai (off+i) [],al:=[(b,.arr k c a es)]}else none
   |_=>none
   else none
  | .ptr b path=>match iR P T with
   |some (u,n)=>bif ce (i+1) n then some {v:=.ptr b (path++[(u,i)])}else none
   |_=>none
  | .b7 b aA ai j path=>match iR P T with
   |some (u,n)=>bif ce (i+1) n then some {v:=.b7 b aA ai j (path++[(u,i)])}else none
   |_=>none
  | .p (.cm t)=>match iR P T with
   |some (u,n)=>bif sE (aI t) (.agg u)&&ce (i+1) n then match(bW t)[i]? with
    |some g=>some {v:=.p (.cm g)}
    |none=>none
    else none
   |_=>none
  |_=>none
 |_=>none
theorem UE{T:aT}{H:aj}{x i:AV}{e:aR}{K:aR->Prop}(h:CF P T H x i=some e)(hk:K e):ot P T H x i K:=by
 unfold CF at h;unfold ot
 split at h
 case h_2=>simp at h
 rename_i i;refine⟨a8 _,?_⟩;simp only[a9,bb]
 split at h
 ·split at h
  ·rename_i y d;simp only[ao,da,db]at h;obtain⟨a,rfl⟩:=h;obtain⟨hi,rfl⟩:=bf.1 d;exact⟨hi,xF a,hk⟩
  ·simp at h
 ·split at h
  ·rename_i y d;simp only[ao,da,db]at h;obtain⟨a,rfl⟩:=h;obtain⟨hi,rfl⟩:=bf.1 d;exact⟨hi,xF a,hk⟩
  ·simp at h
 ·simp only[ao,da,av]at h;obtain⟨⟨a,c⟩,h⟩:=h;refine⟨xF a,by have:=cX c;omega,?_⟩
  split at h
  ·rename_i k;simp only[da,db]at h;obtain⟨⟨f,g,j⟩,rfl⟩:=h;simp only[k];exact⟨dE f,dE g,xm j,hk⟩
  ·simp at h
 ·split at h
  ·rename_i b;simp only[ao,da,db]at h;obtain⟨a,rfl⟩:=h;simp only[b];exact⟨by have:=cX a;omega,hk⟩
  ·simp at h
 ·split at h
  ·rename_i b;simp only[ao,da,db]at h;obtain⟨a,rfl⟩:=h;simp only[b];exact⟨by have:=cX a;omega,hk⟩
  ·simp at h
 ·split at h
  ·rename_i b;simp only[ao,da,av]at h;obtain⟨⟨a,c⟩,h⟩:=h
   split at h
   ·rename_i l;simp only[db]at h;subst h;simp only[b,l];exact⟨(jn a).1,by have:=cX c;omega,hk⟩
   ·simp at h
  ·simp at h
 ·simp at h
def D7(P:a1)(T X:aT)(H:aj)(s x:AV):Option aR:=
 match cG P T,iq H x with
 |some sz,some xs=>bif jc P X&&((b9 P (eE P T)).isSome&&qw P sz xs)then
  match s with
  | .p .aH=>match xs with
   |[]=>some {v:=s,al:=dJ H x}
   |y::r=>bif ce (y::r).length c8 then some {v:=.sl H.length 0 sz 0 (y::r).length,al:=dJ H x,aP:=[.arr (gk P T) 0 sz (y::r)]}else none
  | .p (.cT full es)=>bif qw P sz (es.map .p)then match xs with
   |[]=>some {v:=s,al:=dJ H x}
   |y::r=>bif full&&ce (es.length+(y::r).length) c8 then
    some {v:=.sl H.length 0 sz 0 (es.length+(y::r).length),al:=dJ H x,aP:=[.arr (gk P T) 0 sz (es.map .p++(y::r))]}else none
   else none
  | .sl b aA ai off len=>match H[b]? with
   |some (.arr k c a es)=>bif ck aA c&&(ck ai a&&(ck ai sz&&ce (off+len) es.length))then
    match xs with
    |[]=>some {v:=s,al:=(b,.arr k c a es)::dJ H x}
    |y::r=>bif ce (es.length+(y::r).length) c8 then match k with
     | .frozen=>none
     | .exact=>bif ce (off+len+(y::r).length) es.length then
      some {v:=.sl b aA ai off (len+(y::r).length),al:=(b,.arr .exact c a es)::dJ H x,aL:=[(b,.arr .exact aA ai (es.take (off+len)++(y::r)++es.drop (off+len+(y::r).length)))]}
      else some {v:=.sl H.length 0 sz 0 (len+(y::r).length),al:=(b,.arr .exact c a es)::dJ H x,aP:=[.arr (gk P T) 0 sz ((es.drop off).take len++(y::r))]}
     | .grow=>bif ck off 0 then some {v:=.sl b (aA+1) ai 0 (len+(y::r).length),al:=(b,.arr .grow c a es)::dJ H x,aL:=[(b,.arr .grow (aA+1) ai (es.take len++(y::r)))]}else none
     | .bytes=>bif ck off 0&&ck (eE P T) Gl.u8 then some {v:=.sl b (aA+1) ai 0 (len+(y::r).length),al:=(b,.arr .bytes c a es)::dJ H x,aL:=[(b,.arr .bytes (aA+1) ai (es.take len++(y::r)))]}else none
     else none
    else none
   |_=>none
  |_=>none
  else none
 |_,_=>none
theorem T7{T X:aT}{H:aj}{s x:AV}{e:aR}{K:aR->Prop}(h:D7 P T X H s x=some e)(hk:K e):ow P T X H s x K:=by
 unfold D7 at h;unfold ow
 split at h
 case h_2=>simp at h
 rename_i sz r n p;simp only[ao,da,av]at h;obtain⟨⟨g,j,k⟩,h⟩:=h;simp only[n,p];refine⟨g,j,uE k,?_⟩
 split at h
 ·split at h
  ·simp only[db]at h;subst h;simpa using hk
  ·simp only[da,db]at h;obtain⟨a,rfl⟩:=h;simp only[bw,ax,if_false];exact⟨cX a,hk⟩
 ·simp only[da]at h;obtain⟨a,h⟩:=h;refine⟨uE a,?_⟩
  split at h
  ·simp only[db]at h;subst h;simpa using hk
  ·simp only[da,db]at h;obtain⟨⟨b,c⟩,rfl⟩:=h;simp only[bw,ax,if_false];exact⟨b,cX c,hk⟩
 ·split at h
  case h_2=>simp at h
  rename_i o;simp only[da]at h;obtain⟨⟨a,b,c,l⟩,h⟩:=h;simp only[o];refine⟨dE a,dE b,dE c,cX l,?_⟩
  split at h
  ·simp only[db]at h;subst h;simpa using hk
  ·simp only[da]at h;obtain⟨m,h⟩:=h;simp only[bw,ax,if_false];refine⟨cX m,?_⟩
   split at h
   ·simp at h
   ·split at h
    ·rename_i f;simp only[db]at h;subst h;simp only[cX f,if_true];exact hk
    ·rename_i f;simp only[db]at h;subst h;rw[if_neg (fun q=>f (cx q))];exact hk
   ·simp only[da,db]at h;obtain⟨d,rfl⟩:=h;exact⟨dE d,(fun h=>by cases h),hk⟩
   ·simp only[da,db]at h;obtain⟨⟨d,i⟩,rfl⟩:=h;exact⟨dE d,fun _=>dE i,hk⟩
 ·simp at h
end
section
variable{P:a1}{ag:a0->Bool}
def jZ(x:Option AV)(d:Nat):Option Nat:=
 match x with
 |none=>some d
 |some (.p (.int _ (.ofNat i)))=>some i
 |_=>none
theorem kW{x:Option AV}{d n:Nat}{K:Nat->Prop}(h:jZ x d=some n)(hk:K n):gX x d K:=by
 unfold jZ at h;unfold gX
 split at h
 ·simp only[db]at h;subst h;exact hk
 ·simp only[db]at h;subst h;exact⟨a8 _,hk⟩
 ·simp at h
def Ef(P:a1)(T:aT)(H:aj)(x:AV)(lo hi e:Option AV):Option aR:=
 match e with
 |some _=>none
 |none=>match x with
  | .p (.str s)=>match jZ hi s.length,jZ lo 0 with
   |some h,some l=>bif ja P T&&(ce h s.length&&ce l h)then some {v:=.p (.str ((s.take h).drop l))}else none
   |_,_=>none
  | .p .aH=>match jZ hi 0,jZ lo 0 with
   |some h,some l=>bif (cG P T).isSome&&(ce h 0&&ce l h)then some {v:=x}else none
   |_,_=>none
  | .p (.cT full es)=>match jZ hi es.length,jZ lo 0,cG P T with
   |some h,some l,some sz=>bif ce h es.length&&(ce l h&&qw P sz (es.map .p))then some {v:=.p (.cT (full&&h==es.length) ((es.take h).drop l))}else none
   |_,_,_=>none
  | .p (.seq es)=>match jZ hi es.length,jZ lo 0,cG P T with
   |some h,some l,some sz=>bif ce h es.length&&(ce l h&&qw P sz (es.map .p))then some {v:=.p (.seq ((es.take h).drop l))}else none
   |_,_,_=>none
  | .sl b aA ai off len=>match H[b]? with
   |some (.arr k c a es)=>match jZ hi len,jZ lo 0 with
    |some h,some l=>bif ck aA c&&(ck ai a&&(oE (cG P T) ai&&(po k es&&(ce (off+len) es.length&&(ce (off+h) es.length&&ce l h)))))then
     match l with
     |0=>some {v:=.sl b aA ai off h,al:=[(b,.arr k c a es)]}
     |d+1=>bif ck (d+1) h then some {v:=.p (.cT false []),al:=[(b,.arr k c a es)]}else some {v:=.sl b aA ai (off+(d+1)) (h-(d+1)),al:=[(b,.arr k c a es)]}
     else none
    |_,_=>none
   |_=>none
  |_=>none
theorem WW{T:aT}{H:aj}{x:AV}{lo hi j:Option AV}{e:aR}{K:aR->Prop}(h:Ef P T H x lo hi j=some e)(hk:K e):oH P T H x lo hi j K:=by
 unfold Ef at h;unfold oH
 split at h
 ·simp at h
 refine⟨rfl,?_⟩
 split at h
 ·split at h
  case h_2=>simp at h
  rename_i a b;simp only[ao,da,av,db]at h;obtain⟨⟨c,d,f⟩,rfl⟩:=h;exact⟨c,kW a (kW b ⟨cX d,cX f,hk⟩)⟩
 ·split at h
  case h_2=>simp at h
  rename_i a b;simp only[ao,da,av,db]at h;obtain⟨⟨c,d,f⟩,rfl⟩:=h;exact⟨c,kW a (kW b ⟨cX d,cX f,hk⟩)⟩
 ·split at h
  case h_2=>simp at h
  rename_i a b c;simp only[ao,da,av,db]at h;obtain⟨⟨d,f,g⟩,rfl⟩:=h;refine kW a (kW b ⟨cX d,cX f,?_⟩);simp only[c];exact⟨uE g,hk⟩
 ·split at h
  case h_2=>simp at h
  rename_i a b c;simp only[ao,da,av,db]at h;obtain⟨⟨d,f,g⟩,rfl⟩:=h;refine kW a (kW b ⟨cX d,cX f,?_⟩);simp only[c];exact⟨uE g,hk⟩
 ·split at h
  case h_2=>simp at h
  rename_i n
  split at h
  case h_2=>simp at h
  rename_i a b;simp only[ao,da,av]at h;obtain⟨⟨c,d,f,g,k,l,m⟩,h⟩:=h;simp only[n];refine⟨dE c,dE d,xF f,xm g,cX k,kW a (kW b ⟨cX l,cX m,?_⟩)⟩
  split at h
  ·simp only[db]at h;subst h;simpa using hk
  ·rw[if_neg (by omega)]
   split at h
   ·rename_i i;simp only[db]at h;subst h;rw[if_pos (dE i)];exact hk
   ·rename_i i;simp only[db]at h;subst h;rw[if_neg (fun e=>i (by rw[<-e];exact cy _))];exact hk
 ·simp at h
def DF(P:a1)(T:aT)(H:aj)(x:AV)(lo hi:Option AV)(m:AV):Option aR:=
 match x with
 | .sl b aA ai off len=>match H[b]? with
  |some (.arr k c a es)=>match jZ hi len,jZ lo 0,jZ (some m) 0 with
   |some h,some l,some m=>bif ck aA c&&(ck ai a&&((cG P T).isSome&&(po k es&&(ce (off+len) es.length&&(hi.isSome&&(ce (off+m) es.length&&(ce h m&&ce l h)))))))then
    some {v:=.p .undef,al:=[(b,.arr k c a es)]}else none
   |_,_,_=>none
  |_=>none
 |_=>none
theorem Ww{T:aT}{H:aj}{x:AV}{lo hi:Option AV}{m:AV}{e:aR}{K:aR->Prop}(h:DF P T H x lo hi m=some e)(hk:K e):rF P T H x lo hi m K:=by
 unfold DF at h;unfold rF
 split at h
 case h_2=>simp at h
 split at h
 case h_2=>simp at h
 rename_i d
 split at h
 case h_2=>simp at h
 rename_i a b c;simp only[ao,da,av,db]at h;obtain⟨⟨g1,g2,g3,g4,g5,g6,g7,g8,g9⟩,rfl⟩:=h;simp only[d];exact⟨dE g1,dE g2,g3,xm g4,cX g5,g6,kW a (kW b (kW c ⟨cX g7,cX g8,cX g9,hk⟩))⟩
def AL(ok:Bool)(z:PV)(r:Option PV):PV:=
 match r with
 |some v=>bif ok then .aC [v,.bool true]else v
 |none=>bif ok then .aC [z,.bool false]else z
def Nk(P:a1)(T:aT)(H:aj)(x i:AV)(ok:Bool):Option aR:=
 match lZ P T,i with
 |some (a,E),.p key=>match b9 P E with
  |some z=>bif gB P a key then match x with
   | .p .fF=>some {v:=.p (AL ok z none)}
   | .p (.eB es)=>match ga P a es key with
    |some r=>some {v:=.p (AL ok z r)}
    |none=>none
   | .map b=>match H[b]? with
    |some (.map fz es)=>match ga P a es key with
     |some r=>some {v:=.p (AL ok z r),al:=[(b,.map fz es)]}
     |none=>none
    |_=>none
   |_=>none
   else none
  |none=>none
 |_,_=>none
def Nh(P:a1)(T:aT)(H:aj)(m k x:AV):Option aR:=
 match lZ P T,m,k,x with
 |some (a,_),.map b,.p key,.p v=>bif gB P a key then match H[b]? with
  |some (.map false es)=>match mH P a es key with
   |some _=>some {v:=.p (.aC []),al:=[(b,.map false es)],aL:=[(b,.map false (gA es key v))]}
   |none=>none
  |_=>none
  else none
 |_,_,_,_=>none
def RO(H:aj)(it:AV):Option aR:=
 match it with
 | .ptr b []=>match H[b]? with
  |some (.dG s pos)=>bif ce (pos+1) s.length then
   some {v:=.p (.aC [.bool true,.int .i64 pos,.int .i32 (Utf8.decode (gP s) pos).1]),al:=[(b,.dG s pos)],aL:=[(b,.dG s (pos+(Utf8.decode (gP s) pos).2))]}
   else some {v:=.p (.aC [.bool false]),al:=[(b,.dG s pos)]}
  |_=>none
 |_=>none
def L5(P:a1)(H:aj)(b:Builtin)(c:Array aT)(args:List AV):Option aR:=
 match b,args with
 | .len,[x]=>match lenOf H x with
  |some (n,al)=>bif iC P (c.getD 0 0) x&&ce 1 c.size then some {v:=.p (.int .i64 n),al}else none
  |none=>none
 | .append,[s,x]=>bif ck c.size 2 then D7 P (c.getD 0 0) (c.getD 1 0) H s x else none
 | .min,.p (.int k a)::r=>match mB k false r a with
  |some n=>some {v:=.p (.int k n)}
  |none=>none
 | .max,.p (.int k a)::r=>match mB k true r a with
  |some n=>some {v:=.p (.int k n)}
  |none=>none
 | .copy,[d,x]=>match cG P (c.getD 0 0),d,iq H x with
  |some sz,.sl b aA ai off len,some xs=>bif ck ai sz&&(qw P sz xs&&ck c.size 2)then match H[b]? with
   |some (.arr k f e es)=>bif ck aA f&&(ck ai e&&(xZ k&&(ce (off+len) es.length&&po k es)))then
    some {v:=.p (.int .i64 (min xs.length len:Nat)),al:=(b,.arr k f e es)::dJ H x,aL:=[(b,.arr k f e (es.take off++xs.take (min xs.length len)++es.drop (off+min xs.length len)))]}
    else none
   |_=>none
   else none
  |_,_,_=>none
 | .cap,[x]=>match A3 H x with
  |some (n,al)=>bif iC P (c.getD 0 0) x&&ce 1 c.size then some {v:=.p (.int .i64 n),al}else none
  |none=>none
 | .clear,[x]=>match x with
  | .p .aH=>bif iC P (c.getD 0 0) x&&ce 1 c.size then some {v:=.p (.aC [])}else none
  | .sl b aA ai off len=>match cG P (c.getD 0 0),b9 P (eE P (c.getD 0 0)),H[b]? with
   |some sz,some z,some (.arr k f e es)=>bif ck aA f&&(ck ai e&&(ck ai sz&&(ck (bG P (aI z)) sz&&(xZ k&&(ce (off+len) es.length&&(po k es&&(ce 1 c.size&&ce 1 len)))))))then
    some {v:=.p (.aC []),al:=[(b,.arr k f e es)],aL:=[(b,.arr k f e (es.take off++bv len (.p z)++es.drop (off+len)))]}else none
   |_,_,_=>none
  |_=>none
 | .unsafeSliceData,[x]=>match x with
  | .p .aH=>some {v:=.p .dR}
  | .sl b aA ai off len=>match H[b]? with
   |some (.arr k f e es)=>bif ck aA f&&ck ai e then
    bif po k es then(bif ce 1 len&&ce (off+len) es.length then some {v:=.b7 b aA ai off [],al:=[(b,.arr k f e es)]}else none)
    else some {v:=.p .dR,al:=[(b,.arr k f e es)]}
    else none
   |_=>none
  |_=>none
 | .unsafeString,[x,.p (.int .i64 (.ofNat n))]=>match x with
  | .p .dR=>bif ck n 0&&ck c.size 2 then some {v:=.p (.str [])}else none
  | .b7 b aA ai i []=>match H[b]? with
   |some (.arr .bytes f e es)=>bif ck aA f&&(ck ai e&&(ck ai 1&&(ck i 0&&(ce 1 n&&(ce n es.length&&(ce n 9223372036854775807&&(ck c.size 2&&(oE (ptrTo P (c.getD 0 0)) Gl.u8&&ck (P.cellsOf Gl.u8) 1))))))))then
    match bytesOf (es.take n)with
    |some l=>some {v:=.p (.str l),al:=[(b,.arr .bytes f e es)],aL:=[(b,.dead)]}
    |none=>none
    else none
   |_=>none
  |_=>none
 |_,_=>none
def Bt(P:a1)(ag:a0->Bool)(o:Oper)(ρ:ay->AV)(H:aj):Option aR:=
 match o.op with
 | .move x| .assign x=>some {v:=ρ x}
 | .pick c a b=>match ρ c with
  | .p (.bool t)=>some {v:=bif t then ρ a else ρ b}
  |_=>none
 | .alloc T=>match b9 P T with
  |some z=>bif sE (kindOf P T) (aI z)&&jM T (aI z)then some {v:=.ptr H.length [],aP:=[.box false (.p z)]}else none
  |none=>none
 | .box T x=>bif sE (kindOf P T) (aa (ρ x))&&jM T (aa (ρ x))then some {v:=.ptr H.length [],aP:=[.box false (ρ x)]}else none
 | .build T parts=>match kindOf P T,b9 P T with
  | .agg u,some z=>match dv P u with
   |some l=>bif sE (aI z) (.agg u)&&xn P l (parts.toList.map fun(i,x)=>(i,ρ x))then some {v:=iK u (iY ((bW z).map .p) (parts.toList.map fun(i,x)=>(i,ρ x)))}else none
   |none=>none
  |_,_=>none
 | .buildSlice T n parts=>match cG P T,b9 P (eE P T)with
  |some sz,some z=>bif ck (bG P (aI z)) sz&&(ce (n*sz) 1000000&&xn P (bv n sz) (parts.toList.map fun(i,x)=>(i,ρ x)))then
   some {v:=.sl H.length 0 sz 0 n,aP:=[.arr .exact 0 sz (iY (bv n (.p z)) (parts.toList.map fun(i,x)=>(i,ρ x)))]}else none
  |_,_=>none
 | .load T a=>Fi P T H (ρ a)
 | .store T a x=>Ed P T H (ρ a) (ρ x)
 | .binOp op T x y _=>match ES P op T (mU y) H (ρ x) (ρ y)with
  |some v=>some {v:=.p v,al:=dJ H (ρ x)}
  |none=>none
 | .unOp op _ x=>match op,ρ x with
  | .not,.p (.bool b)=>some {v:=.p (.bool (!b))}
  | .neg,.p (.int k n)=>some {v:=.p (.int k (k.wrap (0-n)))}
  | .xor,.p (.int k n)=>some {v:=.p (.int k (k.wrap (am k.bits (if k.signed then -1 else k.max)^^^am k.bits n).toNat))}
  |_,_=>none
 | .convert S D x=>match P.underlying S,P.underlying D,ρ x with
  |some _,some (.int k),.p (.int _ n)=>some {v:=.p (.int k (k.wrap n))}
  |some _,some .string,.p (.str s)=>some {v:=.p (.str s)}
  |_,_,_=>none
 | .extract t i=>match ρ t with
  | .p (.aC vs)=>match vs[i]? with
   |some v=>some {v:=.p v}
   |none=>none
  | .aC vs=>match vs[i]? with
   |some v=>some {v}
   |none=>none
  |_=>none
 | .fieldAddr T a f=>CI P T (ρ a) f
 | .indexAddr T x i=>CF P T H (ρ x) (ρ i)
 | .field T x f=>match kindOf P T,P.underlying T,ρ x with
  | .agg u,some (.struct _),.p t=>match(bW t)[f]?,(jS P u)[f]? with
   |some g,some F=>bif sE (aI t) (.agg u)&&sE (kindOf P F) (aI g)then some {v:=.p g}else none
   |_,_=>none
  |_,_,_=>none
 | .index T x i=>match ρ x,ρ i with
  | .p (.str s),.p (.int _ (.ofNat i))=>match s[i]? with
   |some c=>bif ja P T then some {v:=.p (.int .u8 c)}else none
   |none=>none
  | .p (.st u es),.p (.int _ (.ofNat i))=>match iR P T,(jS P u)[i]?,es[i]? with
   |some (u',n),some F,some g=>bif ck u' u&&(ce (i+1) n&&sE (kindOf P F) (aI g))then some {v:=.p g}else none
   |_,_,_=>none
  |_,_=>none
 | .makeFunc (.func f) fi ca=>bif ag f then match fZ H (fi.toList.map ρ),fZ H (ca.toList.map ρ)with
   |some (a,[],[]),some (b,al,aL)=>some {v:=.p (.func f a b),al,aL}
   |_,_=>none
  else match eA (fi.toList.map ρ),eA (ca.toList.map ρ)with
   |some a,some b=>some {v:=.p (.func f a b)}
   |_,_=>some {v:=.func f (fi.toList.map ρ) (ca.toList.map ρ)}
 | .makeSlice T l c=>match cG P T,b9 P (eE P T),ρ l,ρ c with
  |some sz,some z,.p (.int .i64 (.ofNat l)),.p (.int .i64 (.ofNat c))=>bif ck (bG P (aI z)) sz&&(ck l c&&ce l c8)then
   some {v:=.sl H.length 0 sz 0 l,aP:=[.arr .exact 0 sz (bv l (.p z))]}else none
  |_,_,_,_=>none
 | .slice T x lo hi d=>match d with
  |none=>Ef P T H (ρ x) (lo.map ρ) (hi.map ρ) none
  |some m=>DF P T H (ρ x) (lo.map ρ) (hi.map ρ) (ρ m)
 | .makeMap _ none=>some {v:=.map H.length,aP:=[.map false []]}
 | .lookup T x i ok=>Nk P T H (ρ x) (ρ i) ok
 | .mapUpdate T m k x| .insert T m k x=>Nh P T H (ρ m) (ρ k) (ρ x)
 | .range T x=>match ρ x with
  | .p (.str s)=>bif ja P T then some {v:=.ptr H.length [],aP:=[.dG s 0]}else none
  |_=>none
 | .next it true=>RO H (ρ it)
 | .nilCheck x=>match ρ x with
  | .ptr _ _| .b7 _ _ _ _ _| .p (.cm _)=>some {v:=ρ x}
  |_=>none
 | .call c=>match c.callee with
  | .builtin b=>L5 P H b c.argTypes (c.args.toList.map ρ)
  |_=>none
 |_=>none
theorem Ph{o:Oper}{ρ:ay->AV}{H:aj}{e:aR}{K:aR->Prop}(h:Bt P ag o ρ H=some e)(hk:K e):fT P ag o ρ H K:=by
 unfold Bt at h;unfold fT;cases ab:o.op<;>simp only[ab]at h<;>simp only
 case move|assign=>simp only[db]at h;subst h;exact hk
 case pick c a b=>
  split at h
  ·rename_i t hc;simp only[db]at h;subst h;simp only[hc];cases t<;>exact hk
  ·simp at h
 case alloc T=>
  split at h
  ·rename_i z G;simp only[ao,da,db,av]at h;obtain⟨⟨d,j⟩,rfl⟩:=h;simp only[G];exact⟨(jn d).1,(jn d).2,j,hk⟩
  ·simp at h
 case box T x=>
  simp only[ao,da,db,av]at h;obtain⟨⟨d,j⟩,rfl⟩:=h;exact⟨(jn d).1,(jn d).2,j,hk⟩
 case build T parts=>
  split at h
  ·rename_i u z ac G
   split at h
   ·rename_i l E;simp only[ao,da,db,av]at h;obtain⟨⟨d,j⟩,rfl⟩:=h;simp only[ac,G,E];exact⟨(jn d).1,CS j,hk⟩
   ·simp at h
  ·simp at h
 case buildSlice T n parts=>
  split at h
  ·rename_i sz z J G;simp only[ao,da,db,av]at h;obtain⟨⟨d,j,q⟩,rfl⟩:=h;simp only[J,G];exact⟨dE d,cX j,CS q,hk⟩
  ·simp at h
 case load T a=>exact YJ h hk
 case store T a x=>exact WS h hk
 case binOp op T x y ae=>
  split at h
  ·rename_i v L;simp only[db]at h;subst h;exact ZM (K:=fun v=>K {v:=.p v,al:=dJ H (ρ x)}) L hk
  ·simp at h
 case unOp op T x=>
  split at h
  all_goals first
   |(rename_i hx;simp only[db]at h;subst h;simp only[hx];exact hk)
   |simp at h
 case convert S D x=>
  split at h
  ·rename_i d j q;simp only[db]at h;subst h;simp only[d,j,q];exact hk
  ·rename_i d j q;simp only[db]at h;subst h;simp only[d,j,q];exact hk
  ·simp at h
 case extract t i=>
  split at h
  ·rename_i U
   split at h
   ·rename_i L;simp only[db]at h;subst h;simp only[U,L];exact hk
   ·simp at h
  ·rename_i U
   split at h
   ·rename_i L;simp only[db]at h;subst h;simp only[U,L];exact hk
   ·simp at h
  ·simp at h
 case fieldAddr T a f=>exact Us h hk
 case indexAddr T x i=>exact UE h hk
 case field T x f=>
  split at h
  ·rename_i d j q
   split at h
   ·rename_i s w;simp only[ao,da,db,av]at h;obtain⟨⟨B,C⟩,rfl⟩:=h;simp only[d,j,q,s,w];exact⟨(jn B).1,(jn C).1,hk⟩
   ·simp at h
  ·simp at h
 case index T x i=>
  split at h
  ·rename_i d j
   split at h
   ·rename_i c hc;simp only[ao,da,db]at h;obtain⟨q,rfl⟩:=h;obtain⟨hi,rfl⟩:=bf.1 hc;simp only[d,j];exact⟨q,a8 _,hi,hk⟩
   ·simp at h
  ·rename_i u W ak i d j
   split at h
   ·rename_i u' n F g q s w;simp only[ao,da,db,av]at h;obtain⟨⟨g1,g2,g3⟩,rfl⟩:=h;have e:(Int.ofNat i).toNat=i:=rfl;simp only[d,j,e,q,s,w];exact⟨dE g1,a8 _,cX g2,(jn g3).1,hk⟩
   ·simp at h
  ·simp at h
 case makeFunc fn fi ca=>
  cases fn<;>simp only at h<;>try (simp at h;done)
  rename_i f;simp only;simp only[ao]at h
  split at h
  ·rename_i hf;rw[if_pos hf]
   split at h
   ·rename_i d j;simp only[db]at h;subst h;simp only[d,j];exact hk
   ·simp at h
  ·rename_i hf;rw[if_neg hf]
   split at h
   ·rename_i d j;simp only[db]at h;subst h;simp only[d,j];exact hk
   ·rename_i aa;simp only[db]at h;subst h
    split
    ·rename_i d j;exact(aa _ _ d j).elim
    ·exact hk
 case makeSlice T l c=>
  split at h
  ·rename_i d j q s;simp only[ao,da,db,av]at h;obtain⟨⟨w,B,C⟩,rfl⟩:=h;have e:=dE B;simp only[d,j,q,s];refine⟨dE w,a8 _,by rw[e],?_,hk⟩;have:=cX C;show((_:Nat):Int)<=_
   exact_mod_cast this
  ·simp at h
 case slice T x lo hi ad=>
  cases ad with
  |none=>exact WW h hk
  |some m=>exact Ww h hk
 case makeMap T r=>
  cases r<;>simp only at h
  ·simp only[db]at h;subst h;exact hk
  ·simp at h
 case lookup T x i ok=>
  unfold Nk at h
  split at h
  case h_2=>simp at h
  rename_i d j
  split at h
  case h_2=>simp at h
  rename_i z G;simp only[ao,da]at h;obtain⟨q,h⟩:=h;simp only[d,j,G];refine⟨q,?_⟩
  have M:∀r:Option PV,AL ok z r=match r with
    |some v=>if ok=true then .aC [v,.bool true]else v
    |none=>if ok=true then .aC [z,.bool false]else z:=by
   intro r;cases r<;>cases ok<;>rfl
  split at h
  ·rename_i hx;simp only[db]at h;subst h;simp only[hx];rw[M]at hk;exact hk
  ·rename_i hx
   split at h
   ·rename_i r R;simp only[db]at h;subst h;rw[M]at hk;simp only[hx,R];cases r<;>exact hk
   ·simp at h
  ·rename_i hx
   split at h
   ·rename_i A
    split at h
    ·rename_i r R;simp only[db]at h;subst h;rw[M]at hk;simp only[hx,A,R];cases r<;>exact hk
    ·simp at h
   ·simp at h
  ·simp at h
 case mapUpdate T m k x|insert T m k x=>
  unfold Nh at h
  split at h
  case h_2=>simp at h
  rename_i d j q s;simp only[ao,da]at h;obtain⟨w,h⟩:=h;simp only[d,j,q,s];refine⟨w,?_⟩
  split at h
  ·rename_i A
   split at h
   ·rename_i E;simp only[db]at h;subst h;simp only[A,E];exact hk
   ·simp at h
  ·simp at h
 case range T x=>
  split at h
  ·rename_i hx;simp only[ao,da,db]at h;obtain⟨d,rfl⟩:=h;simp only[hx];exact⟨d,hk⟩
  ·simp at h
 case next it isStr=>
  cases isStr<;>simp only at h
  ·simp at h
  unfold RO at h
  split at h
  ·rename_i hx
   split at h
   ·rename_i A;simp only[hx,A];simp only[ao]at h
    split at h
    ·rename_i Q;simp only[db]at h;subst h;rw[if_pos (by have:=cX Q;omega)];exact hk
    ·rename_i Q;simp only[db]at h;subst h;rw[if_neg (fun Z=>Q (cx (Nat.succ_le_of_lt Z)))];exact hk
   ·simp at h
  ·simp at h
 case nilCheck x=>
  split at h
  all_goals first
   |(rename_i hx;simp only[db]at h;subst h;simp only[hx]at hk⊢;exact hk)
   |simp at h
 case call c=>
  split at h
  case h_2=>simp at h
  rename_i b hc;simp only[hc];generalize c.args.toList.map ρ=args at*;generalize c.argTypes=af at*;unfold L5 at h
  split at h
  ·split at h
   ·rename_i E;simp only[ao,da,db,av]at h;obtain⟨⟨d,j⟩,rfl⟩:=h;simp only[E];exact⟨d,cX j,hk⟩
   ·simp at h
  ·simp only[ao,da]at h;exact⟨dE h.1,T7 h.2 hk⟩
  ·split at h
   ·rename_i O;simp only[db]at h;subst h;simp only[O];exact hk
   ·simp at h
  ·split at h
   ·rename_i O;simp only[db]at h;subst h;simp only[O];exact hk
   ·simp at h
  ·split at h
   ·rename_i J Y;simp only[ao,da,av]at h;obtain⟨⟨d,j,q⟩,h⟩:=h;simp only[J,Y];refine⟨dE d,uE j,dE q,?_⟩
    split at h
    ·rename_i A;simp only[da,db]at h;obtain⟨⟨s,w,B,C,I⟩,rfl⟩:=h;simp only[A];exact⟨dE s,dE w,Em B,cX C,xm I,hk⟩
    ·simp at h
   ·simp at h
  ·split at h
   ·rename_i E;simp only[ao,da,db,av]at h;obtain⟨⟨d,j⟩,rfl⟩:=h;simp only[E];exact⟨d,cX j,hk⟩
   ·simp at h
  ·split at h
   ·simp only[ao,da,db,av]at h;obtain⟨⟨d,j⟩,rfl⟩:=h;exact⟨d,cX j,hk⟩
   ·split at h
    ·rename_i J G A;simp only[ao,da,db,av]at h;obtain⟨⟨d,j,q,s,w,B,C,I,N⟩,rfl⟩:=h;simp only[J,G,A];exact⟨dE d,dE j,dE q,dE s,Em w,cX B,xm C,cX I,cX N,hk⟩
    ·simp at h
   ·simp at h
  ·split at h
   ·simp only[db]at h;subst h;exact hk
   ·split at h
    ·rename_i A;simp only[ao,da,av]at h;obtain⟨⟨d,j⟩,h⟩:=h;simp only[A];refine⟨dE d,dE j,?_⟩
     split at h
     ·simp only[da,db]at h;obtain⟨⟨s,w⟩,rfl⟩:=h;exact .inr ⟨cX s,cX w,hk⟩
     ·rename_i V;simp only[db]at h;subst h;rename_i k _ _ W _ _;refine .inl ⟨?_,?_,hk⟩<;>(unfold po at V;split at V<;>simp_all)
    ·simp at h
   ·simp at h
  ·split at h
   ·simp only[ao,da,db,av]at h;obtain⟨⟨d,j⟩,rfl⟩:=h;exact⟨by rw[dE d];rfl,dE j,hk⟩
   ·split at h
    ·rename_i A;simp only[ao,da,av]at h;obtain⟨⟨d,j,q,s,w,B,C,I,N,X⟩,h⟩:=h;have ah:=cX w;have ai:=cX C;simp only[A];refine⟨dE d,dE j,dE q,dE s,by simp;omega,by simpa using cX B,by simp;omega,dE I,xF N,dE X,?_⟩;simp only[a9,bb]
     split at h
     ·rename_i E;simp only[db]at h;subst h;simp only[E];exact hk
     ·simp at h
    ·simp at h
   ·simp at h
  ·simp at h
 all_goals simp at h
end
end Go.ak
namespace Go.ak
variable[Gl]
section
variable(σ:Nat->Nat)
mutual
def cH:AV->AV
 | .p v=>.p v
 | .ptr b path=>.ptr (σ b) path
 | .b7 b aA ai i path=>.b7 (σ b) aA ai i path
 | .sl b aA ai off len=>.sl (σ b) aA ai off len
 | .map b=>.map (σ b)
 | .func f fi ca=>.func f (cU fi) (cU ca)
 | .st u fs=>.st u (cU fs)
 | .aC vs=>.aC (cU vs)
def cU:List AV->List AV
 |[]=>[]
 |v::vs=>cH v::cU vs
end
def uJ:Env->Env
 |[]=>[]
 |(x,v)::r=>(x,cH σ v)::uJ r
def dc:Obj->Obj
 | .box fz t=>.box fz (cH σ t)
 | .arr k aA ai es=>.arr k aA ai (cU σ es)
 | .loop L=>.loop {L with env:=uJ σ L.env}
 |o=>o
end
section
variable{σ:Nat->Nat}
theorem DA:∀(e:Env)(x:Nat),aN (uJ σ e) x=cH σ (aN e x)
 |[],_=>rfl
 |(y,v)::r,x=>by
  simp only[uJ,aN]
  split
  ·rfl
  ·exact DA r x
theorem tK:∀l:List AV,(cU σ l).length=l.length
 |[]=>rfl
 |_::r=>by simp[cU,tK r]
theorem YX{l:List AV}:cU σ l=[]↔l=[]:=by cases l<;>simp[cU]
theorem oI{k:AK}{a:List AV}:di k (cU σ a)↔di k a:=by simp[di,YX]
theorem N1{v:AV}:(cH σ v).tj↔v.tj:=by cases v<;>simp[cH,AV.tj]
theorem XW{v:AV}:aa (cH σ v)=aa v:=by cases v<;>rfl
theorem MG:∀{l:List AV},(∀e∈cU σ l,e.tj)↔∀e∈l,e.tj
 |[]=>by simp[cU]
 |v::r=>by simp[cU,N1,MG (l:=r)]
theorem rH{o:Obj}:(dc σ o).live↔o.live:=by cases o<;>simp[dc,Obj.live,oI]
theorem N8{o:Obj}{v:Nat}:(dc σ o).has v↔o.has v:=by cases o<;>simp[dc,Obj.has]
theorem Yn{o:Obj}:dc σ o=.hole↔o=.hole:=by cases o<;>simp[dc]
mutual
theorem Dd{S:Nat×Nat->Prop}:∀(v:AV),aE S (cH σ v)↔aE (fun x=>S (σ x.1,x.2)) v
 | .p _=>by simp[cH,aE]
 | .ptr _ _| .b7 _ _ _ _ _| .sl _ _ _ _ _| .map _=>by simp[cH,aE]
 | .func _ fi ca=>by simp only[cH,aE];rw[tV fi,tV ca]
 | .st _ fs=>by simp only[cH,aE];exact tV fs
 | .aC vs=>by simp only[cH,aE];exact tV vs
theorem tV{S:Nat×Nat->Prop}:∀(l:List AV),aS S (cU σ l)↔aS (fun x=>S (σ x.1,x.2)) l
 |[]=>by simp[cU,aS]
 |v::r=>by simp only[cU,aS];rw[Dd v,tV r]
end
theorem Xh{S:Nat×Nat->Prop}{o:Obj}:(dc σ o).refs S↔o.refs (fun x=>S (σ x.1,x.2)):=by
 cases o<;>simp only[dc,Obj.refs,Dd,tV,DA]
theorem Obj.refs.mono{S T:Nat×Nat->Prop}(h:∀x,S x->T x){o:Obj}(a:o.refs S):o.refs T:=by
 cases o with
 |box fz t=>exact aE.mono h _ a
 |arr k aA ai es=>exact aS.mono h _ a
 |loop L=>exact fun x=>aE.mono h _ (a x)
 |_=>trivial
structure dY(σ:Nat->Nat)(dX:Bd)(H0:aj)(β:Bd)(H:aj):Prop where
 obj:∀(b:Nat)(o:Obj),H0[b]?=some o->H[σ b]?=some (dc σ o)
 aq:∀b,b<H0.length->β.aq (σ b)=dX.aq b/\β.cap (σ b)=dX.cap b
section
variable{P:a1}{w:a7}{ad:Nat->Prop}{dX β:Bd}{H0 H:aj}
theorem dY.box(h:dY σ dX H0 β H){b:Nat}(a:b<H0.length):nC H (σ b)↔nC H0 b:=by
 have c:=h.obj b _ (be a);have d:=be a;unfold nC;rw[c,d];cases H0[b]<;>simp[dc]
theorem dY.it(h:dY σ dX H0 β H){b:Nat}(a:b<H0.length):nF H (σ b)↔nF H0 b:=by
 have c:=h.obj b _ (be a);have d:=be a;unfold nF;rw[c,d];cases H0[b]<;>simp[dc]
theorem dY.map(h:dY σ dX H0 β H){b:Nat}(a:b<H0.length):nB H (σ b)↔nB H0 b:=by
 have h1:=h.obj b _ (be a);have c:=be a;unfold nB;rw[h1,c];cases H0[b]<;>simp[dc]
theorem dY.loop(h:dY σ dX H0 β H){b:Nat}(a:b<H0.length):iv H (σ b)↔iv H0 b:=by
 have c:=h.obj b _ (be a);have d:=be a;unfold iv;rw[c,d];cases H0[b]<;>simp[dc]
theorem dY.arr(h:dY σ dX H0 β H){b aA ai:Nat}{k:AK}{es:List AV}(a:b<H0.length):fI H (σ b) aA ai k es↔∃ia,fI H0 b aA ai k ia/\es=cU σ ia:=by
 have c:=h.obj b _ (be a);have d:=be a;unfold fI;rw[c,d];cases H0[b]<;>simp[dc];constructor
 ·rintro⟨rfl,rfl,rfl,rfl⟩;exact⟨_,⟨rfl,rfl,rfl,rfl⟩,rfl⟩
 ·rintro⟨_,⟨rfl,rfl,rfl,rfl⟩,rfl⟩;exact⟨rfl,rfl,rfl,rfl⟩
theorem dY.E7(h:dY σ dX H0 β H){x:Nat×Nat}(a:x.1<H0.length):aJ H (σ x.1,x.2)↔aJ H0 x:=by
 have b:=h.obj x.1 _ (be a);have c:=be a;unfold aJ;rw[b,c];simp[N8]
def Small(n:Nat):Nat×Nat->Prop:=fun x=>x.1<n
theorem dY.qO(h:dY σ dX H0 β H):∀{a:AV}{v:a4},aE (Small H0.length) a->(bS P β H (cH σ a) v↔bS P dX H0 a v)
 | .p _,_,_| .func _ _ _,_,_| .st _ _,_,_| .aC _,_,_=>by simp[cH,bS]
 | .ptr b path,v,c=>by
  simp only[aE,Small]at c;simp only[cH,bS,h.box c,h.it c,(h.aq b c).1]
 | .b7 b aA ai i path,v,c=>by
  simp only[aE,Small]at c;simp only[cH,bS,h.arr c,(h.aq b c).1];constructor
  ·rintro⟨aq,off,o,f,g,j⟩;exact⟨aq,off,o,f,g,fun k d e m=>j k _ ⟨d,e,rfl⟩ (by rwa [oI])⟩
  ·rintro⟨aq,off,o,f,g,j⟩;refine⟨aq,off,o,f,g,?_⟩;rintro k _ ⟨d,e,rfl⟩ m;exact j k d e (by rwa [oI]at m)
 | .sl b aA ai off len,v,c=>by
  simp only[aE,Small]at c;simp only[cH,bS,h.arr c,(h.aq b c).1,(h.aq b c).2];constructor
  ·intro l k d e;have:=l k _ ⟨d,e,rfl⟩;simpa only[tK,oI]using this
  ·rintro l k _ ⟨d,e,rfl⟩;have:=l k d e;simpa only[tK,oI]using this
 | .map b,v,c=>by
  simp only[aE,Small]at c;simp only[cH,bS,h.map c,h.loop c,(h.aq b c).1]
mutual
theorem dY.Oq(h:dY σ dX H0 β H):∀(a:AV)(cs:List a4),aE (Small H0.length) a->(bu P w ad β H (cH σ a) cs↔bu P w ad dX H0 a cs)
 | .p _,_,_=>by simp[cH,bu]
 | .aC _,_,_=>by simp[cH,bu]
 | .st u fs,cs,d=>by
  simp only[aE]at d;simp only[cH,bu];exact exists_congr fun l=>exists_congr fun e=>and_congr_right fun _=>and_congr_left fun _=>dY.AO h l fs e d
 | .func f fi ca,cs,d=>by
  simp only[aE]at d;simp only[cH,bu];exact exists_congr fun l=>exists_congr fun e=>and_congr (dY.s8 h fi l d.1) (and_congr_left fun _=>dY.s8 h ca e d.2)
 | .ptr b path,cs,d=>by
  have:=fun v=>h.qO (P:=P) (a:=.ptr b path) (v:=v) d;simp only[cH,bu,bO]at this⊢;simp only[this]
 | .b7 b aA ai i path,cs,d=>by
  have:=fun v=>h.qO (P:=P) (a:=.b7 b aA ai i path) (v:=v) d;simp only[cH,bu,bO]at this⊢;simp only[this]
 | .sl b aA ai off len,cs,d=>by
  have:=fun v=>h.qO (P:=P) (a:=.sl b aA ai off len) (v:=v) d;simp only[cH,bu,bO]at this⊢;simp only[this]
 | .map b,cs,d=>by
  have:=fun v=>h.qO (P:=P) (a:=.map b) (v:=v) d;simp only[cH,bu,bO]at this⊢;simp only[this]
theorem dY.AO(h:dY σ dX H0 β H):∀(g:List Nat)(l:List AV)(e:List (List a4)),aS (Small H0.length) l->(bM P w ad β H g (cU σ l) e↔bM P w ad dX H0 g l e)
 |[],[],e,_=>by simp[cU,bM]
 |[],_::_,e,_=>by simp[cU,bM]
 |_::_,[],e,_=>by simp[cU,bM]
 |n::g,v::vs,e,d=>by
  simp only[aS]at d;simp only[cU,bM];exact exists_congr fun c=>exists_congr fun cs=>and_congr_right fun _=>and_congr (dY.Oq h v c d.1) (and_congr_right fun _=>dY.AO h g vs cs d.2)
theorem dY.EH(h:dY σ dX H0 β H):∀(a:AV)(v:a4),aE (Small H0.length) a->(aB P w ad β H (cH σ a) v↔aB P w ad dX H0 a v)
 | .p _,_,_=>by simp[cH,aB]
 | .aC vs,_,d=>by
  simp only[aE]at d;simp only[cH,aB];exact exists_congr fun l=>and_congr_left fun _=>dY.s8 h vs l d
 | .st u fs,cs,d=>by
  simp only[aE]at d;simp only[cH,aB];exact exists_congr fun l=>exists_congr fun e=>and_congr_right fun _=>and_congr_left fun _=>dY.AO h l fs e d
 | .func f fi ca,cs,d=>by
  simp only[aE]at d;simp only[cH,aB];exact exists_congr fun l=>exists_congr fun e=>and_congr (dY.s8 h fi l d.1) (and_congr_left fun _=>dY.s8 h ca e d.2)
 | .ptr b path,v,d=>by
  have:=h.qO (P:=P) (a:=.ptr b path) (v:=v) d;simp only[cH,aB,bO]at this⊢;simp only[this]
 | .b7 b aA ai i path,v,d=>by
  have:=h.qO (P:=P) (a:=.b7 b aA ai i path) (v:=v) d;simp only[cH,aB,bO]at this⊢;simp only[this]
 | .sl b aA ai off len,v,d=>by
  have:=h.qO (P:=P) (a:=.sl b aA ai off len) (v:=v) d;simp only[cH,aB,bO]at this⊢;simp only[this]
 | .map b,v,d=>by
  have:=h.qO (P:=P) (a:=.map b) (v:=v) d;simp only[cH,aB,bO]at this⊢;simp only[this]
theorem dY.s8(h:dY σ dX H0 β H):∀(l:List AV)(vs:List a4),aS (Small H0.length) l->(bI P w ad β H (cU σ l) vs↔bI P w ad dX H0 l vs)
 |[],vs,_=>by simp[cU,bI]
 |a::l,vs,d=>by
  simp only[aS]at d;simp only[cU,bI];exact exists_congr fun y=>exists_congr fun j=>and_congr_right fun _=>and_congr (dY.EH h a y d.1) (dY.s8 h l j d.2)
end
theorem dY.RY(h:dY σ dX H0 β H){ah Prot0:Nat->Prop}{b:Nat}{o:Obj}(f:H0[b]?=some o)(e:o.refs (Small H0.length))(a:o.live->∀fz,cJ ad dX Prot0 fz b↔cJ ad β ah fz (σ b)):
 fG P w ad β H ah (σ b) (dc σ o)↔fG P w ad dX H0 Prot0 b o:=by
 have g:b<H0.length:=(bf.1 f).1;obtain⟨k1,k2⟩:=h.aq b g;cases o with
 |hole=>simp[dc,fG]
 |dead=>simp[dc,fG]
 |box fz t=>
  simp only[dc,fG,k1,<-a trivial,h.Oq t _ e,N1,XW]
 |arr k aA ai es=>
  simp only[dc,fG,k1,k2,oI,tK,MG]
  by_cases c:di k es
  ·simp[c]
  ·simp only[c,false_or,<-a c,h.AO _ es _ e]
 |map fz es=>
  simp only[dc,fG,k1,<-a trivial]
 |dG s pos=>
  simp only[dc,fG,k1,<-a trivial]
 |loop L=>
  simp only[dc,fG,k1,<-a trivial,DA];exact exists_congr fun t=>exists_congr fun d=>exists_congr fun fn=>and_congr_right fun _=>and_congr_right fun _=>and_congr_left fun _=>forall_congr' fun x=>h.EH _ _ (e x)
end
end
end Go.ak
namespace Go.ak
variable[Gl]
def sig(bs:List Nat)(a i:Nat):Nat:=match bs[i]? with
 |some b=>b
 |none=>a+(i-bs.length)
theorem uj{bs:List Nat}{a i:Nat}(h:i<bs.length):sig bs a i=bs[i]:=by simp[sig,h]
theorem uk{bs:List Nat}{a i:Nat}(h:bs.length<=i):sig bs a i=a+(i-bs.length):=by simp[sig,h]
theorem aLd{bs:List Nat}{a:Nat}(e:bs.Nodup)(d:∀b∈bs,b<a){i j:Nat}(h:sig bs a i=sig bs a j):i=j:=by
 by_cases hi:i<bs.length<;>by_cases c:j<bs.length
 ·rw[uj hi,uj c]at h;exact(List.getElem_inj e).1 h
 ·rw[uj hi,uk (by omega)]at h;have:=d _ (b5 hi);omega
 ·rw[uk (by omega),uj c]at h;have:=d _ (b5 c);omega
 ·rw[uk (by omega),uk (by omega)]at h;omega
theorem rS:∀{l:List (Nat×Obj)}{H:aj}{x:Nat},(∀p∈l,p.1≠x)->(bm H l)[x]?=H[x]?
 |[],_,_,_=>rfl
 |(b,o)::r,H,x,h=>by
  simp only[bm];rw[rS (fun p a=>h p (by simp[a])),List.getElem?_set_ne (h (b,o) (by simp))]
theorem uF:∀{l:List (Nat×Obj)}{H:aj},(l.map (·.1)).Nodup->∀p∈l,p.1<H.length->(bm H l)[p.1]?=some p.2
 |[],_,_,_,h,_=>by simp at h
 |(b,o)::r,H,a,p,c,d=>by
  simp only[cc,cb]at a;simp only[bm];rcases bi.1 c with rfl|c
  ·rw[rS (fun q hq e=>a.1 (b1.2 ⟨q,hq,e⟩)),List.getElem?_set_self d]
  ·exact uF a.2 p c (by simpa using d)
theorem CT(a:Nat):∀(l:List Obj),(newAt a l).map (·.1)=List.range' a l.length
 |[]=>rfl
 |o::r=>by simp[newAt,CT (a+1) r,List.range'_succ]
theorem KG:∀(l:List Obj)(a j:Nat)(h:j<l.length),(a+j,l[j])∈newAt a l
 |[],_,_,h=>by simp at h
 |o::r,a,0,h=>by simp[newAt]
 |o::r,a,j+1,h=>by
  have:=KG r (a+1) j (by simpa using h);simp only[newAt,List.getElem_cons_succ,bi];right;have e:a+(j+1)=a+1+j:=by omega
  rw[e];exact this
section
variable{P:a1}{w w':a7}{ad aF ah:Nat->Prop}{β aK:Bd}{H H':aj}
theorem fG.mut{b:Nat}{o:Obj}(h:fG P w ad β H ah b o)(f:o.live)(j:¬ad (β.aq b)):¬ah (β.aq b):=by
 have held:∀{fz},cJ ad β ah fz b->¬ah (β.aq b):=by
  intro fz g;cases fz with
  |true=>exact(j (by simpa[cJ]using g)).elim
  |false=>
   have:¬ad (β.aq b)/\¬ah (β.aq b):=by simpa[cJ]using g
   exact this.2
 cases o with
 |hole=>exact f.elim
 |dead=>exact f.elim
 |box fz t=>
  obtain⟨cs,T,c,d,a,e⟩:=h;exact held a
 |arr k aA ai es=>
  rcases h with h|⟨cs,T,l,rest,c,d,a,e,n,p,i,q⟩
  ·exact(f h).elim
  ·exact held i
 |map fz es=>
  obtain⟨m,clock,c,d,a⟩:=h;exact held a
 |dG s pos=>
  obtain⟨bs,c,d,a⟩:=h;exact held a
 |loop L=>
  obtain⟨tmps,defers,fn,c,d,a,e⟩:=h;exact held e
theorem fG.carry(hi:∀k,ad k->aF k)(hs:∀k,ad k->w'.heap[k]?=w.heap[k]?)(aM:cz β H aK H'){b:Nat}{o:Obj}(m:o.refs (aJ H))
 (j:o.live->w'.heap[β.aq b]?=w.heap[β.aq b]?/\aK.aq b=β.aq b/\aK.cap b=β.cap b)(held:o.live->∀fz,cJ ad β ah fz b->cJ aF aK ah fz b)(h:fG P w ad β H ah b o):fG P w' aF aK H' ah b o:=by
 cases o with
 |hole=>trivial
 |dead=>trivial
 |box fz t=>
  obtain⟨cs,T,d,e,f,i⟩:=h;obtain⟨a,c,g⟩:=j trivial;exact⟨cs,T,by rw[c,a];exact d,bu.mono hi hs aM _ _ m e,held trivial _ f,i⟩
 |arr k aA ai es=>
  rcases h with h|⟨cs,T,n,rest,d,e,f,i,q,r,u,v⟩
  ·exact .inl h
  ·by_cases l:di k es
   ·exact .inl l
   ·obtain⟨a,c,g⟩:=j l;exact .inr ⟨cs,T,n,rest,by rw[c,a];exact d,bM.mono hi hs aM _ _ _ m e,f,by rw[g];exact i,by rw[g];exact q,by rw[g];exact r,held l _ u,v⟩
 |map fz es=>
  obtain⟨p,clock,d,e,f⟩:=h;obtain⟨a,c,g⟩:=j trivial;exact⟨p,clock,by rw[c,a];exact d,cK.mono hi hs _ _ e,held trivial _ f⟩
 |dG s pos=>
  obtain⟨bs,d,e,f⟩:=h;obtain⟨a,c,g⟩:=j trivial;exact⟨bs,by rw[c,a];exact d,e,held trivial _ f⟩
 |loop L=>
  obtain⟨tmps,defers,fn,d,e,f,i⟩:=h;obtain⟨a,c,g⟩:=j trivial;exact⟨tmps,defers,fn,by rw[c,a];exact d,e,fun x=>aB.mono hi hs aM _ _ (m x) (f x),held trivial _ i⟩
def dH(bs:List Nat)(a:Nat)(H0 bU:aj)(b:AV):aR:=
 {v:=cH (sig bs a) b,al:=bs.zip (H0.map (dc (sig bs a))),aL:=bs.zip ((bU.take H0.length).map (dc (sig bs a))),aP:=(bU.drop H0.length).map (dc (sig bs a))}
open Classical in
theorem Kn{H0 bU:aj}{gd:List AV}{v0:AV}(bs:List Nat)(base:Nat)(hlen:bs.length=H0.length)(hnd:bs.Nodup)(hlt:∀b∈bs,b<base)
 (hl:H0.length<=bU.length)(ha:aS (aJ H0) gd)(ho:∀(b:Nat)(o:Obj),H0[b]?=some o->o.refs (aJ H0))
 {H:aj}{w:a7}{ad ah:Nat->Prop}{β:Bd}{cargs:List a4}(hr:bV P w ad β H ah)(hargs:bI P w ad β H (cU (sig bs base) gd) cargs)
 (al:∀p∈(dH bs base H0 bU v0).al,H[p.1]?=some p.2)(aP:∀i,i<(dH bs base H0 bU v0).aP.length->H[base+i]?=some .hole):
 ∃(dX:Bd)(Prot0:Nat->Prop),(∀b,dX.aq b=β.aq (sig bs base b))/\bV P w ad dX H0 Prot0/\bI P w ad dX H0 gd cargs/\(∀b,b<H0.length->(iv H (sig bs base b)↔iv H0 b))/\
  ∀(cv:a4)(w':a7)(β0':Bd)(aF:Nat->Prop),bZ P Prot0 ad w dX H0 aF w' β0' bU->aB P w' aF β0' bU v0 cv->aE (aJ bU) v0->
   ∃aK,bZ P ah ad w β H aF w' aK (bm H ((dH bs base H0 bU v0).aL++newAt base (dH bs base H0 bU v0).aP))/\
    aB P w' aF aK (bm H ((dH bs base H0 bU v0).aL++newAt base (dH bs base H0 bU v0).aP)) (dH bs base H0 bU v0).v cv/\
    aE (aJ (bm H ((dH bs base H0 bU v0).aL++newAt base (dH bs base H0 bU v0).aP))) (dH bs base H0 bU v0).v:=by
 obtain⟨σ,hσ⟩:∃σ,σ=sig bs base:=⟨_,rfl⟩
 have hinj:∀{i j},σ i=σ j->i=j:=fun{i j} h=>aLd hnd hlt (by rw[hσ]at h;exact h);have hold:∀{i}(hi:i<H0.length),σ i=bs[i]'(by omega):=fun hi=>by rw[hσ];exact uj _
 have hnw:∀{i},H0.length<=i->σ i=base+(i-H0.length):=fun hi=>by rw[hσ,uk (by omega),hlen]
 have hget:∀(b:Nat)(o:Obj),H0[b]?=some o->H[σ b]?=some (dc σ o):=by
  intro b o hb;obtain⟨hbl,rfl⟩:=bf.1 hb;have:=al (bs[b]'(by omega),dc (sig bs base) H0[b]) (by
   simp only[dH];rw[bl];exact⟨b,by simp;omega,by simp⟩)
  rw[hold hbl,hσ];exact this
 have hnewH:∀i,H0.length<=i->i<bU.length->H[σ i]?=some .hole:=by
  intro i h1 h2;rw[hnw h1];exact aP (i-H0.length) (by simp[dH];omega)
 obtain⟨H2,hH2⟩:∃H2,H2=bm H ((dH bs base H0 bU v0).aL++newAt base (dH bs base H0 bU v0).aP):=⟨_,rfl⟩
 have hkeys:∀p∈(dH bs base H0 bU v0).aL++newAt base (dH bs base H0 bU v0).aP,∃i,i<bU.length/\p.1=σ i:=by
  intro p hp;rcases List.mem_append.1 hp with hp|hp
  ·simp only[dH]at hp;have hm:=(b0 hp).1;obtain⟨i,hi,he⟩:=bl.1 hm;exact⟨i,by omega,by rw[hold (by omega)];exact he.symm⟩
  ·have hm:p.1∈(newAt base (dH bs base H0 bU v0).aP).map (·.1):=List.mem_map_of_mem hp
   rw[CT,b4]at hm;simp only[dH,List.length_map,List.length_drop]at hm;exact⟨H0.length+(p.1-base),by omega,by rw[hnw (by omega)];omega⟩
 have hndk:(((dH bs base H0 bU v0).aL++newAt base (dH bs base H0 bU v0).aP).map (·.1)).Nodup:=by
  rw[List.map_append,CT];have e:(dH bs base H0 bU v0).aL.map (·.1)=bs:=by
   simp only[dH];rw[List.map_fst_zip];simp;omega
  rw[e,List.nodup_append];refine⟨hnd,List.nodup_range',fun a h1 b h2 he=>?_⟩;subst he;have:=hlt _ h1;rw[b4]at h2;omega
 have hA:∀(i:Nat)(o:Obj),bU[i]?=some o->H2[σ i]?=some (dc σ o):=by
  intro i o hi;obtain⟨hil,rfl⟩:=bf.1 hi
  by_cases hi0:i<H0.length
  ·have hm:(bs[i]'(by omega),dc (sig bs base) bU[i])∈(dH bs base H0 bU v0).aL++newAt base (dH bs base H0 bU v0).aP:=by
    refine List.mem_append_left _ ?_;simp only[dH];rw[bl];exact⟨i,by simp;omega,by simp⟩
   have:=uF (H:=H) hndk _ hm (by
    have:=hget i _ (be hi0);rw[hold hi0]at this;exact(bf.1 this).1)
   rw[hH2,hold hi0,this,hσ]
  ·have hm:(base+(i-H0.length),dc (sig bs base) bU[i])∈(dH bs base H0 bU v0).aL++newAt base (dH bs base H0 bU v0).aP:=by
    refine List.mem_append_right _ ?_;have:=KG (dH bs base H0 bU v0).aP base (i-H0.length) (by simp[dH];omega);have e:(dH bs base H0 bU v0).aP[i-H0.length]'(by simp[dH];omega)=dc (sig bs base) bU[i]:=by
     simp only[dH,List.getElem_map,List.getElem_drop];congr 2;omega
    rw[e]at this;exact this
   have:=uF (H:=H) hndk _ hm (by
    have:=hnewH i (by omega) hil;rw[hnw (by omega)]at this;exact(bf.1 this).1)
   rw[hH2,hnw (by omega),this,hσ]
 have hB:∀x,(∀i,i<bU.length->σ i≠x)->H2[x]?=H[x]?:=by
  intro x hx;rw[hH2];refine rS fun p hp=>?_;obtain⟨i,h1,h2⟩:=hkeys p hp;rw[h2];exact hx i h1
 let dX:Bd:=⟨fun b=>β.aq (σ b),fun b=>β.cap (σ b)⟩
 let Prot0:Nat->Prop:=fun k=>ah k\/∃x o,H[x]?=some o/\o.live/\(∀i,i<H0.length->σ i≠x)/\β.aq x=k
 have hemb:dY σ dX H0 β H:=⟨hget,fun b _=>⟨rfl,rfl⟩⟩
 have small:∀x:Nat×Nat,aJ H0 x->Small H0.length x:=fun x⟨o,ho,_⟩=>(bf.1 ho).1;have held0:∀{b:Nat}{o:Obj},H0[b]?=some o->o.live->∀fz,cJ ad dX Prot0 fz b↔cJ ad β ah fz (σ b):=by
  intro b o hb hlv fz;cases fz with
  |true=>simp[cJ,dX]
  |false=>
   simp only[cJ,ax,if_false];refine and_congr_right fun hni=>⟨fun h hp=>h (.inl hp),fun h hp=>?_⟩
   rcases hp with hp|⟨x,o',h1,h2,h3,h4⟩
   ·exact h hp
   ·exact h3 b (bf.1 hb).1 (hr.inj _ _ _ _ (hget b o hb) h1 (rH.2 hlv) h2 hni h4.symm)
 have hr0:bV P w ad dX H0 Prot0:=by
  refine⟨fun b o hb=>?_,fun b b' o o' h1 h2 l1 l2 hni he=>?_,ho,hr.bQ,fun k hk=>?_,hr.iT⟩
  ·exact(hemb.RY hb ((ho b o hb).mono small) (held0 hb)).1 (hr.cM _ _ (hget b o hb))
  ·exact hinj (hr.inj _ _ _ _ (hget b o h1) (hget b' o' h2) (rH.2 l1) (rH.2 l2) hni he)
  ·rcases hk with hk|⟨x,o,h1,h2,_,rfl⟩
   ·exact hr.eC k hk
   ·exact hr.ny h1 h2
 have hargs0:bI P w ad dX H0 gd cargs:=by
  rw[<-hσ]at hargs;exact(hemb.s8 _ _ (aS.mono small _ ha)).1 hargs
 refine⟨dX,Prot0,fun b=>by rw[<-hσ],hr0,hargs0,fun b hb=>by rw[<-hσ];exact hemb.loop hb,fun cv w' β0' aF hp hv hvr=>?_⟩
 let aK:Bd:=⟨fun x=>if h:∃i,i<bU.length/\σ i=x then β0'.aq h.choose else β.aq x,fun x=>if h:∃i,i<bU.length/\σ i=x then β0'.cap h.choose else β.cap x⟩
 have hβ:∀i,i<bU.length->aK.aq (σ i)=β0'.aq i/\aK.cap (σ i)=β0'.cap i:=by
  intro i hi;have hex:∃j,j<bU.length/\σ j=σ i:=⟨i,hi,rfl⟩
  have hc:hex.choose=i:=hinj hex.choose_spec.2;simp only[aK,dif_pos hex,hc,and_self]
 have hβn:∀x,(∀i,i<bU.length->σ i≠x)->aK.aq x=β.aq x/\aK.cap x=β.cap x:=by
  intro x hx;have hnex:¬∃i,i<bU.length/\σ i=x:=fun⟨i,h1,h2⟩=>hx i h1 h2;simp only[aK,dif_neg hnex,and_self]
 have hemb':dY σ β0' bU aK H2:=⟨hA,fun b hb=>hβ b hb⟩
 have small':∀x:Nat×Nat,aJ bU x->Small bU.length x:=fun x⟨o,ho,_⟩=>(bf.1 ho).1;have split:∀x,(∃i,i<bU.length/\σ i=x)\/∀i,i<bU.length->σ i≠x:=by
  intro x
  by_cases hx:∃i,i<bU.length/\σ i=x
  ·exact .inl hx
  ·exact .inr fun i h1 h2=>hx ⟨i,h1,h2⟩
 have inOld:∀{i v},i<bU.length->aJ H (σ i,v)->aJ H0 (i,v)/\i<H0.length:=by
  intro i v hi ⟨o,h1,h2⟩
  by_cases hi0:i<H0.length
  ·refine⟨?_,hi0⟩;have:=hget i _ (be hi0);simp only at h1;rw[this]at h1;cases h1;exact⟨_,be hi0,N8.1 h2⟩
  ·have:=hnewH i (by omega) hi;simp only at h1;rw[this]at h1;cases h1;exact h2.elim
 have iD:cz β H aK H2:=by
  refine⟨?_,?_,?_,?_,?_⟩
  ·intro b hb hlv;rcases split b with⟨i,hi,rfl⟩|hx
   ·obtain⟨k1,k2⟩:=inOld hi hb;obtain⟨g1,g2⟩:=hp.step.box i k1 ((hemb'.box hi).1 hlv);exact⟨(hemb.box k2).2 g1,(hβ i hi).1.trans g2⟩
   ·unfold nC at hlv⊢;rw[hB b hx]at hlv;exact⟨hlv,(hβn b hx).1⟩
  ·intro b hb hlv;rcases split b with⟨i,hi,rfl⟩|hx
   ·obtain⟨k1,k2⟩:=inOld hi hb;obtain⟨g1,g2⟩:=hp.step.it i k1 ((hemb'.it hi).1 hlv);exact⟨(hemb.it k2).2 g1,(hβ i hi).1.trans g2⟩
   ·unfold nF at hlv⊢;rw[hB b hx]at hlv;exact⟨hlv,(hβn b hx).1⟩
  ·intro b hb hlv;rcases split b with⟨i,hi,rfl⟩|hx
   ·obtain⟨k1,k2⟩:=inOld hi hb;obtain⟨g1,g2⟩:=hp.step.map i k1 ((hemb'.map hi).1 hlv);exact⟨(hemb.map k2).2 g1,(hβ i hi).1.trans g2⟩
   ·unfold nB at hlv⊢;rw[hB b hx]at hlv;exact⟨hlv,(hβn b hx).1⟩
  ·intro b aA ai k es hb hlv;rcases split b with⟨i,hi,rfl⟩|hx
   ·obtain⟨k1,k2⟩:=inOld hi hb;obtain⟨ia,g0,rfl⟩:=(hemb'.arr hi).1 hlv;obtain⟨k0,es1,g1,g2,g3,g4⟩:=hp.step.arr i aA ai k ia k1 g0;refine⟨k0,cU σ es1,(hemb.arr k2).2 ⟨_,g1,rfl⟩,by rw[tK,tK];exact g2,by rw[oI,oI];exact g3,fun hn=>?_⟩;rw[oI]at hn;rw[(hβ i hi).1,(hβ i hi).2];exact g4 hn
   ·unfold fI at hlv⊢;rw[hB b hx]at hlv;exact⟨k,es,hlv,Nat.le_refl _,Iff.rfl,fun _=>hβn b hx⟩
  ·intro b hb hlv;rcases split b with⟨i,hi,rfl⟩|hx
   ·obtain⟨k1,k2⟩:=inOld hi hb;obtain⟨g1,g2⟩:=hp.step.loop i k1 ((hemb'.loop hi).1 hlv);exact⟨(hemb.loop k2).2 g1,(hβ i hi).1.trans g2⟩
   ·unfold iv at hlv⊢;rw[hB b hx]at hlv;exact⟨hlv,(hβn b hx).1⟩
 have hinn:∀x,aJ H x->aJ H2 x:=by
  rintro⟨b,v⟩ hb;rcases split b with⟨i,hi,rfl⟩|hx
  ·obtain⟨k1,_⟩:=inOld hi hb;exact(hemb'.E7 (x:=(i,v)) hi).2 (hp.fy _ k1)
  ·obtain⟨o,h1,h2⟩:=hb;exact⟨o,by simp only;rw[hB b hx];exact h1,h2⟩
 have prot0:∀{x:Nat}{o:Obj},(∀i,i<bU.length->σ i≠x)->H[x]?=some o->o.live->Prot0 (β.aq x):=by
  intro x o hx h1 h2;exact .inr ⟨x,o,h1,h2,fun i hi=>hx i (by omega),rfl⟩
 have mut':∀{i:Nat}{o:Obj},bU[i]?=some o->o.live->¬aF (β0'.aq i)->¬Prot0 (β0'.aq i):=by
  intro i o h1 h2 h3;exact(hp.rel.cM i o h1).mut h2 h3
 have hrel:bV P w' aF aK H2 ah:=by
  refine⟨fun x o hx=>?_,fun x x' o o' h1 h2 l1 l2 hni he=>?_,fun x o hx=>?_,hp.rel.bQ,fun k hk=>hp.rel.eC k (.inl hk),hp.rel.iT⟩
  ·rcases split x with⟨i,hi,rfl⟩|hn
   ·have hg:=hA i _ (be hi);rw[hg]at hx;cases hx;refine(hemb'.RY (Prot0:=Prot0) (be hi) ((hp.rel.refs i _ (be hi)).mono small') (fun hlv fz=>?_)).2 (hp.rel.cM i _ (be hi));cases fz with
    |true=>simp[cJ,(hβ i hi).1]
    |false=>
     simp only[cJ,ax,if_false,(hβ i hi).1];exact⟨fun h=>⟨h.1,fun hp=>h.2 (.inl hp)⟩,fun h=>⟨h.1,mut' (be hi) hlv h.1⟩⟩
   ·rw[hB x hn]at hx;refine fG.carry hp.bQ (fun k hk=>hp.ext.same k (.inr hk)) iD (hr.refs x o hx) (fun hlv=>⟨hp.ext.same _ (.inl (prot0 hn hx hlv)),hβn x hn⟩) (fun hlv fz hh=>?_) (hr.cM x o hx);have hp0:=prot0 hn hx hlv;cases fz with
    |true=>
     simp only[cJ,if_true]at hh⊢;rw[(hβn x hn).1];exact hp.bQ _ hh
    |false=>
     simp only[cJ,ax,if_false]at hh⊢;rw[(hβn x hn).1];exact⟨fun hi=>(hp.fresh _ hi).elim hh.1 (fun h=>h hp0),hh.2⟩
  ·rcases split x with⟨i,hi,rfl⟩|hn<;>rcases split x' with⟨j,hj,rfl⟩|hn'
   ·have g1:=hA i _ (be hi);have g2:=hA j _ (be hj);rw[g1]at h1;cases h1;rw[g2]at h2;cases h2;rw[(hβ i hi).1,(hβ j hj).1]at he;rw[(hβ i hi).1]at hni;rw[hp.rel.inj i j _ _ (be hi) (be hj) (rH.1 l1) (rH.1 l2) hni he]
   ·have g1:=hA i _ (be hi);rw[g1]at h1;cases h1;rw[hB x' hn']at h2;rw[(hβ i hi).1,(hβn x' hn').1]at he;rw[(hβ i hi).1]at hni;exact(mut' (be hi) (rH.1 l1) hni (he▸prot0 hn' h2 l2)).elim
   ·have g2:=hA j _ (be hj);rw[g2]at h2;cases h2;rw[hB x hn]at h1;rw[(hβ j hj).1,(hβn x hn).1]at he;rw[(hβn x hn).1]at hni;exact(mut' (be hj) (rH.1 l2) (he▸hni) (he▸prot0 hn h1 l1)).elim
   ·rw[hB x hn]at h1;rw[hB x' hn']at h2;rw[(hβn x hn).1,(hβn x' hn').1]at he;rw[(hβn x hn).1]at hni;exact hr.inj _ _ _ _ h1 h2 l1 l2 (fun hi=>hni (hp.bQ _ hi)) he
  ·rcases split x with⟨i,hi,rfl⟩|hn
   ·have hg:=hA i _ (be hi);rw[hg]at hx;cases hx;rw[Xh];exact(hp.rel.refs i _ (be hi)).mono (fun y hy=>(hemb'.E7 (small' y hy)).2 hy)
   ·rw[hB x hn]at hx;exact(hr.refs x o hx).mono hinn
 refine⟨aK,?_,?_,?_⟩
 ·rw[<-hH2];refine⟨hp.bQ,fun k hk=>(hp.fresh k hk).imp id (fun h h'=>h (.inl h')),⟨hp.ext.size,fun k hk=>hp.ext.same k (hk.imp .inl id),hp.ext.io⟩,iD,hrel,hinn,fun b hb=>?_⟩;rcases split b with⟨i,hi,rfl⟩|hx
  ·by_cases hi0:i<H0.length
   ·exact(hemb'.loop hi).2 (hp.loop i ((hemb.loop hi0).1 hb))
   ·obtain⟨L,hL⟩:=hb;rw[hnewH i (by omega) hi]at hL;cases hL
  ·unfold iv at hb⊢;rw[hB b hx];exact hb
 ·rw[<-hH2];show aB P w' aF aK H2 (cH (sig bs base) v0) cv;rw[<-hσ];exact(hemb'.EH _ _ (aE.mono small' _ hvr)).2 hv
 ·rw[<-hH2];show aE (aJ H2) (cH (sig bs base) v0);rw[<-hσ,Dd];exact aE.mono (fun y hy=>(hemb'.E7 (small' y hy)).2 hy) _ hvr
theorem cS.frame{f:a0}{H0 bU:aj}{gd:List AV}{g:AV}(h:cS P f H0 gd bU g)(bs:List Nat)(a:Nat)(r:bs.length=H0.length)(t:bs.Nodup)(s:∀b∈bs,b<a)
 (q:H0.length<=bU.length)(d:aS (aJ H0) gd)(u:∀(b:Nat)(o:Obj),H0[b]?=some o->o.refs (aJ H0)):
 sX P f (cU (sig bs a) gd) a (dH bs a H0 bU g):=by
 refine⟨h.1,fun H w ad ah β m x n _ al aP=>?_⟩;obtain⟨dX,i,-,y,p,-,back⟩:=Kn bs a r t s q d u x n al aP;refine(h.2 w ad i dX m y p d).mono ?_;rintro e w' ⟨c,B,aF,rfl,v,z,A⟩;obtain⟨aK,j,k,l⟩:=back c w' B aF v z A;exact⟨c,aK,aF,rfl,j,k,l⟩
theorem fJ.frame{b:Nat}{H0 bU:aj}{gd:List AV}{i:AV}(h:fJ P b H0 gd bU i)(bs:List Nat)(a:Nat)(x:bs.length=H0.length)(A:bs.Nodup)(z:∀b∈bs,b<a)
 (v:H0.length<=bU.length)(g:aS (aJ H0) gd)(B:∀(b:Nat)(o:Obj),H0[b]?=some o->o.refs (aJ H0)):
 oU P (sig bs a b) (cU (sig bs a) gd) a (dH bs a H0 bU i):=by
 intro H w ad ah β p D r _ al aP;obtain⟨dX,j,t,E,s,y,back⟩:=Kn bs a x A z v g B D r al aP;have u:b<H0.length:=by
  obtain⟨L,q⟩:=h.1;exact(bf.1 q).1
 refine⟨(y b u).2 h.1,?_⟩;obtain⟨f,tmps,assign,body,d,e⟩:=h.2 w ad j dX p E s g;rw[t]at d e;refine⟨f,tmps,assign,body,d,fun n I=>?_⟩;obtain⟨c,w',J,aF,g1,C,F,G⟩:=e n I;obtain⟨aK,k,l,m⟩:=back c w' J aF C F G;exact⟨c,w',aK,aF,g1,k,l,m⟩
end
end Go.ak
namespace Go.ak
variable[Gl]
def lB(b:Nat):List Nat->Nat->Option Nat
 |[],_=>none
 |x::r,i=>bif ck x b then some i else lB b r (i+1)
theorem MJ{b:Nat}:∀{l:List Nat}{i j:Nat},lB b l i=some j->i<=j/\l[j-i]?=some b
 |[],_,_,h=>by simp[lB]at h
 |x::r,i,j,h=>by
  simp only[lB]at h;cases a:ck x b
  ·simp only[a,cond_false]at h;obtain⟨d,c⟩:=MJ h;refine⟨by omega,?_⟩;have e:j-i=(j-(i+1))+1:=by omega
   rw[e,List.getElem?_cons_succ];exact c
  ·simp only[a,cond_true,db]at h;subst h;simp[dE a]
section
variable(bs:List Nat)
mutual
def mL:AV->Option AV
 | .p v=>some (.p v)
 | .ptr b path=>match lB b bs 0 with
  |some i=>some (.ptr i path)
  |none=>none
 | .b7 b aA ai i path=>match lB b bs 0 with
  |some j=>some (.b7 j aA ai i path)
  |none=>none
 | .sl b aA ai off len=>match lB b bs 0 with
  |some j=>some (.sl j aA ai off len)
  |none=>none
 | .map b=>match lB b bs 0 with
  |some j=>some (.map j)
  |none=>none
 | .func f fi ca=>match nD fi,nD ca with
  |some a,some b=>some (.func f a b)
  |_,_=>none
 | .st u fs=>match nD fs with
  |some a=>some (.st u a)
  |none=>none
 | .aC vs=>match nD vs with
  |some a=>some (.aC a)
  |none=>none
def nD:List AV->Option (List AV)
 |[]=>some []
 |v::r=>match mL v,nD r with
  |some a,some b=>some (a::b)
  |_,_=>none
end
def Eb:Obj->Option Obj
 | .box fz t=>match mL bs t with
  |some a=>some (.box fz a)
  |none=>none
 | .arr k aA ai es=>match nD bs es with
  |some a=>some (.arr k aA ai a)
  |none=>none
 | .map fz es=>some (.map fz es)
 | .dG s n=>some (.dG s n)
 | .dead=>some .dead
 |_=>none
def xg(H:aj):List Nat->Option aj
 |[]=>some []
 |b::r=>match H[b]? with
  |some o=>match Eb bs o,xg H r with
   |some a,some t=>some (a::t)
   |_,_=>none
  |none=>none
end
section
variable{bs:List Nat}{base:Nat}
theorem zS{b i:Nat}(h:lB b bs 0=some i):sig bs base i=b:=by
 have:=(MJ h).2;simp only[Nat.sub_zero]at this;simp[sig,this]
mutual
theorem LF:∀{a c:AV},mL bs a=some c->cH (sig bs base) c=a
 | .p v,c,h=>by simp only[mL,db]at h;subst h;rfl
 | .ptr b path,c,h=>by
  simp only[mL]at h
  split at h
  ·rename_i i hi;simp only[db]at h;subst h;simp only[cH,zS hi]
  ·simp at h
 | .b7 b aA ai i path,c,h=>by
  simp only[mL]at h
  split at h
  ·rename_i i hi;simp only[db]at h;subst h;simp only[cH,zS hi]
  ·simp at h
 | .sl b aA ai off len,c,h=>by
  simp only[mL]at h
  split at h
  ·rename_i i hi;simp only[db]at h;subst h;simp only[cH,zS hi]
  ·simp at h
 | .map b,c,h=>by
  simp only[mL]at h
  split at h
  ·rename_i i hi;simp only[db]at h;subst h;simp only[cH,zS hi]
  ·simp at h
 | .func f fi ca,c,h=>by
  simp only[mL]at h
  split at h
  ·rename_i a b d g;simp only[db]at h;subst h;simp only[cH,rq d,rq g]
  ·simp at h
 | .st u fs,c,h=>by
  simp only[mL]at h
  split at h
  ·rename_i a d;simp only[db]at h;subst h;simp only[cH,rq d]
  ·simp at h
 | .aC vs,c,h=>by
  simp only[mL]at h
  split at h
  ·rename_i a d;simp only[db]at h;subst h;simp only[cH,rq d]
  ·simp at h
theorem rq:∀{l e:List AV},nD bs l=some e->cU (sig bs base) e=l
 |[],e,h=>by simp only[nD,db]at h;subst h;rfl
 |v::r,e,h=>by
  simp only[nD]at h
  split at h
  ·rename_i a b d g;simp only[db]at h;subst h;simp only[cU,LF d,rq g]
  ·simp at h
end
theorem WM{o c:Obj}(h:Eb bs o=some c):dc (sig bs base) c=o:=by
 cases o<;>simp only[Eb]at h
 case box fz t=>
  split at h
  ·rename_i a b;simp only[db]at h;subst h;simp only[dc,LF b]
  ·simp at h
 case arr k aA ai es=>
  split at h
  ·rename_i a b;simp only[db]at h;subst h;simp only[dc,rq b]
  ·simp at h
 case hole=>simp at h
 case loop=>simp at h
 all_goals (simp only[db]at h;subst h;rfl)
theorem Kq{H:aj}:∀{l:List Nat}{H0:aj},xg bs H l=some H0->H0.length=l.length/\∀p∈l.zip (H0.map (dc (sig bs base))),H[p.1]?=some p.2
 |[],H0,h=>by simp only[xg,db]at h;subst h;simp
 |b::r,H0,h=>by
  simp only[xg]at h
  split at h
  case h_2=>simp at h
  rename_i o f
  split at h
  case h_2=>simp at h
  rename_i a t d e;simp only[db]at h;subst h;obtain⟨i1,i2⟩:=Kq e;refine⟨by simp[i1],fun p c=>?_⟩;simp only[cc,List.zip_cons_cons,bi]at c;rcases c with rfl|c
  ·simp only[WM d];exact f
  ·exact i2 p c
end
mutual
def Q0:AV->List Nat->List Nat
 | .p _,acc=>acc
 | .ptr b _,acc| .b7 b _ _ _ _,acc| .sl b _ _ _ _,acc| .map b,acc=>b::acc
 | .func _ fi ca,acc=>vc fi (vc ca acc)
 | .st _ fs,acc| .aC fs,acc=>vc fs acc
def vc:List AV->List Nat->List Nat
 |[],acc=>acc
 |v::r,acc=>Q0 v (vc r acc)
end
def aAE:Obj->List Nat
 | .box _ t=>Q0 t []
 | .arr _ _ _ es=>vc es []
 |_=>[]
def Eo(H:aj):Nat->List Nat->List Nat->List Nat
 |0,_,acc=>acc
 |_,[],acc=>acc
 |n+1,b::r,acc=>match lB b acc 0 with
  |some _=>Eo H n r acc
  |none=>Eo H n (match H[b]? with
   |some o=>aAE o++r
   |none=>r) (b::acc)
def nodupB:List Nat->Bool
 |[]=>true
 |x::r=>(match lB x r 0 with
  |some _=>false
  |none=>true)&&nodupB r
theorem Kw{b:Nat}:∀{l:List Nat}{i:Nat},lB b l i=none->b∉l
 |[],_,_=>by simp
 |x::r,i,h=>by
  simp only[lB]at h;cases a:ck x b
  ·simp only[a,cond_false]at h;have:=Kw h;simp only[bi,not_or];refine⟨fun e=>?_,this⟩;subst e;rw[cy]at a;cases a
  ·simp[a]at h
theorem KD:∀{l:List Nat},nodupB l=true->l.Nodup
 |[],_=>List.nodup_nil
 |x::r,h=>by
  simp only[nodupB,av]at h;rw[cb];refine⟨?_,KD h.2⟩;have a:=h.1
  split at a
  ·simp at a
  ·rename_i b;exact Kw b
def Bl(H:aj)(b v:Nat):Bool:=match H[b]? with
 |some .hole|none=>false
 |some (.arr _ aA _ _)=>ce v aA
 |some _=>true
theorem aAJ{H:aj}{b v:Nat}(h:Bl H b v=true):aJ H (b,v):=by
 unfold Bl at h
 split at h
 ·simp at h
 ·simp at h
 ·rename_i k aA ai c a;exact⟨_,a,cX h⟩
 ·rename_i o d e a;refine⟨o,a,?_⟩;cases o with
  |hole=>exact(d rfl).elim
  |arr k aA ai c=>exact(e _ _ _ _ rfl).elim
  |_=>trivial
mutual
def sN(H:aj):AV->Bool
 | .p _=>true
 | .ptr b _| .map b=>Bl H b 0
 | .b7 b aA _ _ _| .sl b aA _ _ _=>Bl H b aA
 | .func _ fi ca=>oP H fi&&oP H ca
 | .st _ fs| .aC fs=>oP H fs
def oP(H:aj):List AV->Bool
 |[]=>true
 |v::r=>sN H v&&oP H r
end
mutual
theorem De{H:aj}:∀{a:AV},sN H a=true->aE (aJ H) a
 | .p _,_=>by simp[aE]
 | .ptr _ _,h| .map _,h| .b7 _ _ _ _ _,h| .sl _ _ _ _ _,h=>by
  simp only[sN]at h;simp only[aE];exact aAJ h
 | .func _ fi ca,h=>by
  simp only[sN,av]at h;simp only[aE];exact⟨rr h.1,rr h.2⟩
 | .st _ _,h| .aC _,h=>by
  simp only[sN]at h;simp only[aE];exact rr h
theorem rr{H:aj}:∀{l:List AV},oP H l=true->aS (aJ H) l
 |[],_=>by simp[aS]
 |v::r,h=>by
  simp only[oP,av]at h;simp only[aS];exact⟨De h.1,rr h.2⟩
end
def Ai(H:aj):Obj->Bool
 | .box _ t=>sN H t
 | .arr _ _ _ es=>oP H es
 | .loop _=>false
 |_=>true
theorem Kz{H:aj}{o:Obj}(h:Ai H o=true):o.refs (aJ H):=by
 cases o<;>simp only[Ai]at h<;>simp only[Obj.refs]
 ·exact De h
 ·exact rr h
 ·simp at h
def sB(p:Obj->Bool):List Obj->Bool
 |[]=>true
 |o::r=>p o&&sB p r
theorem xa{p:Obj->Bool}:∀{l:List Obj},sB p l=true->∀o∈l,p o=true
 |[],_,o,h=>by simp at h
 |a::r,h,o,b=>by
  simp only[sB,av]at h;rcases bi.1 b with rfl|b
  ·exact h.1
  ·exact xa h.2 o b
def Ag(n:Nat):List Nat->Bool
 |[]=>true
 |x::r=>ce (x+1) n&&Ag n r
theorem D8{n:Nat}:∀{l:List Nat},Ag n l=true->∀x∈l,x<n
 |[],_,o,h=>by simp at h
 |a::r,h,o,b=>by
  simp only[Ag,av]at h;rcases bi.1 b with rfl|b
  ·exact cX h.1
  ·exact D8 h.2 o b
def Ad:Obj->Bool
 | .hole=>false
 |_=>true
def xw(run:List AV->aj->Option (AV×aj))(args:List AV)(H:aj):Option aR:=
 let bs:=Eo H 1000 (vc args []) []
 match nD bs args,xg bs H bs with
 |some gd,some H0=>bif nodupB bs&&(Ag H.length bs&&(oP H0 gd&&sB (Ai H0) H0))then
  match run gd H0 with
  |some (v0,H1)=>bif ce H0.length H1.length&&(sB Ad (H1.take H0.length))then some (dH bs H.length H0 H1 v0)else none
  |none=>none
  else none
 |_,_=>none
theorem C4{P:a1}{f:a0}{run:List AV->aj->Option (AV×aj)}(n:∀args H v H',run args H=some (v,H')->cS P f H args H' v){args:List AV}{H:aj}{e:aR}(h:xw run args H=some e):
 sX P f args H.length e/\oZ H e:=by
 unfold xw at h;dsimp only at h
 split at h
 case h_2=>simp at h
 rename_i gd H0 g i;simp only[ao,da,av]at h;obtain⟨⟨g1,g2,g3,g4⟩,h⟩:=h
 split at h
 case h_2=>simp at h
 rename_i q H1 j;simp only[da,db]at h;obtain⟨⟨g5,g7⟩,rfl⟩:=h;obtain⟨k1,k2⟩:=Kq (base:=H.length) i;have hf:=(n _ _ _ _ j).frame _ H.length k1.symm (KD g1) (D8 g2) (cX g5) (rr g3) (fun b o k=>Kz (xa g4 o (b2 k)));rw[rq g]at hf;refine⟨hf,k2,fun p d=>?_⟩;simp only[dH]at d;have c:=b0 d;refine⟨D8 g2 _ c.1,fun l=>?_⟩;obtain⟨o,m,a⟩:=b1.1 c.2;rw[l]at a;have:=xa g7 o m;rw[Yn.1 a]at this;simp[Ad]at this
mutual
theorem xy:∀v:AV,cH (fun i=>i) v=v
 | .p _| .sl .. | .b7 .. | .ptr .. | .map _=>rfl
 | .st u vs=>by simp only[cH,pT vs]
 | .aC vs=>by simp only[cH,pT vs]
 | .func f a b=>by simp only[cH,pT a,pT b]
theorem pT:∀l:List AV,cU (fun i=>i) l=l
 |[]=>rfl
 |v::l=>by simp only[cU,xy v,pT l]
end
theorem KY:∀e:Env,uJ (fun i=>i) e=e
 |[]=>rfl
 |(x,v)::r=>by simp only[uJ,xy v,KY r]
theorem Qe(o:Obj):dc (fun i=>i) o=o:=by
 cases o<;>simp only[dc,xy,pT,KY]
theorem AP(n:Nat):sig (bo n) n=fun i=>i:=by
 funext i
 by_cases h:i<n
 ·rw[uj (by simpa using h)];simp
 ·rw[uk (by simpa using h)];simp;omega
def fW(H:aj):List (Nat×Obj):=(bo H.length).zip H
theorem uW{H:aj}{p:Nat×Obj}(h:p∈fW H):H[p.1]?=some p.2:=by
 rw[fW,bl]at h;obtain⟨i,hi,a⟩:=h;rw[List.getElem_zip]at a;subst a;simp
def Bf(H:aj):Env->Bool
 |[]=>true
 |(_,v)::r=>sN H v&&Bf H r
theorem NO{H:aj}:∀{e:Env},Bf H e=true->∀x,aE (aJ H) (aN e x)
 |[],_,x=>by simp[aN,aE]
 |(y,v)::r,h,x=>by
  simp only[Bf,av]at h;simp only[aN]
  split
  ·exact De h.1
  ·exact NO h.2 x
def Pg(H:aj):Obj->Bool
 | .loop L=>Bf H L.env
 |o=>Ai H o
theorem Xi{H:aj}{o:Obj}(h:Pg H o=true):o.refs (aJ H):=by
 cases o<;>first
  |exact Kz h
  |exact NO h
def DT(run:Nat->aj->List AV->Option (aj×AV))(b:Nat)(args:List AV)(H:aj):Option aR:=
 bif oP H args&&sB (Pg H) H then
  match run b H args with
  |some (H1,v)=>bif ce H.length H1.length&&(sB Ad (H1.take H.length))then some {v,al:=fW H,aL:=(bo H.length).zip (H1.take H.length),aP:=H1.drop H.length}else none
  |none=>none
 else none
theorem Wl{P:a1}{run:Nat->aj->List AV->Option (aj×AV)}(k:∀b H args H' v,run b H args=some (H',v)->fJ P b H args H' v){b:Nat}{args:List AV}{H:aj}{e:aR}(h:DT run b args H=some e):
 oU P b args H.length e/\oZ H e:=by
 unfold DT at h;simp only[ao,da,av]at h;obtain⟨⟨g3,g4⟩,h⟩:=h
 split at h
 case h_2=>simp at h
 rename_i H1 f g;simp only[da,db]at h;obtain⟨⟨g5,g7⟩,rfl⟩:=h;have hf:=(k _ _ _ _ _ g).frame (bo H.length) H.length (by simp) List.nodup_range (fun b a=>by simpa using a) (cX g5) (rr g3) (fun b o a=>Xi (xa g4 o (b2 a)));have e:dH (bo H.length) H.length H H1 f={v:=f,al:=fW H,aL:=(bo H.length).zip (H1.take H.length),aP:=H1.drop H.length}:=by
  simp only[dH,AP,xy];rw[show(dc fun i=>i)=id from funext Qe,b3,b3,b3,fW]
 rw[e,AP,pT]at hf;refine⟨hf,fun p c=>uW c,fun p c=>?_⟩;have d:=b0 c;refine⟨by simpa using d.1,fun j=>?_⟩;have:=xa g7 p.2 d.2;rw[j]at this;simp[Ad]at this
end Go.ak
namespace Go.ak
variable[Gl]
inductive RT where
 |lf
 |vl (v:AV)
 |nd (a b c d:RT)
inductive Q4 where|a|b|c|d
def q4(n:Nat):Q4:=match n with
 |0=>.a
 |1=>.b
 |2=>.c
 |_=>.d
def pathOf:Nat->Nat->List Q4
 |0,_=>[]
 |k+1,n=>q4 (n% 4)::pathOf k (n/4)
noncomputable def xG(p:List Q4):RT->AV:=
 cd (motive:=fun _=>RT->AV) (fun R=>RT.rec (motive:=fun _=>AV) (.p .undef) (fun v=>v) (fun _ _ _ _ _ _ _ _=>.p .undef) R)
  (fun q _ e R=>RT.rec (motive:=fun _=>AV) (.p .undef) (fun _=>.p .undef) (fun a b c d _ _ _ _=>Q4.rec (motive:=fun _=>AV) (e a) (e b) (e c) (e d) q) R) p
noncomputable def Fx(v:AV)(p:List Q4):RT->RT:=
 cd (motive:=fun _=>RT->RT) (fun _=>.vl v)
  (fun q _ e R=>RT.rec (motive:=fun _=>RT)
   (Q4.rec (motive:=fun _=>RT) (.nd (e .lf) .lf .lf .lf) (.nd .lf (e .lf) .lf .lf) (.nd .lf .lf (e .lf) .lf) (.nd .lf .lf .lf (e .lf)) q)
   (fun _=>Q4.rec (motive:=fun _=>RT) (.nd (e .lf) .lf .lf .lf) (.nd .lf (e .lf) .lf .lf) (.nd .lf .lf (e .lf) .lf) (.nd .lf .lf .lf (e .lf)) q)
   (fun a b c d _ _ _ _=>Q4.rec (motive:=fun _=>RT) (.nd (e a) b c d) (.nd a (e b) c d) (.nd a b (e c) d) (.nd a b c (e d)) q) R) p
noncomputable def kK(k:Nat)(R:RT)(n:Nat):AV:=bif ce (n+1) (4^k)then xG (pathOf k n) R else .p .undef
noncomputable def yd(k:Nat)(R:RT)(n:Nat)(v:AV):RT:=Fx v (pathOf k n) R
theorem LS:∀(p:List Q4),xG p .lf=.p .undef
 |[]=>rfl
 |_::_=>rfl
theorem Ke(v:AV):∀(p:List Q4)(R:RT),xG p (Fx v p R)=v
 |[],_=>rfl
 |x::p,R=>by
  cases R<;>cases x<;>exact Ke v p _
theorem Jo(v:AV):∀(p q:List Q4)(R:RT),p.length=q.length->p≠q->xG p (Fx v q R)=xG p R
 |[],[],R,_,h=>(h rfl).elim
 |[],_::_,R,h,_=>by simp at h
 |_::_,[],R,h,_=>by simp at h
 |x::p,y::q,R,h,f=>by
  have g:=fun R(f:p≠q)=>Jo v p q R (by simpa using h) f;have i:=LS p;cases R with
  |nd a b c d=>
   cases x<;>cases y<;>first
    |rfl
    |exact g _ (fun e=>f (by rw[e]))
  |_=>
   cases x<;>cases y<;>first
    |exact i
    |exact(g _ (fun e=>f (by rw[e]))).trans i
theorem Cg:∀k n,(pathOf k n).length=k
 |0,_=>rfl
 |k+1,n=>by simp[pathOf,Cg k]
theorem aKO{m n:Nat}(a:m<4)(b:n<4)(h:q4 m=q4 n):m=n:=by
 have hc:∀n,n<4->n=0\/n=1\/n=2\/n=3:=by omega
 rcases hc m a with rfl|rfl|rfl|rfl<;>rcases hc n b with rfl|rfl|rfl|rfl<;>simp[q4]at h<;>rfl
theorem Kg:∀(k m n:Nat),m<4^k->n<4^k->pathOf k m=pathOf k n->m=n
 |0,m,n,a,b,_=>by simp at a b;omega
 |k+1,m,n,a,b,h=>by
  simp only[pathOf,List.cons.injEq]at h;have c:=aKO (c9 _ (by omega)) (c9 _ (by omega)) h.1;have d:=Kg k (m/4) (n/4) (by rw[c6]at a;omega) (by rw[c6]at b;omega) h.2;omega
theorem Nw(k n:Nat):kK k .lf n=.p .undef:=by
 simp[kK,LS]
theorem ZN{a b:Nat}(h:a<=b):ce a b=true:=cx h
theorem Ob{a b:Nat}(h:¬a<=b):ce a b=false:=by
 cases c:ce a b
 ·rfl
 ·exact(h (cX c)).elim
theorem CP(k:Nat)(R:RT)(d x:Nat)(v:AV)(h:d<4^k):kK k (yd k R d v) x=if x=d then v else kK k R x:=by
 unfold kK yd
 by_cases hx:x+1<=4^k
 ·simp only[ZN hx,cond_true]
  by_cases a:x=d
  ·subst a;rw[Ke,if_pos rfl]
  ·rw[if_neg a,Jo _ _ _ _ (by rw[Cg,Cg]) (fun e=>a (Kg k x d (by omega) h e))]
 ·have:x≠d:=by omega
  simp only[Ob hx,cond_false,this,if_false]
def Rel(k:Nat)(e:Env)(R:RT):Prop:=∀x,aN e x=kK k R x
noncomputable def lI(k:Nat)(d:Option Nat)(v:AV)(R:RT):Option RT:=
 match d with
 |none=>some R
 |some d=>bif ce (d+1) (4^k)then some (yd k R d v)else none
theorem wJ{k:Nat}{d:Option Nat}{v:AV}{R a:RT}{e:Env}(h:lI k d v R=some a)(b:Rel k e R):Rel k (put d v e) a:=by
 unfold lI at h
 split at h
 ·simp only[db]at h;subst h;exact b
 ·simp only[ao,da,db]at h;obtain⟨c,rfl⟩:=h;intro x;rw[CP _ _ _ _ _ (by have:=cX c;omega)];simp only[put,aN]
  split
  ·rfl
  ·exact b x
noncomputable def kz(k:Nat)(R:RT):ay->AV
 | .tmp t=>kK k R t
 | .const v=>.p (ofConst v)
 | .global g=>.p (Gl.g g)
 | .func f=>.p (.func f [] [])
theorem Av{k:Nat}{R:RT}{e:Env}(a:Rel k e R):kz k R=ev e:=by
 funext o;cases o<;>simp[kz,ev,a _]
def qz(H:aj)(e:aR):aj:=
 match e.aL,e.aP with
 |[],[]=>H
 |_,_=>bm H e.aL++e.aP
theorem L9(H:aj)(e:aR):qz H e=bm H e.aL++e.aP:=by
 unfold qz;split
 ·rename_i a b;simp[a,b,bm]
 ·rfl
structure kr where
 cP:a0->List AV->aj->Option (AV×aj)
 cD:a0->List AV->aj->Option aR
 cY:Nat->aj->List AV->Option (aj×AV)
 cI:AV->Nat->aj->Option aj
 Bc:Nat->List AV->aj->Option aR
structure kM(P:a1)(B:kr):Prop where
 cP:∀f args H v H',B.cP f args H=some (v,H')->∀K:AV->aj->Prop,K v H'->iy P false f args H K
 cD:∀f args H e,B.cD f args H=some e->∀K:aR->Prop,K e->iF P f args H K
 cY:∀b H args H' v,B.cY b H args=some (H',v)->fJ P b H args H' v
 cI:∀it b H H',B.cI it b H=some H'->∀K:aj->Prop,K H'->jH P it b H K
 Bc:∀b args H e,B.Bc b args H=some e->oU P b args H.length e/\oZ H e
section
variable(P:a1)(ag:a0->Bool)(B:kr)(k:Nat)
noncomputable def yb(o:Oper)(R:RT)(H:aj):Option (RT×aj):=
 match o.op with
 | .call {callee:=.value f,args,.. }=>match(match kz k R f with
  | .p (.func g fi ca)=>B.cP g (fi.map .p++args.toList.map (kz k R)++ca.map .p) H
  | .func g fi ca=>B.cP g (fi++args.toList.map (kz k R)++ca) H
  | .map b=>match B.cY b H (args.toList.map (kz k R))with
   |some (H',v)=>some (v,H')
   |none=>none
  |_=>none)with
  |some (v,H')=>match lI k o.dst v R with
   |some a=>some (a,H')
   |none=>none
  |none=>none
 |_=>match Bt P ag o (kz k R) H with
  |some e=>match lI k o.dst e.v R with
   |some a=>some (a,qz H e)
   |none=>none
  |none=>none
noncomputable def As(a:Array Oper)(j:Nat)(R:RT):AV:=
 match(a[j]?).bind (·.dst)with
 |some d=>kK k R d
 |none=>.p (.aC [])
noncomputable def nU(b:Array Oper):List Oper->RT->aj->Option (RT×aj)
 |[],R,H=>some (R,H)
 |o::r,R,H=>match o.guard with
  |none=>match yb P ag B k o R H with
   |some (a,H')=>nU b r a H'
   |none=>none
  |some (j,want)=>match As k b j R with
   | .p (.bool t)=>match t,want with
    |true,true|false,false=>match yb P ag B k o R H with
     |some (a,H')=>nU b r a H'
     |none=>none
    |_,_=>match lI k o.dst (.p (.aC [])) R with
     |some a=>nU b r a H
     |none=>none
   | .p (.aC [])=>match lI k o.dst (.p (.aC [])) R with
    |some a=>nU b r a H
    |none=>none
   |_=>none
noncomputable def xT(o:Oper)(R:RT)(H:aj):Option aR:=
 match o.op with
 | .call {callee:=.value f,args,.. }=>match kz k R f with
  | .p (.func g fi ca)=>B.cD g (fi.map .p++args.toList.map (kz k R)++ca.map .p) H
  | .func g fi ca=>B.cD g (fi++args.toList.map (kz k R)++ca) H
  | .map b=>B.Bc b (args.toList.map (kz k R)) H
  |_=>none
 |_=>Bt P ag o (kz k R) H
noncomputable def nJ(b:Array Oper):List Oper->Nat->List Touch->RT->aj->Option (RT×aj)
 |[],_,acc,R,H=>bif iZ b acc then some (R,H)else none
 |o::r,i,acc,R,H=>match o.guard with
  |none=>match xT P ag B k o R H with
   |some e=>match lI k o.dst e.v R with
    |some a=>nJ b r (i+1) (gC i H.length e acc) a (qz H e)
    |none=>none
   |none=>none
  |some (j,want)=>match As k b j R with
   | .p (.bool t)=>match t,want with
    |true,true|false,false=>match xT P ag B k o R H with
     |some e=>match lI k o.dst e.v R with
      |some a=>nJ b r (i+1) (gC i H.length e acc) a (qz H e)
      |none=>none
     |none=>none
    |_,_=>match lI k o.dst (.p (.aC [])) R with
     |some a=>nJ b r (i+1) acc a H
     |none=>none
   | .p (.aC [])=>match lI k o.dst (.p (.aC [])) R with
    |some a=>nJ b r (i+1) acc a H
    |none=>none
   |_=>none
abbrev Out:=Option (bA×RT×aj)
def xE(f:RT->aj->Out):Nat->RT->aj->Out
 |0,_,_=>none
 |n+1,R,H=>match f R H with
  |some (.normal,a,H')=>xE f n a H'
  |r=>r
noncomputable def u6(k:Nat)(R:RT):Nat->Env
 |0=>[]
 |n+1=>(n,kK k R n)::u6 k R n
def YI:Nat:=100000
def AN(j:Option Code):Option bA:=
 match j with
 |none=>some .normal
 |some (.exit id)=>some (.exit id)
 |some .ret=>some .ret
 |_=>none
def Fv(b:Nat)(R:RT)(H:aj):Out:=
 match H[b]? with
 |some (.loop L)=>match L.st with
  | .busy=>none
  |_=>match AN L.pending with
   |some e=>some (e,R,H.set b (.loop {L with st:=.exhausted}))
   |none=>none
 |_=>none
noncomputable def iE(q:Cx):Code->RT->aj->Out
 | .skip,R,H| .label _,R,H=>some (.normal,R,H)
 | .region _ ops draw,R,H=>bif draw then match nJ P ag B k ops ops.toList 0 [] R H with
   |some (d,H')=>some (.normal,d,H')
   |none=>none
  else match nU P ag B k ops ops.toList R H with
   |some (d,H')=>some (.normal,d,H')
   |none=>none
 | .seq a b,R,H=>match iE q a R H with
  |some (.normal,d,H')=>iE q b d H'
  |r=>r
 | .cond c a b,R,H=>match kz k R c with
  | .p (.bool t)=>match t with
   |true=>iE q a R H
   |false=>iE q b R H
  |_=>none
 | .block id b,R,H=>match iE q b R H with
  |some (.exit i,d,H')=>bif ck i id then some (.normal,d,H')else some (.exit i,d,H')
  |r=>r
 | .scope b,R,H=>iE q b R H
 | .loop b,R,H=>xE (fun R H=>iE q b R H) YI R H
 | .rangeFunc f e a b,R,H=>bif ce q.2 H.length&&ce q.1 (4^k)then match B.cI (kz k R f) H.length (H++[.loop ⟨.ready,none,q.1,e.toList,a,b,u6 k R (4^k)⟩])with
   |some H'=>Fv H.length R H'
   |none=>none
  else none
 | .exit id,R,H=>some (.exit id,R,H)
 | .ret,R,H=>some (.ret,R,H)
 |_,_,_=>none
end
section
variable{P:a1}{ag:a0->Bool}{B:kr}{k:Nat}
theorem Lg(e:aR)(dst:Option Tmp)(env:Env)(H:aj):e.app dst ⟨env,H⟩=⟨put dst e.v env,qz H e⟩:=by
 simp[aR.app,L9]
theorem aJ5(b:kM P B){o:Oper}{R i:RT}{H H':aj}{env:Env}(h:yb P ag B k o R H=some (i,H'))(g:Rel k env R):
 ∃j,Rel k j i/\∀K:St->Prop,K ⟨j,H'⟩->kg P ag false o K ⟨env,H⟩:=by
 unfold yb at h;unfold kg;rw[Av g]at h
 split at h
 ·rename_i f args n c
  split at h
  case h_2=>simp at h
  rename_i v l hc
  split at h
  case h_2=>simp at h
  rename_i m d;simp only[db,dg]at h;obtain⟨rfl,rfl⟩:=h;refine⟨_,wJ d g,fun K a=>?_⟩;simp only[c]
  split at hc
  ·rename_i hf;simp only[hf];exact b.cP _ _ _ _ _ hc _ a
  ·rename_i hf;simp only[hf];exact b.cP _ _ _ _ _ hc _ a
  ·rename_i hf
   split at hc
   ·rename_i l s r;simp only[db,dg]at hc;obtain⟨rfl,rfl⟩:=hc;simp only[hf];exact⟨_,_,b.cY _ _ _ _ _ r,a⟩
   ·simp at hc
  ·simp at hc
 ·rename_i q
  split at h
  case h_2=>simp at h
  rename_i e p
  split at h
  case h_2=>simp at h
  rename_i m d;simp only[db,dg]at h;obtain⟨rfl,rfl⟩:=h;refine⟨_,wJ d g,fun K a=>?_⟩
  split
  ·rename_i f args n c;exact(q _ _ _ c).elim
  ·exact Ph p (by rw[Lg];exact a)
theorem Lh{a:Array Oper}{j:Nat}{R:RT}{env:Env}(b:Rel k env R):As k a j R=guardOf a j env:=by
 unfold As guardOf;split
 ·rename_i h;simp only[h];exact(b _).symm
 ·rename_i h;simp only[h]
theorem DY(f:kM P B){c:Array Oper}:∀{l:List Oper}{R a:RT}{H H':aj}{env:Env},nU P ag B k c l R H=some (a,H')->Rel k env R->
 ∃b,Rel k b a/\∀K:St->Prop,K ⟨b,H'⟩->iA P ag false c l K ⟨env,H⟩
 |[],R,a,H,H',env,h,d=>by
  simp only[nU,db,dg]at h;obtain⟨rfl,rfl⟩:=h;exact⟨env,d,fun K g=>g⟩
 |o::l,R,a,H,H',env,h,d=>by
  have run:(match yb P ag B k o R H with
    |some (a,H')=>nU P ag B k c l a H'
    |none=>none)=some (a,H')->∃b,Rel k b a/\∀K:St->Prop,K ⟨b,H'⟩->kg P ag false o (iA P ag false c l K) ⟨env,H⟩:=by
   intro h
   split at h
   case h_2=>simp at h
   rename_i n H1 e;obtain⟨w,q,a2⟩:=aJ5 f e d;obtain⟨u,r,s⟩:=DY f h q;exact⟨u,r,fun K g=>a2 _ (s K g)⟩
  have skip:(match lI k o.dst (.p (.aC [])) R with
    |some a=>nU P ag B k c l a H
    |none=>none)=some (a,H')->∃b,Rel k b a/\∀K:St->Prop,K ⟨b,H'⟩->iA P ag false c l K ⟨put o.dst (.p (.aC [])) env,H⟩:=by
   intro h
   split at h
   case h_2=>simp at h
   rename_i n e;exact DY f h (wJ e d)
  simp only[nU]at h;simp only[iA]
  split at h
  ·rename_i i;simp only[i];exact run h
  ·rename_i j v i;simp only[i];rw[Lh d]at h
   split at h
   ·rename_i t m;simp only[m];cases t<;>cases v
    ·simpa using run h
    ·simpa using skip h
    ·simpa using skip h
    ·simpa using run h
   ·rename_i m;simp only[m];exact skip h
   ·simp at h
theorem az1(b:kM P B){o:Oper}{R:RT}{H:aj}{e:aR}{env:Env}(h:xT P ag B k o R H=some e)(l:Rel k env R)(K:aR->Prop)(a:K e):jN P ag o ⟨env,H⟩ K:=by
 unfold xT at h;unfold jN;rw[Av l]at h
 split at h
 ·rename_i f args d c;simp only[c]
  split at h
  ·rename_i hf;simp only[hf];exact b.cD _ _ _ _ h _ a
  ·rename_i hf;simp only[hf];exact b.cD _ _ _ _ h _ a
  ·rename_i hf;simp only[hf];obtain⟨g,i⟩:=b.Bc _ _ _ _ h;exact⟨e,g,i,a⟩
  ·simp at h
 ·rename_i j
  split
  ·rename_i f args d c;exact(j _ _ _ c).elim
  ·exact Ph h a
theorem Ds(m:kM P B){f:Array Oper}:∀{l:List Oper}{i:Nat}{b:List Touch}{R a:RT}{H H':aj}{env:Env},nJ P ag B k f l i b R H=some (a,H')->Rel k env R->
 ∃c,Rel k c a/\∀K:St->Prop,K ⟨c,H'⟩->gK P ag f l i b K ⟨env,H⟩
 |[],i,b,R,a,H,H',env,h,d=>by
  simp only[nJ,ao,da,db,dg]at h;obtain⟨g,rfl,rfl⟩:=h;exact⟨env,d,fun K n=>⟨g,n⟩⟩
 |o::l,i,b,R,a,H,H',env,h,d=>by
  have run:(match xT P ag B k o R H with
    |some e=>match lI k o.dst e.v R with
     |some a=>nJ P ag B k f l (i+1) (gC i H.length e b) a (qz H e)
     |none=>none
    |none=>none)=some (a,H')->∃c,Rel k c a/\∀K:St->Prop,K ⟨c,H'⟩->jN P ag o ⟨env,H⟩ (fun e=>gK P ag f l (i+1) (gC i H.length e b) K (e.app o.dst ⟨env,H⟩)):=by
   intro h
   split at h
   case h_2=>simp at h
   rename_i e y
   split at h
   case h_2=>simp at h
   rename_i s g;obtain⟨x,u,w⟩:=Ds m h (wJ g d);exact⟨x,u,fun K n=>az1 m y d _ (by rw[Lg];exact w K n)⟩
  have skip:(match lI k o.dst (.p (.aC [])) R with
    |some a=>nJ P ag B k f l (i+1) b a H
    |none=>none)=some (a,H')->∃c,Rel k c a/\∀K:St->Prop,K ⟨c,H'⟩->gK P ag f l (i+1) b K ⟨put o.dst (.p (.aC [])) env,H⟩:=by
   intro h
   split at h
   case h_2=>simp at h
   rename_i s g;exact Ds m h (wJ g d)
  simp only[nJ]at h;simp only[gK]
  split at h
  ·rename_i q;simp only[q];exact run h
  ·rename_i j z q;simp only[q];rw[Lh d]at h
   split at h
   ·rename_i t r;simp only[r];cases t<;>cases z
    ·simpa using run h
    ·simpa using skip h
    ·simpa using skip h
    ·simpa using run h
   ·rename_i r;simp only[r];exact skip h
   ·simp at h
theorem Mg(R:RT):∀(n:Nat),∀x,aN (u6 k R n) x=if x<n then kK k R x else .p .undef
 |0,x=>by simp[u6,aN]
 |n+1,x=>by
  simp only[u6,aN,Mg R n]
  by_cases h:x=n
  ·subst h;simp
  ·simp only[h,if_false]
   by_cases a:x<n
   ·simp[a,Nat.lt_succ_of_lt a]
   ·have:¬x<n+1:=by omega
    simp[a,this]
theorem YW(k:Nat)(R:RT)(n:Nat)(h:4^k<=n):kK k R n=.p .undef:=by
 unfold kK;rw[Ob (by omega)];rfl
theorem az8{R:RT}{env:Env}(a:Rel k env R):∀x,aN (u6 k R (4^k)) x=aN env x:=by
 intro x;rw[Mg,a]
 split
 ·rfl
 ·rw[YW k R x (by omega)]
theorem YO{j:Option Code}{e:bA}(h:AN j=some e)(Q:bA->St->Prop)(s:St)(hq:Q e s):jY Q j s:=by
 unfold AN at h;unfold jY
 split at h<;>simp at h<;>subst h<;>exact hq
theorem Zb{b:Nat}{R a:RT}{H H':aj}{e:bA}{env:Env}(h:Fv b R H=some (e,a,H')):a=R/\∀Q:bA->St->Prop,Q e ⟨env,H'⟩->iO b env Q H:=by
 unfold Fv at h
 split at h
 case h_2=>simp at h
 rename_i L c
 have go:(match AN L.pending with
   |some e=>some (e,R,H.set b (.loop {L with st:=.exhausted}))
   |none=>none)=some (e,a,H')->L.st≠.busy->a=R/\∀Q:bA->St->Prop,Q e ⟨env,H'⟩->iO b env Q H:=by
  intro h aM
  split at h
  case h_2=>simp at h
  rename_i e' d;simp only[db,dg]at h;obtain⟨rfl,rfl,rfl⟩:=h;exact⟨rfl,fun Q hq=>by unfold iO;simp only[c];exact⟨aM,YO d Q _ hq⟩⟩
 split at h
 ·simp at h
 ·rename_i aM;exact go h aM
theorem Xa{q:Cx}{b:Code}{Q:bA->St->Prop}{s s':St}(f:∀c:bA->St->Prop,c .normal s'->cg P ag q b c s)(d:cg P ag q (.loop b) Q s'):cg P ag q (.loop b) Q s:=by
 simp only[cg]at d⊢;obtain⟨I,⟨a,t0,hf,hI⟩,g⟩:=d;refine⟨fun n t=>I n t\/(n=a+1/\t=s),⟨a+1,s,.inl rfl,.inr ⟨rfl,rfl⟩⟩,?_⟩;rintro n t (h|⟨rfl,rfl⟩)
 ·obtain⟨e,u,k1,k2⟩:=oc b t _ (g n t h);refine k2 _ ?_;cases e with
  |normal=>
   obtain⟨m,i,g1,g2,g3⟩:=k1;exact⟨m,i,g1,g2,.inl g3⟩
  |exit id=>exact k1
  |ret=>exact k1
 ·exact f _ ⟨a,t0,Nat.lt_succ_self _,hf,.inl hI⟩
theorem W9{q:Cx}{b:Code}{Q:bA->St->Prop}{s s':St}{e:bA}(f:e≠.normal)(d:∀a:bA->St->Prop,a e s'->cg P ag q b a s)(c:Q e s'):cg P ag q (.loop b) Q s:=by
 simp only[cg];refine⟨fun n t=>n=0/\t=s,⟨0,s,.inl rfl,rfl,rfl⟩,?_⟩;rintro n t ⟨rfl,rfl⟩;refine d _ ?_;cases e with
 |normal=>exact(f rfl).elim
 |exit id=>exact c
 |ret=>exact c
theorem MC{q:Cx}{b:Code}{f:RT->aj->Out}(hf:∀{R a:RT}{H H':aj}{e:bA}{env:Env},f R H=some (e,a,H')->Rel k env R->∃c,Rel k c a/\∀Q:bA->St->Prop,Q e ⟨c,H'⟩->cg P ag q b Q ⟨env,H⟩):
 ∀(n:Nat){R a:RT}{H H':aj}{e:bA}{env:Env},xE f n R H=some (e,a,H')->Rel k env R->∃c,Rel k c a/\∀Q:bA->St->Prop,Q e ⟨c,H'⟩->cg P ag q (.loop b) Q ⟨env,H⟩
 |0,R,a,H,H',e,env,h,g=>by simp[xE]at h
 |n+1,R,a,H,H',e,env,h,g=>by
  simp only[xE]at h
  split at h
  ·rename_i r H1 o;obtain⟨i,d,a2⟩:=hf o g;obtain⟨m,j,l⟩:=MC hf n h d;exact⟨m,j,fun Q hq=>Xa a2 (l Q hq)⟩
  ·rename_i p;obtain⟨i,d,a2⟩:=hf h g;refine⟨i,d,fun Q hq=>W9 ?_ a2 hq⟩;rintro rfl;exact p _ _ h
theorem lU(m:kM P B){q:Cx}:∀{c:Code}{R l:RT}{H H':aj}{e:bA}{env:Env},iE P ag B k q c R H=some (e,l,H')->Rel k env R->
 ∃r,Rel k r l/\∀Q:bA->St->Prop,Q e ⟨r,H'⟩->cg P ag q c Q ⟨env,H⟩
 | .skip,R,l,H,H',e,env,h,d| .label _,R,l,H,H',e,env,h,d| .exit _,R,l,H,H',e,env,h,d| .ret,R,l,H,H',e,env,h,d=>by
  simp only[iE,db,dg]at h;obtain⟨rfl,rfl,rfl⟩:=h;exact⟨env,d,fun Q hq=>hq⟩
 | .region id ops draw,R,l,H,H',e,env,h,d=>by
  simp only[iE]at h;cases draw
  ·simp only[cond_false]at h
   split at h
   case h_2=>simp at h
   rename_i o H1 n;simp only[db,dg]at h;obtain⟨rfl,rfl,rfl⟩:=h;obtain⟨j,g,a2⟩:=DY m n d;exact⟨j,g,fun Q hq=>by simp only[cg];exact a2 _ hq⟩
  ·simp only[cond_true]at h
   split at h
   case h_2=>simp at h
   rename_i o H1 n;simp only[db,dg]at h;obtain⟨rfl,rfl,rfl⟩:=h;obtain⟨j,g,a2⟩:=Ds m n d;exact⟨j,g,fun Q hq=>by simp only[cg,if_true];exact a2 _ hq⟩
 | .seq a b,R,l,H,H',e,env,h,d=>by
  simp only[iE]at h
  split at h
  ·rename_i o H1 n;obtain⟨j,g,a2⟩:=lU m n d;obtain⟨w,u,v⟩:=lU m h g;exact⟨w,u,fun Q hq=>by simp only[cg];exact a2 _ (v Q hq)⟩
  ·rename_i p;obtain⟨j,g,a2⟩:=lU m h d;refine⟨j,g,fun Q hq=>by
    simp only[cg];refine a2 _ ?_;cases e with
    |normal=>exact(p _ _ h).elim
    |exit id=>exact hq
    |ret=>exact hq⟩
 | .cond c a b,R,l,H,H',e,env,h,d=>by
  simp only[iE,Av d]at h
  split at h
  case h_2=>simp at h
  rename_i t s;cases t
  ·obtain⟨j,g,a2⟩:=lU m h d;exact⟨j,g,fun Q hq=>by simp only[cg,s];exact a2 Q hq⟩
  ·obtain⟨j,g,a2⟩:=lU m h d;exact⟨j,g,fun Q hq=>by simp only[cg,s,if_true];exact a2 Q hq⟩
 | .block id b,R,l,H,H',e,env,h,d=>by
  simp only[iE]at h
  split at h
  ·rename_i i o H1 n;obtain⟨j,g,a2⟩:=lU m n d;cases hi:ck i id
   ·simp only[hi,cond_false,db,dg]at h;obtain⟨rfl,rfl,rfl⟩:=h;refine⟨j,g,fun Q hq=>by
     simp only[cg];refine a2 _ ?_;have:i≠id:=fun e=>by subst e;simp[cy]at hi
     simp only[this,if_false];exact hq⟩
   ·simp only[hi,cond_true,db,dg]at h;obtain⟨rfl,rfl,rfl⟩:=h;refine⟨j,g,fun Q hq=>by
     simp only[cg];refine a2 _ ?_;simp only[dE hi,if_true];exact hq⟩
  ·rename_i p;obtain⟨j,g,a2⟩:=lU m h d;refine⟨j,g,fun Q hq=>by
    simp only[cg];refine a2 _ ?_;cases e with
    |normal=>exact hq
    |exit id=>exact(p _ _ _ h).elim
    |ret=>exact hq⟩
 | .scope b,R,l,H,H',e,env,h,d=>by
  simp only[iE]at h;obtain⟨j,g,a2⟩:=lU m h d;exact⟨j,g,fun Q hq=>by simp only[cg];exact a2 Q hq⟩
 | .loop b,R,l,H,H',e,env,h,d=>by
  simp only[iE]at h;exact MC (fun h d=>lU m h d) _ h d
 | .rangeFunc f z a b,R,l,H,H',e,env,h,d=>by
  simp only[iE,ao,da,av]at h;obtain⟨⟨n,y⟩,h⟩:=h
  split at h
  case h_2=>simp at h
  rename_i H1 hI;obtain⟨rfl,x⟩:=Zb (env:=env) h;refine⟨env,d,fun Q hq=>?_⟩;simp only[cg];rw[Av d]at hI;exact⟨cX n,_,az8 d,m.cI _ _ _ _ hI _ (x Q hq)⟩
 | .goto _,_,_,_,_,_,_,h,_=>by simp[iE]at h
 | .refuse _,_,_,_,_,_,_,h,_=>by simp[iE]at h
end
def tq(n:Nat):Nat:=
 match ce n 16,ce n 64,ce n 256,ce n 1024 with
 |true,_,_,_=>2
 |_,true,_,_=>3
 |_,_,true,_=>4
 |_,_,_,true=>5
 |_,_,_,_=>6
noncomputable def xC(k:Nat):Nat->List AV->RT
 |_,[]=>.lf
 |i,v::r=>yd k (xC k (i+1) r) i v
theorem MP(k:Nat):∀(l:List AV)(i:Nat),i+l.length<=4^k->Rel k (jl i l) (xC k i l)
 |[],i,_=>fun x=>by simp[jl,xC,aN,Nw]
 |v::r,i,h=>fun x=>by
  simp only[List.length_cons]at h;rw[xC,CP _ _ _ _ _ (by omega)];simp only[jl,aN]
  split
  ·rfl
  ·exact MP k r (i+1) (by omega) x
noncomputable def xU(k:Nat):Env->Option RT
 |[]=>some .lf
 |(x,v)::r=>match xU k r with
  |some R=>bif ce (x+1) (4^k)then some (yd k R x v)else none
  |none=>none
theorem Mf(k:Nat):∀{e:Env}{R:RT},xU k e=some R->Rel k e R
 |[],R,h=>by
  simp only[xU,db]at h;subst h;intro x;simp[aN,Nw]
 |(y,v)::r,R,h=>by
  simp only[xU]at h
  split at h
  case h_2=>simp at h
  rename_i c a;simp only[ao,da,db]at h;obtain⟨b,rfl⟩:=h;intro x;rw[CP _ _ _ _ _ (by have:=cX b;omega)];simp only[aN]
  split
  ·rfl
  ·exact Mf k a x
noncomputable def Bz(P:a1)(k:Nat)(R:RT)(H:aj):List a3->Option (List AV)
 |[]=>some []
 |r::rs=>match(match r with
  | .tmp t=>some (kK k R t)
  | .cell a T=>match kK k R a with
   | .ptr b path=>match H[b]? with
    |some (.box _ t)=>match fo t path with
     |some v=>bif sE (kindOf P T) (aa v)then some v else none
     |none=>none
    |_=>none
   |_=>none),Bz P k R H rs with
  |some v,some vs=>some (v::vs)
  |_,_=>none
theorem Nx{P:a1}{k:Nat}{R:RT}{H:aj}{env:Env}(d:Rel k env R):∀{e:List a3}{vs:List AV},Bz P k R H e=some vs->fY P ⟨env,H⟩ e=some vs
 |[],vs,h=>h
 |r::e,vs,h=>by
  simp only[Bz]at h
  split at h
  case h_2=>simp at h
  rename_i v o c f;simp only[db]at h;subst h;have g:ql P ⟨env,H⟩ r=some v:=by
   cases r with
   |tmp t=>simp only[ql];rw[d];exact c
   |cell a T=>
    simp only[ql];dsimp only at c;rw[<-d]at c
    split at c
    case h_2=>simp at c
    rename_i b n j
    split at c
    case h_2=>simp at c
    rename_i fz t l
    split at c
    case h_2=>simp at c
    rename_i u m;simp only[ao,da,db]at c;obtain⟨i,rfl⟩:=c;rw[j];simp only[l,m,(jn i).1,if_true]
  simp only[fY,g,Nx d f]
section
variable(P:a1)(ag:a0->Bool)
noncomputable def AU(B:kr)(fn:Func)(args:List AV)(N:Nat)(H:aj):Option (AV×aj):=
 bif ce args.length fn.ntmps&&ce fn.ntmps (4^tq fn.ntmps)then
  match iE P ag B (tq fn.ntmps) (fn.ntmps,N) (fn.body.getD .skip) (xC (tq fn.ntmps) 0 args) H with
  |some (.exit _,_,_)=>none
  |some (_,R,H')=>match Bz P (tq fn.ntmps) R H' fn.results.toList with
   |some vs=>some (oneOf vs,H')
   |none=>none
  |none=>none
 else none
structure nX where
 jO:a0->Option Func
 Bj:a0->List PV->Option PV
 Bk:a0->List AV->aj->Option (AV×aj)
 mh:a0->a0->Nat
 u9:a0->List AV->aj->Option (List (Nat×Obj)×PV)
noncomputable def qP(pl:nX)(B:a0->kr)(f:a0)(vs:List PV):Option PV:=
 match pl.Bj f vs with
 |some v=>some v
 |none=>match pl.jO f with
  |some fn=>match AU P ag (B f) fn (vs.map .p) 0 []with
   |some (v,H)=>eM H 9 v
   |none=>none
  |none=>none
noncomputable def pz(pl:nX)(B:a0->kr)(f:a0)(args:List AV)(H:aj):Option (AV×aj):=
 match pl.Bk f args H with
 |some r=>some r
 |none=>match pl.jO f with
  |some fn=>AU P ag (B f) fn args H.length H
  |none=>none
noncomputable def Ao(B:kr)(b:Nat)(H:aj)(args:List AV):Option (aj×AV):=
 match H[b]? with
 |some (.loop L)=>bif ck args.length L.params.length&&(L.params.all (fun x=>decide (x<L.n))&&codeOk fit L.n L.assign&&codeOk fit L.n L.body)then
  match xU (tq L.n) (rZ L.params args L.env)with
  |some R=>match iE P ag B (tq L.n) (L.n,H.length) L.assign R H with
   |some (.normal,f,H1)=>match H1[b]? with
    |some (.loop c)=>match c.st with
     | .ready=>match iE P ag B (tq L.n) (L.n,H.length) L.body f (H1.set b (.loop {c with st:=.busy}))with
      |some (e,_,a)=>match a[b]? with
       |some (.loop d)=>some (a.set b (.loop {d with st:=if(iw e).isNone then .ready else .done,pending:=iw e}),.p (.bool (iw e).isNone))
       |_=>none
      |none=>none
     |_=>none
    |_=>none
   |_=>none
  |none=>none
  else none
 |_=>none
noncomputable def Fg(pl:nX)(B:a0->kr)(it:AV)(b:Nat)(H:aj):Option aj:=
 match it with
 | .p (.func g fi ca)=>match pz P ag pl B g (fi.map .p++[.map b]++ca.map .p) H with
  |some (_,H')=>some H'
  |none=>none
 | .func g fi ca=>match pz P ag pl B g (fi++[.map b]++ca) H with
  |some (_,H')=>some H'
  |none=>none
 |_=>none
noncomputable def EX(pl:nX)(B:a0->kr)(c f:a0)(args:List AV)(H:aj):Option (AV×aj):=
 match pl.u9 f args H with
 |some (_,v)=>some (.p v,H)
 |none=>match pl.mh c f with
 |0=>match eA args with
  |some vs=>match qP P ag pl B f vs with
   |some v=>some (.p v,H)
   |none=>none
  |none=>pz P ag pl B f args H
 |1=>pz P ag pl B f args H
 |3=>match xw (pz P ag pl B f) args H with
  |some e=>some (e.v,qz H e)
  |none=>none
 |_=>match mZ H args with
  |some (vs,H1)=>match qP P ag pl B f vs with
   |some v=>some (.p v,H1)
   |none=>none
  |none=>none
noncomputable def EW(pl:nX)(B:a0->kr)(c f:a0)(args:List AV)(H:aj):Option aR:=
 match pl.u9 f args H with
 |some (al,v)=>some {v:=.p v,al}
 |none=>match pl.mh c f with
 |3=>xw (pz P ag pl B f) args H
 |_=>match eA args with
 |some vs=>match qP P ag pl B f vs with
  |some v=>some {v:=.p v}
  |none=>none
 |none=>match oT H args with
  |some (vs,bs)=>match lW H bs with
   |some (al,aL)=>match qP P ag pl B f vs with
    |some v=>some {v:=.p v,al,aL}
    |none=>none
   |none=>none
  |none=>xw (pz P ag pl B f) args H
def ur:kr:=⟨fun _ _ _=>none,fun _ _ _=>none,fun _ _ _=>none,fun _ _ _=>none,fun _ _ _=>none⟩
noncomputable def kY(pl:nX):Nat->a0->kr
 |0,_=>ur
 |n+1,c=>⟨EX P ag pl (kY pl n) c,EW P ag pl (kY pl n) c,Ao P ag (kY pl n c),Fg P ag pl (kY pl n),DT (Ao P ag (kY pl n c))⟩
end
structure oN(P:a1)(pl:nX):Prop where
 mix:P.follows .mixedOrders=true
 jO:∀f fn,pl.jO f=some fn->ar P f fn
 Bj:∀f vs v,pl.Bj f vs=some v->au P f vs v
 Bk:∀f args H v H',pl.Bk f args H=some (v,H')->cS P f H args H' v
 u9:∀f args H al v,pl.u9 f args H=some (al,v)->Ey P f args al v/\∀p∈al,H[p.1]?=some p.2
section
variable{P:a1}{ag:a0->Bool}{B1:kr}{B:a0->kr}{pl:nX}
theorem L6(f:kM P B1){fn:Func}{args:List AV}{N:Nat}{H H':aj}{v:AV}(h:AU P ag B1 fn args N H=some (v,H')):
 args.length<=fn.ntmps/\∃e a vs,(match e with
  |bA.exit _=>False
  |_=>True)/\fY P ⟨a,H'⟩ fn.results.toList=some vs/\oneOf vs=v/\∀Q:bA->St->Prop,Q e ⟨a,H'⟩->cg P ag (fn.ntmps,N) (fn.body.getD .skip) Q ⟨jl 0 args,H⟩:=by
 unfold AU at h;simp only[ao,da,av]at h;obtain⟨⟨b,c⟩,h⟩:=h;have b:=cX b;have c:=cX c;refine⟨b,?_⟩
 split at h
 ·simp at h
 ·rename_i e R k g hc
  split at h
  case h_2=>simp at h
  rename_i vs j;simp only[db,dg]at h;obtain⟨rfl,rfl⟩:=h;obtain⟨a,d,a2⟩:=lU f hc (MP _ args 0 (by omega));refine⟨e,a,vs,?_,Nx d j,rfl,a2⟩;cases e with
  |exit i=>exact g i rfl
  |_=>trivial
 ·simp at h
theorem wP(a:oN P pl)(j:∀c,kM P (B c)){f:a0}{vs:List PV}{v:PV}(h:qP P ag pl B f vs=some v):au P f vs v:=by
 unfold qP at h
 split at h
 ·rename_i v' hk;simp only[db]at h;subst h;exact a.Bj _ _ _ hk
 ·split at h
  case h_2=>simp at h
  rename_i fn hf
  split at h
  case h_2=>simp at h
  rename_i v' H' k;obtain⟨b,e,m,l,d,g,rfl,i⟩:=L6 (j _) k;exact Bi ag (a.jO _ _ hf) a.mix (by simpa using b) (i _ ⟨d,l,g,h⟩)
theorem rL(a:oN P pl)(j:∀c,kM P (B c)){f:a0}{args:List AV}{H H':aj}{v:AV}(h:pz P ag pl B f args H=some (v,H')):cS P f H args H' v:=by
 unfold pz at h
 split at h
 ·rename_i r hk;simp only[db]at h;subst h;exact a.Bk _ _ _ _ _ hk
 ·split at h
  case h_2=>simp at h
  rename_i fn hf;obtain⟨b,e,l,k,d,g,rfl,i⟩:=L6 (j _) h;exact QV ag (a.jO _ _ hf) a.mix b (i _ ⟨d,k,g,rfl,.inl rfl⟩)
theorem Ld{args:List AV}{vs:List PV}(h:eA args=some vs):args=vs.map .p:=mC h
theorem ZC(b:oN P pl)(d:∀c,kM P (B c)){c f:a0}{args:List AV}{H H':aj}{v:AV}(h:EX P ag pl B c f args H=some (v,H'))(K:AV->aj->Prop)(a:K v H'):iy P false f args H K:=by
 unfold EX at h
 split at h
 ·rename_i al v' hx;simp only[db,dg]at h;obtain⟨rfl,rfl⟩:=h;obtain⟨i,j⟩:=b.u9 _ _ _ _ _ hx;exact .inr ⟨rfl,.inr (.inr (.inr ⟨al,v',i,j,a⟩))⟩
 split at h
 ·split at h
  ·rename_i vs m
   split at h
   case h_2=>simp at h
   rename_i v' g;simp only[db,dg]at h;obtain⟨rfl,rfl⟩:=h;exact .inl ⟨vs,v',Ld m,wP b d g,a⟩
  ·exact .inr ⟨rfl,.inr (.inl ⟨H',v,rL b d h,a⟩)⟩
 ·exact .inr ⟨rfl,.inr (.inl ⟨H',v,rL b d h,a⟩)⟩
 ·split at h
  case h_2=>simp at h
  rename_i e k;simp only[db,dg]at h;obtain⟨rfl,rfl⟩:=h;obtain⟨i,j⟩:=C4 (fun args H v H' g=>rL b d g) k;exact .inr ⟨rfl,.inr (.inr (.inl ⟨e,i,j,by rw[<-L9];exact a⟩))⟩
 ·split at h
  case h_2=>simp at h
  rename_i vs H1 l
  split at h
  case h_2=>simp at h
  rename_i v' g;simp only[db,dg]at h;obtain⟨rfl,rfl⟩:=h;exact .inr ⟨rfl,.inl ⟨vs,H1,v',l,wP b d g,a⟩⟩
theorem ZD(i:oN P pl)(j:∀c,kM P (B c)){c f:a0}{args:List AV}{H:aj}{e:aR}(h:EW P ag pl B c f args H=some e)(K:aR->Prop)(g:K e):iF P f args H K:=by
 unfold EW at h
 split at h
 ·rename_i al v' hx;simp only[db]at h;subst h;obtain⟨b,d⟩:=i.u9 _ _ _ _ _ hx;exact .inr (.inr (.inr ⟨al,v',b,d,g⟩))
 split at h
 ·obtain⟨b,d⟩:=C4 (fun args H v H' a=>rL i j a) h;exact .inr (.inr (.inl ⟨e,b,d,g⟩))
 split at h
 ·rename_i vs m
  split at h
  case h_2=>simp at h
  rename_i v' a;simp only[db]at h;subst h;exact .inl ⟨vs,v',Ld m,wP i j a,g⟩
 ·split at h
  case h_2=>
   obtain⟨b,d⟩:=C4 (fun args H v H' a=>rL i j a) h;exact .inr (.inr (.inl ⟨e,b,d,g⟩))
  rename_i vs bs l
  split at h
  case h_2=>simp at h
  rename_i al aL k
  split at h
  case h_2=>simp at h
  rename_i v' a;simp only[db]at h;subst h;exact .inr (.inl ⟨vs,bs,al,aL,v',l,k,wP i j a,g⟩)
theorem KX(o:oN P pl)(a:kM P B1){b:Nat}{H H':aj}{args:List AV}{v:AV}(h:Ao P ag B1 b H args=some (H',v)):fJ P b H args H' v:=by
 unfold Ao at h
 split at h
 case h_2=>simp at h
 rename_i L i;simp only[ao,da,av]at h;obtain⟨⟨f,g⟩,h⟩:=h
 split at h
 case h_2=>simp at h
 rename_i R l
 split at h
 case h_2=>simp at h
 rename_i s H1 m
 split at h
 case h_2=>simp at h
 rename_i q j
 split at h
 case h_2=>simp at h
 rename_i aM
 split at h
 case h_2=>simp at h
 rename_i e t p n
 split at h
 case h_2=>simp at h
 rename_i r k;simp only[db,dg]at h;obtain⟨rfl,rfl⟩:=h;obtain⟨w,c,a2⟩:=lU a m (Mf _ l);obtain⟨x,u,d⟩:=lU a n c;refine QW ag o.mix i (dE f) (by simpa only[av]using g) ?_;unfold zO;refine a2 _ ?_;simp only[yX,j];refine⟨aM,d _ ?_⟩;simp only[ub,k];exact⟨trivial,.inl rfl⟩
theorem YP(g:oN P pl)(e:∀c,kM P (B c)){it:AV}{b:Nat}{H H':aj}(h:Fg P ag pl B it b H=some H')(K:aj->Prop)(f:K H'):jH P it b H K:=by
 unfold Fg at h
 split at h
 ·split at h
  case h_2=>simp at h
  rename_i v a d;simp only[db]at h;subst h;exact⟨a,v,rL g e d,f⟩
 ·split at h
  case h_2=>simp at h
  rename_i v a d;simp only[db]at h;subst h;exact⟨a,v,rL g e d,f⟩
 ·simp at h
theorem tY(a:oN P pl):∀n c,kM P (kY P ag pl n c)
 |0,_=>⟨fun _ _ _ _ _ h=>by simp[kY,ur]at h,fun _ _ _ _ h=>by simp[kY,ur]at h,fun _ _ _ _ _ h=>by simp[kY,ur]at h,fun _ _ _ _ h=>by simp[kY,ur]at h,fun _ _ _ _ h=>by simp[kY,ur]at h⟩
 |n+1,c=>⟨fun _ _ _ _ _ h=>ZC a (tY a n) h,fun _ _ _ _ h=>ZD a (tY a n) h,fun _ _ _ _ _ h=>KX a (tY a n c) h,fun _ _ _ _ h=>YP a (tY a n) h,fun _ _ _ _ h=>Wl (fun _ _ _ _ _ b=>KX a (tY a n c) b) h⟩
theorem reckon{f:a0}{vs:List PV}{v:PV}(n:Nat)(a:oN P pl)(h:qP P ag pl (kY P ag pl n) f vs=some v):au P f vs v:=wP a (tY a n) h
end
section
variable{P:a1}{ag:a0->Bool}
theorem au.dd{f:a0}{args d:List PV}{v v':PV}(h:au P f args v)(g:bE d args)(i:Wk v v'):au P f d v':=by
 rcases h with h|h
 ·refine .inl ⟨h.1,fun w ad a j k c=>(h.2 w ad a j k (bK.dd _ _ _ g c)).mono ?_⟩;rintro e w' ⟨b,aF,k1,k2,k3,k4,k5,k6,l,k7⟩;exact⟨b,aF,k1,k2,k3,k4,k5,k6,l,aD.dd _ _ _ i k7⟩
 ·refine .inr fun w ad a c=>?_;obtain⟨b,k1,k2⟩:=h w ad a (bK.dd _ _ _ g c);exact⟨b,k1,aD.dd _ _ _ i k2⟩
def AZ(P:a1)(a:List a3)(v:PV)(e:bA)(s:St):Prop:=
 (match e with
  | .exit _=>False
  |_=>True)/\∃vs,fY P s a=some vs/\∃v',eM s.heap 9 (oneOf vs)=some v'/\Wk v' v
theorem Xy{a:List a3}{v:PV}{s:St}:AZ P a v .ret s=∃vs,fY P s a=some vs/\∃v',eM s.heap 9 (oneOf vs)=some v'/\Wk v' v:=by simp[AZ]
theorem Vh{a:List a3}{v:PV}{s:St}:AZ P a v .normal s=∃vs,fY P s a=some vs/\∃v',eM s.heap 9 (oneOf vs)=some v'/\Wk v' v:=by simp[AZ]
theorem sW.dd{f:a0}{args a:List PV}{v v':PV}(h:sW P f args v)(j:bE a args)(k:Wk v v'):sW P f a v':=by
 refine⟨h.1,fun w ad b d g i=>(h.2 w ad b d g (bK.dd _ _ _ j i)).mono ?_⟩;rintro e w' ⟨c,aF,k1,k2,k3,k4,k5,k6,l,k7⟩;exact⟨c,aF,k1,k2,k3,k4,k5,k6,l,aD.dd _ _ _ k k7⟩
theorem Ki{dst:Option Tmp}{h:Nat}{pos:String}{af:Array Edge}{g:Option (Nat×Bool)}{env:Env}{heap:aj}{L:St->Prop}{f:a0}{fi ca:Array ay}(hf:ag f=false):
 dB P ag ⟨dst,.makeFunc (.func f) fi ca,h,pos,af,g⟩ L ⟨env,heap⟩=bh (sH f (fi.toList.map (ev env)) (ca.toList.map (ev env))) (eK dst ⟨env,heap⟩ L):=by
 simp only[dB,lG,fT,hf,sH,ax,if_false]
 split
 ·rename_i c d;simp only[c,d,bh,true_and]
 ·rename_i c
  split
  ·rename_i a b d e;exact(c a b d e).elim
  ·simp only[bh,true_and]
theorem JW{dst:Option Tmp}{h:Nat}{pos:String}{af:Array Edge}{g:Option (Nat×Bool)}{env:Env}{heap:aj}{K:aR->Prop}{f:a0}{fi ca:Array ay}(hf:ag f=false):
 dC P ag ⟨dst,.makeFunc (.func f) fi ca,h,pos,af,g⟩ ⟨env,heap⟩ K=bh (sH f (fi.toList.map (ev env)) (ca.toList.map (ev env))) K:=by
 simp only[dC,lG,fT,hf,sH,ax,if_false]
 split
 ·rename_i c d;simp only[c,d,bh,true_and]
 ·rename_i c
  split
  ·rename_i a b d e;exact(c a b d e).elim
  ·simp only[bh,true_and]
section guards
variable{ops:Array Oper}{o:Oper}{r:List Oper}{K:St->Prop}{want t:Bool}{s:St}{i:Nat}{acc:List Touch}
theorem JL:Ar P ag ops o r K want s (.p (.bool t))=if t=want then dB P ag o (gD P ag ops r K) s else gD P ag ops r K ⟨put o.dst (.p (.aC [])) s.env,s.heap⟩:=(rfl)
theorem Km:Ar P ag ops o r K want s (.p (.aC []))=gD P ag ops r K ⟨put o.dst (.p (.aC [])) s.env,s.heap⟩:=(rfl)
theorem Jd:Af P ag ops o r i acc K want s (.p (.bool t))=if t=want then dC P ag o s (xH P ag ops r i acc K o.dst s)else gL P ag ops r (i+1) acc K ⟨put o.dst (.p (.aC [])) s.env,s.heap⟩:=(rfl)
theorem JK:Af P ag ops o r i acc K want s (.p (.aC []))=gL P ag ops r (i+1) acc K ⟨put o.dst (.p (.aC [])) s.env,s.heap⟩:=(rfl)
theorem Vf{l:List Oper}{j:Nat}{e:Env}:guardOf l.toArray j e=match(l[j]?).bind (·.dst)with
 |some d=>aN e d
 |none=>.p (.aC []):=by simp only[guardOf,List.getElem?_toArray];cases l[j]?.bind (·.dst)<;>rfl
end guards
section calls
variable{f:a0}{H H1:aj}{K:AV->aj->Prop}{L:aR->Prop}{v a b c d e a' b' c' d' e':PV}{dr:Bool}
theorem cw0(h:au P f [] v)(hk:K (.p v) H):iy P dr f [] H K:=.inl ⟨[],v,rfl,h,hk⟩
theorem cw1(h:au P f [a'] v)(hk:K (.p v) H)(b:Wk a a':=by first|exact Wk.refl _|simp[Wk,bE]):iy P dr f [.p a] H K:=.inl ⟨[a],v,rfl,h.dd (by simp only[bE];exact⟨b,trivial⟩) (Wk.refl _),hk⟩
theorem cw2(h:au P f [a',b'] v)(hk:K (.p v) H)(c:Wk a a':=by first|exact Wk.refl _|simp[Wk,bE])(d:Wk b b':=by first|exact Wk.refl _|simp[Wk,bE]):iy P dr f [.p a,.p b] H K:=
 .inl ⟨[a,b],v,rfl,h.dd (by simp only[bE];exact⟨c,d,trivial⟩) (Wk.refl _),hk⟩
theorem cw3(h:au P f [a',b',c'] v)(hk:K (.p v) H)(d:Wk a a':=by first|exact Wk.refl _|simp[Wk,bE])(e:Wk b b':=by first|exact Wk.refl _|simp[Wk,bE])(g:Wk c c':=by first|exact Wk.refl _|simp[Wk,bE]):iy P dr f [.p a,.p b,.p c] H K:=
 .inl ⟨[a,b,c],v,rfl,h.dd (by simp only[bE];exact⟨d,e,g,trivial⟩) (Wk.refl _),hk⟩
theorem cw4(h:au P f [a',b',c',d'] v)(hk:K (.p v) H)(e:Wk a a':=by first|exact Wk.refl _|simp[Wk,bE])(g:Wk b b':=by first|exact Wk.refl _|simp[Wk,bE])(i:Wk c c':=by first|exact Wk.refl _|simp[Wk,bE])(j:Wk d d':=by first|exact Wk.refl _|simp[Wk,bE]):iy P dr f [.p a,.p b,.p c,.p d] H K:=
 .inl ⟨[a,b,c,d],v,rfl,h.dd (by simp only[bE];exact⟨e,g,i,j,trivial⟩) (Wk.refl _),hk⟩
theorem cw5(h:au P f [a',b',c',d',e'] v)(hk:K (.p v) H)(g:Wk a a':=by first|exact Wk.refl _|simp[Wk,bE])(i:Wk b b':=by first|exact Wk.refl _|simp[Wk,bE])(j:Wk c c':=by first|exact Wk.refl _|simp[Wk,bE])(k:Wk d d':=by first|exact Wk.refl _|simp[Wk,bE])(l:Wk e e':=by first|exact Wk.refl _|simp[Wk,bE]):iy P dr f [.p a,.p b,.p c,.p d,.p e] H K:=
 .inl ⟨[a,b,c,d,e],v,rfl,h.dd (by simp only[bE];exact⟨g,i,j,k,l,trivial⟩) (Wk.refl _),hk⟩
theorem ce0(h:au P f [] v)(hk:L {v:=.p v}):iF P f [] H L:=.inl ⟨[],v,rfl,h,hk⟩
theorem ce1(h:au P f [a'] v)(hk:L {v:=.p v})(b:Wk a a':=by first|exact Wk.refl _|simp[Wk,bE]):iF P f [.p a] H L:=.inl ⟨[a],v,rfl,h.dd (by simp only[bE];exact⟨b,trivial⟩) (Wk.refl _),hk⟩
theorem ce2(h:au P f [a',b'] v)(hk:L {v:=.p v})(c:Wk a a':=by first|exact Wk.refl _|simp[Wk,bE])(d:Wk b b':=by first|exact Wk.refl _|simp[Wk,bE]):iF P f [.p a,.p b] H L:=
 .inl ⟨[a,b],v,rfl,h.dd (by simp only[bE];exact⟨c,d,trivial⟩) (Wk.refl _),hk⟩
theorem ce3(h:au P f [a',b',c'] v)(hk:L {v:=.p v})(d:Wk a a':=by first|exact Wk.refl _|simp[Wk,bE])(e:Wk b b':=by first|exact Wk.refl _|simp[Wk,bE])(g:Wk c c':=by first|exact Wk.refl _|simp[Wk,bE]):iF P f [.p a,.p b,.p c] H L:=
 .inl ⟨[a,b,c],v,rfl,h.dd (by simp only[bE];exact⟨d,e,g,trivial⟩) (Wk.refl _),hk⟩
theorem ce4(h:au P f [a',b',c',d'] v)(hk:L {v:=.p v})(e:Wk a a':=by first|exact Wk.refl _|simp[Wk,bE])(g:Wk b b':=by first|exact Wk.refl _|simp[Wk,bE])(i:Wk c c':=by first|exact Wk.refl _|simp[Wk,bE])(j:Wk d d':=by first|exact Wk.refl _|simp[Wk,bE]):iF P f [.p a,.p b,.p c,.p d] H L:=
 .inl ⟨[a,b,c,d],v,rfl,h.dd (by simp only[bE];exact⟨e,g,i,j,trivial⟩) (Wk.refl _),hk⟩
theorem ce5(h:au P f [a',b',c',d',e'] v)(hk:L {v:=.p v})(g:Wk a a':=by first|exact Wk.refl _|simp[Wk,bE])(i:Wk b b':=by first|exact Wk.refl _|simp[Wk,bE])(j:Wk c c':=by first|exact Wk.refl _|simp[Wk,bE])(k:Wk d d':=by first|exact Wk.refl _|simp[Wk,bE])(l:Wk e e':=by first|exact Wk.refl _|simp[Wk,bE]):iF P f [.p a,.p b,.p c,.p d,.p e] H L:=
 .inl ⟨[a,b,c,d,e],v,rfl,h.dd (by simp only[bE];exact⟨g,i,j,k,l,trivial⟩) (Wk.refl _),hk⟩
theorem cwp{args:List AV}{vs a:List PV}(h:au P f a v)(c:mZ H args=some (vs,H1))(hk:K (.p v) H1)(b:bE vs a:=by first|exact bE.refl _|simp[Wk,bE]):iy P false f args H K:=
 .inr ⟨rfl,.inl ⟨vs,H1,v,c,h.dd b (Wk.refl _),hk⟩⟩
theorem cep{args:List AV}{vs a:List PV}{bs:List Nat}{al aL:List (Nat×Obj)}(h:au P f a v)(c:oT H args=some (vs,bs))(hf:lW H bs=some (al,aL))(hk:L {v:=.p v,al,aL})(b:bE vs a:=by first|exact bE.refl _|simp[Wk,bE]):iF P f args H L:=
 .inr (.inl ⟨vs,bs,al,aL,v,c,hf,h.dd b (Wk.refl _),hk⟩)
end calls
def KV(T:aj)(a v:AV):Prop:=a=v\/Gh T a v
theorem SN{T:aj}{v:AV}:KV T v v=True:=by simp[KV]
theorem SL{T:aj}{b aA ai off len:Nat}:KV T (.p .aH) (.sl b aA ai off len)=(aA=0/\off=0/\len=0/\∃k z,T[b]?=some (.arr k 0 z [])/\k.gr=true):=by simp[KV,Gh,gw]
theorem SO{T:aj}{u u':aT}{fs:List PV}{a:List AV}:KV T (.p (.st u fs)) (.st u' a)=(u=u'/\lN T fs a):=by simp[KV,Gh,gw]
def mG(T:aj)(e:Env):Env->Prop
 |[]=>True
 |(x,v)::r=>KV T (aN e x) v/\mG T e r
def KO(T:aj)(o:Obj):Obj->Prop
 | .hole=>True
 | .box false v'=>match o with
  | .box false v=>KV T v v'
  |_=>False
 | .arr k aA z es=>(o=.hole/\aA=0/\es=[]/\k.gr=true)\/o=.arr k aA z es
 |o'=>o=o'
def KN:Obj->Prop
 | .hole=>True
 | .arr k aA _ es=>aA=0/\es=[]/\k.gr=true
 |_=>False
def iB(T:aj):aj->aj->Prop
 |_,[]=>True
 |[],o'::t=>KN o'/\iB T [] t
 |o::h,o'::t=>KO T o o'/\iB T h t
theorem mG.get{T:aj}{e:Env}:∀{t:Env},mG T e t->∀x,aN t x=aN e x\/aN t x=.p .undef\/Gh T (aN e x) (aN t x)
 |[],_,x=>.inr (.inl rfl)
 |(y,v)::t,h,x=>by
  simp only[mG]at h;simp only[aN]
  split
  ·rename_i hx;subst hx;rcases h.1 with h|h
   ·exact .inl h.symm
   ·exact .inr (.inr h)
  ·exact mG.get h.2 x
theorem iB.get{T:aj}:∀{h t:aj},iB T h t->∀(b:Nat)(o:Obj),t[b]?=some o->
 o=.hole\/h[b]?=some o\/((h[b]?=none\/h[b]?=some .hole)/\∃k z,o=.arr k 0 z []/\k.gr=true)\/(∃v v',h[b]?=some (.box false v)/\o=.box false v'/\Gh T v v')
 |_,[],_,b,o,c=>by simp at c
 |[],o'::t,hk,b,o,c=>by
  simp only[iB]at hk;cases b with
  |zero=>
   simp at c;subst c;cases o'<;>have a:=hk.1<;>simp only[KN]at a
   ·exact .inl rfl
   ·obtain⟨rfl,rfl,d⟩:=a;exact .inr (.inr (.inl ⟨.inl rfl,_,_,rfl,d⟩))
  |succ b=>simpa using iB.get hk.2 b o (by simpa using c)
 |e::h,o'::t,hk,b,o,c=>by
  simp only[iB]at hk;cases b with
  |zero=>
   simp at c;subst c;have a:=hk.1;cases o' with
   |hole=>exact .inl rfl
   |dead=>simp only[KO]at a;subst a;exact .inr (.inl rfl)
   |map fz es=>simp only[KO]at a;subst a;exact .inr (.inl rfl)
   |dG s p=>simp only[KO]at a;subst a;exact .inr (.inl rfl)
   |loop L=>simp only[KO]at a;subst a;exact .inr (.inl rfl)
   |arr k aA z es=>
    simp only[KO]at a;rcases a with⟨rfl,rfl,rfl,d⟩|rfl
    ·exact .inr (.inr (.inl ⟨.inr rfl,_,_,rfl,d⟩))
    ·exact .inr (.inl rfl)
   |box fz v'=>
    cases fz with
    |true=>simp only[KO]at a;subst a;exact .inr (.inl rfl)
    |false=>
     simp only[KO]at a
     split at a
     ·rcases a with rfl|a
      ·exact .inr (.inl rfl)
      ·exact .inr (.inr (.inr ⟨_,_,rfl,rfl,a⟩))
     ·exact a.elim
  |succ b=>simpa using iB.get hk.2 b o (by simpa using c)
theorem de.og{N:Nat}{s t:St}(d:t.heap.take N=s.heap.take N)(c:mG t.heap s.env t.env)(hh:iB t.heap s.heap t.heap)(e:iQ t.heap t.env)(f:dK t.heap t.heap):de N s t:=by
 refine .inr ⟨⟨c.get,hh.get,e.get,f.get⟩,fun b a=>?_⟩;have:=congrArg (fun l:aj=>l[b]?) d;simpa[List.getElem?_take,a]using this
theorem Of{T:aj}{o:Obj}:KO T o o=True:=by
 cases o with
 |box fz v=>cases fz<;>simp[KO,KV]
 |_=>simp[KO]
theorem SJ{T:aj}{o:Obj}:KO T o .hole=True:=by simp[KO]
theorem SI{T:aj}{v v':AV}:KO T (.box false v) (.box false v')=KV T v v':=(rfl)
theorem SK{T:aj}{k:AK}{aA z:Nat}{a:List AV}:KO T .hole (.arr k aA z a)=(aA=0/\a=[]/\k.gr=true):=by simp[KO]
theorem SH:KN .hole=True:=(rfl)
theorem SG{k:AK}{aA z:Nat}{a:List AV}:KN (.arr k aA z a)=(aA=0/\a=[]/\k.gr=true):=(rfl)
theorem SM{T:aj}{x y:PV}:KV T (.p x) (.p y)=(x=y):=by
 have:Gh T (.p x) (.p y)↔x=y:=by cases x<;>simp[Gh,gw,eq_comm]
 simp[KV,this]
def vA{α:Type}(N:Nat)(mk:α->St)(ok:α->Prop)(m:α->Nat)(n:Nat)(s:St):Prop:=∃a',m a'<n/\ok a'/\de N s (mk a')
def sJ{α:Type}(N:Nat)(mk:α->St)(ok:α->Prop)(m:α->Nat)(n:Nat)(Q:bA->St->Prop)(e:bA)(s:St):Prop:=
 match e with
 | .normal=>vA N mk ok m n s
 |e=>Q e s
section
variable{α:Type}{N:Nat}{mk:α->St}{ok:α->Prop}{m:α->Nat}{n:Nat}{Q:bA->St->Prop}{s s':St}{q:Cx}
theorem US:sJ N mk ok m n Q .normal s=vA N mk ok m n s:=(rfl)
theorem We{id:Nat}:sJ N mk ok m n Q (.exit id) s=Q (.exit id) s:=(rfl)
theorem Xc:sJ N mk ok m n Q .ret s=Q .ret s:=(rfl)
theorem wl{b:Code}(mk:α->St)(ok:α->Prop)(m:α->Nat)(c:α)(l:ok c)(iD:∀a,ok a->dw P ag q b (sJ q.2 mk ok m (m a) Q) (mk a))
 (k:(mk c).heap.take q.2=s.heap.take q.2:=by simp)(i:mG (mk c).heap s.env (mk c).env:=by simp)(j:iB (mk c).heap s.heap (mk c).heap:=by simp)(o:iQ (mk c).heap (mk c).env:=by simp)(p:dK (mk c).heap (mk c).heap:=by simp):
 dw P ag q (.loop b) Q s:=by
 simp only[dw];refine⟨fun n t=>∃a,ok a/\t=mk a/\n=m a,⟨m c,mk c,de.og k i j o p,c,l,rfl,rfl⟩,?_⟩;rintro n t ⟨a,h,rfl,rfl⟩;have:sJ q.2 mk ok m (m a) Q=uI q.2 (m a) (fun n t=>∃a,ok a/\t=mk a/\n=m a) Q:=by
  funext e s
  cases e with
  |normal=>
   simp only[sJ,uI,vA,eq_iff_iff];constructor
   ·rintro⟨a',d,f,g⟩;exact⟨m a',mk a',d,g,a',f,rfl,rfl⟩
   ·rintro⟨_,_,d,g,a',f,rfl,rfl⟩;exact⟨a',d,f,g⟩
  |exit id=>rfl
  |ret=>rfl
 rw[<-this];exact iD a h
theorem rnd(a':α)(b:ok a')(a:m a'<n:=by omega)(e:(mk a').heap.take N=s.heap.take N:=by simp)(c:mG (mk a').heap s.env (mk a').env:=by simp)(d:iB (mk a').heap s.heap (mk a').heap:=by simp)(f:iQ (mk a').heap (mk a').env:=by simp)(g:dK (mk a').heap (mk a').heap:=by simp):
 vA N mk ok m n s:=⟨a',a,b,de.og e c d f g⟩
end
theorem aO(n:Int)(h:-9223372036854775808<=n)(a:n<=9223372036854775807):IntKind.i64.wrap n=n:=IntWalk.i64_in n ⟨h,a⟩
theorem BM(a b:Int):(a<b/\¬b<=a)\/(¬a<b/\b<=a):=by omega
theorem ct{i:Nat}(h:i<4611686018427387904):IntKind.i64.wrap ((i:Int)+1)=(i:Int)+1:=aO _ (by omega) (by omega)
attribute [simp] Wk bE aJ Obj.has JL Km Jd JK Vf Ki JW sH US We Xc mG iB SN SM SL SO Of SJ SI SK SH SG lN gw AK.gr iQ dK aE Obj.refs
attribute [simp] Xy Vh Wk.refl bE.refl
end
end Go.ak
namespace Go.ak
variable[Gl]
mutual
def eh:PV->Prop
 | .str s=>∀c∈s,c<256
 | .cm t=>eh t
 | .cT _ es| .seq es| .st _ es| .aC es=>mI es
 |_=>True
def mI:List PV->Prop
 |[]=>True
 |v::vs=>eh v/\mI vs
end
section
variable{P:a1}{w:a7}{ad:Nat->Prop}
theorem L4(bs:ByteArray):∀c∈bs.data.toList.map (·.toNat),c<256:=by
 intro c hc;simp only[b1]at hc;obtain⟨b,_,rfl⟩:=hc;exact UInt8.toNat_lt b
mutual
theorem aU.eh:∀(v:PV)(cs:List a4),aU P w ad v cs->eh v
 | .str s,cs,h=>by simp only[aU]at h;obtain⟨bs,_,rfl⟩:=h;simp only[ak.eh];exact L4 bs
 | .cm t,cs,h=>by simp only[aU]at h;obtain⟨_,_,ts,a,_⟩:=h;simp only[ak.eh];exact aU.eh t ts a
 | .cT f b,cs,h=>by simp only[aU]at h;obtain⟨_,_,_,_,d,a,_⟩:=h;simp only[ak.eh];exact bk.eh _ b d a
 | .seq b,cs,h=>by
  simp only[aU]at h;simp only[ak.eh];rcases h with⟨rfl,_⟩|⟨_,_,_,_,d,a,_⟩
  ·trivial
  ·exact bk.eh _ b d a
 | .st u b,cs,h=>by simp only[aU]at h;obtain⟨l,d,_,a,_⟩:=h;simp only[ak.eh];exact bk.eh _ b d a
 | .aC b,cs,h=>by simp[aU]at h
 | .undef,_,_| .bool _,_,_| .int _ _,_,_| .dR,_,_| .aH,_,_| .fF,_,_| .iU,_,_| .gO,_,_| .eB _,_,_| .func _ _ _,_,_=>by simp[ak.eh]
theorem bk.eh:∀(l:List Nat)(b:List PV)(d:List (List a4)),bk P w ad l b d->mI b
 |_,[],_,_=>by simp[ak.mI]
 |[],_::_,_,h=>by simp[bk]at h
 |n::l,v::vs,d,h=>by
  simp only[bk]at h;obtain⟨c,cs,_,a,_,g⟩:=h;simp only[ak.mI];exact⟨aU.eh v c a,bk.eh l vs cs g⟩
theorem aD.eh:∀(v:PV)(x:a4),aD P w ad v x->eh v
 | .str s,cs,h=>by simp only[aD]at h;obtain⟨bs,_,rfl⟩:=h;simp only[ak.eh];exact L4 bs
 | .cm t,cs,h=>by simp only[aD]at h;obtain⟨_,_,ts,a,_⟩:=h;simp only[ak.eh];exact aU.eh t ts a
 | .cT f b,cs,h=>by simp only[aD]at h;obtain⟨_,_,_,_,d,a,_⟩:=h;simp only[ak.eh];exact bk.eh _ b d a
 | .seq b,cs,h=>by
  simp only[aD]at h;simp only[ak.eh];rcases h with⟨rfl,_⟩|⟨_,_,_,_,d,a,_⟩
  ·trivial
  ·exact bk.eh _ b d a
 | .st u b,cs,h=>by simp only[aD]at h;obtain⟨l,d,_,a,_⟩:=h;simp only[ak.eh];exact bk.eh _ b d a
 | .aC b,cs,h=>by simp only[aD]at h;obtain⟨e,a,_⟩:=h;simp only[ak.eh];exact bK.eh b e a
 | .undef,_,_| .bool _,_,_| .int _ _,_,_| .dR,_,_| .aH,_,_| .fF,_,_| .iU,_,_| .gO,_,_| .eB _,_,_| .func _ _ _,_,_=>by simp[ak.eh]
theorem bK.eh:∀(b:List PV)(e:List a4),bK P w ad b e->mI b
 |[],_,_=>by simp[ak.mI]
 |v::vs,e,h=>by
  simp only[bK]at h;obtain⟨y,i,_,a,g⟩:=h;simp only[ak.mI];exact⟨aD.eh v y a,bK.eh vs i g⟩
end
theorem TE{f:a0}{args:List PV}{v:PV}(h:mI args->au P f args v):au P f args v:=by
 by_cases hs:mI args
 ·exact h hs
 ·exact .inr fun w ad b a=>(hs (bK.eh _ _ a)).elim
end
end Go.ak
