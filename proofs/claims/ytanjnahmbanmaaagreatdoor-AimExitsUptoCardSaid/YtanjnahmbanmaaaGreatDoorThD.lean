import Derived.Test.YtanjnahmbanmaaaGreatDoorThC
/- Parts of a proof. -/
set_option linter.unusedSimpArgs false
set_option linter.unusedVariables false
set_option linter.unusedSectionVars false
open BitVec renaming ofInt->am
open Bool renaming cond_eq_ite->ao, and_eq_true->ap, false_eq_true->av
open Go renaming Operand->ax, TypeId->ay, FuncId->aT, Program->a0, ResultVar->a1, Value->a3, IntKind->a4, BinOp->a5, World->a6
open Int renaming natCast_nonneg->a7, ofNat_eq_natCast->a8, toNat_natCast->a9
open List renaming getElem?_eq_getElem->bb, getElem?_eq_some_iff->bd, mem_cons->be, mem_iff_getElem->bi, range->bl, replicate->bo, isEmpty_cons->bp, of_mem_zip->bv, mem_map->b0, mem_of_getElem?->b1, map_id->b2, mem_range'_1->b3, getElem_mem->b4, nodup_cons->b5, map_cons->cb, rec->cc
open Nat renaming ble->ce, beq->ck, ble_eq_true_of_le->cx, beq_refl->cy, pow_succ->c6, mod_lt->c9
open Option renaming ite_none_right_eq_some->da
open Option.some renaming injEq->db
open Prod.mk renaming injEq->dg
namespace Go.az
set_option linter.unusedSectionVars false
variable[Gl]
section
variable{P:a0}{ag:aT->Bool}{q:Cx}
theorem KR{Q:bm->St->Prop}{s:St}:cX P ag q .skip Q s=Q .normal s:=(rfl)
theorem JF{l:Nat}{Q:bm->St->Prop}{s:St}:cX P ag q (.label l) Q s=Q .normal s:=(rfl)
theorem KS{id:Nat}{Q:bm->St->Prop}{s:St}:cX P ag q (.exit id) Q s=Q (.exit id) s:=(rfl)
theorem Pm{Q:bm->St->Prop}{s:St}:cX P ag q .ret Q s=Q .ret s:=(rfl)
theorem JD{b:Code}{Q:bm->St->Prop}{s:St}:cX P ag q (.scope b) Q s=cX P ag q b Q s:=(rfl)
theorem KU{id:Nat}{l:List Oper}{Q:bm->St->Prop}{s:St}:cX P ag q (.region id l.toArray true) Q s=fU P ag l.toArray l 0 [] (Q .normal) s:=by simp[cX]
theorem JE{id:Nat}{l:List Oper}{Q:bm->St->Prop}{s:St}:cX P ag q (.region id l.toArray false) Q s=fO P ag l.toArray l (Q .normal) s:=by simp[cX]
theorem Pn{a b:Code}{Q:bm->St->Prop}{s:St}:cX P ag q (.seq a b) Q s=cX P ag q a (sZ (cX P ag q b Q) Q) s:=(rfl)
theorem JG{id:Nat}{b:Code}{Q:bm->St->Prop}{s:St}:cX P ag q (.block id b) Q s=cX P ag q b (nj id Q) s:=(rfl)
theorem KW{c:ax}{a b:Code}{Q:bm->St->Prop}{s:St}:cX P ag q (.cond c a b) Q s=sA (ev s.env c) (cX P ag q a Q) (cX P ag q b Q) s:=(rfl)
theorem FR{K:St->Prop}{Q:bm->St->Prop}{s:St}:sZ K Q .normal s=K s:=(rfl)
theorem Hf{id:Nat}{K:St->Prop}{Q:bm->St->Prop}{s:St}:sZ K Q (.exit id) s=Q (.exit id) s:=(rfl)
theorem Ih{K:St->Prop}{Q:bm->St->Prop}{s:St}:sZ K Q .ret s=Q .ret s:=(rfl)
theorem Gd{t:Bool}{a b:St->Prop}{s:St}:sA (.p (.bool t)) a b s=if t then a s else b s:=(rfl)
def u7(P:a0)(ag:aT->Bool)(b:Array Oper)(r:List Oper)(i:Nat)(a:List Touch)(K:St->Prop)(dst:Option Tmp)(s:St)(e:aS):Prop:=
 fU P ag b r (i+1) (fN i s.heap.length e a) K (e.app dst s)
theorem IL{b:Array Oper}{r:List Oper}{i:Nat}{a:List Touch}{K:St->Prop}{dst:Option Tmp}{env:Env}{heap:aj}{v:AV}{ak aI:List (Nat×Obj)}{aQ:List Obj}:
 u7 P ag b r i a K dst ⟨env,heap⟩ ⟨v,ak,aI,aQ⟩=fU P ag b r (i+1) (fN i heap.length ⟨v,ak,aI,aQ⟩ a) K ⟨put dst v env,bk heap aI++aQ⟩:=(rfl)
theorem Kq{dst:Option Tmp}{env:Env}{heap:aj}{K:St->Prop}{v:AV}{ak aI:List (Nat×Obj)}{aQ:List Obj}:eh dst ⟨env,heap⟩ K ⟨v,ak,aI,aQ⟩=K ⟨put dst v env,bk heap aI++aQ⟩:=(rfl)
theorem J0{dst:Option Tmp}{env:Env}{heap H:aj}{K:St->Prop}{v:AV}:za dst ⟨env,heap⟩ K v H=K ⟨put dst v env,H⟩:=(rfl)
def xN(P:a0)(ag:aT->Bool)(b:Array Oper)(o:Oper)(r:List Oper)(i:Nat)(a:List Touch)(K:St->Prop)(c:Bool)(s:St)(g:AV):Prop:=
 match g with
 | .p (.bool t)=>if t=c then c7 P ag o s (u7 P ag b r i a K o.dst s)else fU P ag b r (i+1) a K ⟨put o.dst (.p (.aA [])) s.env,s.heap⟩
 | .p (.aA [])=>fU P ag b r (i+1) a K ⟨put o.dst (.p (.aA [])) s.env,s.heap⟩
 |_=>False
def xY(P:a0)(ag:aT->Bool)(a:Array Oper)(o:Oper)(r:List Oper)(K:St->Prop)(b:Bool)(s:St)(g:AV):Prop:=
 match g with
 | .p (.bool t)=>if t=b then cZ P ag o (fO P ag a r K) s else fO P ag a r K ⟨put o.dst (.p (.aA [])) s.env,s.heap⟩
 | .p (.aA [])=>fO P ag a r K ⟨put o.dst (.p (.aA [])) s.env,s.heap⟩
 |_=>False
theorem KQ{b:Array Oper}{i:Nat}{a:List Touch}{K:St->Prop}{s:St}:fU P ag b [] i a K s=(gZ b a=true/\K s):=(rfl)
theorem JC{b:Array Oper}{i c:Nat}{pos:String}{a:List Touch}{K:St->Prop}{s:St}{dst:Option Tmp}{op:Op}{af:Array Edge}{r:List Oper}:
 fU P ag b ({dst,op,type:=c,pos,after:=af,guard:=none}::r) i a K s=c7 P ag {dst,op,type:=c,pos,after:=af,guard:=none} s (u7 P ag b r i a K dst s):=(rfl)
theorem Io{a:Array Oper}{i d j:Nat}{b:Bool}{pos:String}{c:List Touch}{K:St->Prop}{s:St}{dst:Option Tmp}{op:Op}{af:Array Edge}{r:List Oper}:
 fU P ag a ({dst,op,type:=d,pos,after:=af,guard:=some (j,b)}::r) i c K s=xN P ag a {dst,op,type:=d,pos,after:=af,guard:=some (j,b)} r i c K b s (guardOf a j s.env):=(rfl)
theorem KM{a:Array Oper}{K:St->Prop}{s:St}:fO P ag a [] K s=K s:=(rfl)
theorem JA{a:Array Oper}{b:Nat}{pos:String}{K:St->Prop}{s:St}{dst:Option Tmp}{op:Op}{af:Array Edge}{r:List Oper}:
 fO P ag a ({dst,op,type:=b,pos,after:=af,guard:=none}::r) K s=cZ P ag {dst,op,type:=b,pos,after:=af,guard:=none} (fO P ag a r K) s:=(rfl)
theorem Im{a:Array Oper}{c j:Nat}{b:Bool}{pos:String}{K:St->Prop}{s:St}{dst:Option Tmp}{op:Op}{af:Array Edge}{r:List Oper}:
 fO P ag a ({dst,op,type:=c,pos,after:=af,guard:=some (j,b)}::r) K s=xY P ag a {dst,op,type:=c,pos,after:=af,guard:=some (j,b)} r K b s (guardOf a j s.env):=(rfl)
end
section CV
variable{P:a0}{ag:aT->Bool}{q:Cx}
end CV
section ops
variable{P:a0}{ag:aT->Bool}{dst:Option Tmp}{ty:Nat}{pos:String}{af:Array Edge}{g:Option (Nat×Bool)}{env:Env}{heap:aj}{K:aS->Prop}{L:St->Prop}
theorem Mz{x:ax}:c7 P ag ⟨dst,.move x,ty,pos,af,g⟩ ⟨env,heap⟩ K=K {v:=ev env x}:=(rfl)
theorem IJ{x:ax}:c7 P ag ⟨dst,.assign x,ty,pos,af,g⟩ ⟨env,heap⟩ K=K {v:=ev env x}:=(rfl)
theorem Mx{c a b:ax}:c7 P ag ⟨dst,.pick c a b,ty,pos,af,g⟩ ⟨env,heap⟩ K=ba (qy (ev env c) (ev env a) (ev env b)) K:=(rfl)
theorem Kg{T:ay}:c7 P ag ⟨dst,.alloc T,ty,pos,af,g⟩ ⟨env,heap⟩ K=ba (qe P T heap.length) K:=(rfl)
theorem Nv{T:ay}{x:ax}:c7 P ag ⟨dst,.box T x,ty,pos,af,g⟩ ⟨env,heap⟩ K=ba (sM P T heap.length (ev env x)) K:=(rfl)
theorem Kf{T:ay}{a:Array (Nat×ax)}:c7 P ag ⟨dst,.build T a,ty,pos,af,g⟩ ⟨env,heap⟩ K=ba (qc P T (a.toList.map fun(i,x)=>(i,ev env x))) K:=(rfl)
theorem Fu{T:ay}{n:Nat}{a:Array (Nat×ax)}:c7 P ag ⟨dst,.buildSlice T n a,ty,pos,af,g⟩ ⟨env,heap⟩ K=ba (pg P T n (a.toList.map fun(i,x)=>(i,ev env x)) heap.length) K:=(rfl)
theorem L4{T:ay}{a:ax}:c7 P ag ⟨dst,.load T a,ty,pos,af,g⟩ ⟨env,heap⟩ K=ba (oI P T heap (ev env a)) K:=(rfl)
theorem Kb{T:ay}{a x:ax}:c7 P ag ⟨dst,.store T a x,ty,pos,af,g⟩ ⟨env,heap⟩ K=ba (ow P T heap (ev env a) (ev env x)) K:=(rfl)
theorem Nu{op:a5}{T a:ay}{x y:ax}:c7 P ag ⟨dst,.binOp op T x y a,ty,pos,af,g⟩ ⟨env,heap⟩ K=ba (iX P op T (lO y) heap (ev env x) (ev env y)) K:=(rfl)
theorem Nz{op:UnOp}{T:ay}{x:ax}:c7 P ag ⟨dst,.unOp op T x,ty,pos,af,g⟩ ⟨env,heap⟩ K=ba (q9 op (ev env x)) K:=(rfl)
theorem L6{S D:ay}{x:ax}:c7 P ag ⟨dst,.convert S D x,ty,pos,af,g⟩ ⟨env,heap⟩ K=ba (qm P S D heap (ev env x)) K:=(rfl)
theorem HK{t:ax}{i:Nat}:c7 P ag ⟨dst,.extract t i,ty,pos,af,g⟩ ⟨env,heap⟩ K=ba (pI (ev env t) i) K:=(rfl)
theorem FU{T:ay}{a:ax}{f:Nat}:c7 P ag ⟨dst,.fieldAddr T a f,ty,pos,af,g⟩ ⟨env,heap⟩ K=ba (nU P T (ev env a) f) K:=(rfl)
theorem FT{T:ay}{x i:ax}:c7 P ag ⟨dst,.indexAddr T x i,ty,pos,af,g⟩ ⟨env,heap⟩ K=ba (nT P T heap (ev env x) (ev env i)) K:=(rfl)
theorem Ke{T:ay}{x i:ax}:c7 P ag ⟨dst,.index T x i,ty,pos,af,g⟩ ⟨env,heap⟩ K=ba (qg P T (ev env x) (ev env i)) K:=(rfl)
theorem Nw{x:ax}{a:Array ay}:c7 P ag ⟨dst,.call {callee:=.builtin .len,args:=#[x],argTypes:=a},ty,pos,af,g⟩ ⟨env,heap⟩ K=ba (qW P (a.getD 0 0) a.size heap (ev env x)) K:=(rfl)
theorem L7{f:ax}{args:List ax}{a:Array ay}:c7 P ag ⟨dst,.call {callee:=.value f,args:=args.toArray,argTypes:=a},ty,pos,af,g⟩ ⟨env,heap⟩ K=p0 P (ev env f) (args.map (ev env)) heap K:=(rfl)
theorem LB{x:ax}:cZ P ag ⟨dst,.move x,ty,pos,af,g⟩ L ⟨env,heap⟩=eh dst ⟨env,heap⟩ L {v:=ev env x}:=(rfl)
theorem HU{x:ax}:cZ P ag ⟨dst,.assign x,ty,pos,af,g⟩ L ⟨env,heap⟩=eh dst ⟨env,heap⟩ L {v:=ev env x}:=(rfl)
theorem Lz{c a b:ax}:cZ P ag ⟨dst,.pick c a b,ty,pos,af,g⟩ L ⟨env,heap⟩=ba (qy (ev env c) (ev env a) (ev env b)) (eh dst ⟨env,heap⟩ L):=(rfl)
theorem JP{T:ay}:cZ P ag ⟨dst,.alloc T,ty,pos,af,g⟩ L ⟨env,heap⟩=ba (qe P T heap.length) (eh dst ⟨env,heap⟩ L):=(rfl)
theorem OR{T:ay}{x:ax}:cZ P ag ⟨dst,.box T x,ty,pos,af,g⟩ L ⟨env,heap⟩=ba (sM P T heap.length (ev env x)) (eh dst ⟨env,heap⟩ L):=(rfl)
theorem JO{T:ay}{a:Array (Nat×ax)}:cZ P ag ⟨dst,.build T a,ty,pos,af,g⟩ L ⟨env,heap⟩=ba (qc P T (a.toList.map fun(i,x)=>(i,ev env x))) (eh dst ⟨env,heap⟩ L):=(rfl)
theorem Fm{T:ay}{n:Nat}{a:Array (Nat×ax)}:cZ P ag ⟨dst,.buildSlice T n a,ty,pos,af,g⟩ L ⟨env,heap⟩=ba (pg P T n (a.toList.map fun(i,x)=>(i,ev env x)) heap.length) (eh dst ⟨env,heap⟩ L):=(rfl)
theorem LC{T:ay}{a:ax}:cZ P ag ⟨dst,.load T a,ty,pos,af,g⟩ L ⟨env,heap⟩=ba (oI P T heap (ev env a)) (eh dst ⟨env,heap⟩ L):=(rfl)
theorem J4{T:ay}{a x:ax}:cZ P ag ⟨dst,.store T a x,ty,pos,af,g⟩ L ⟨env,heap⟩=ba (ow P T heap (ev env a) (ev env x)) (eh dst ⟨env,heap⟩ L):=(rfl)
theorem OQ{op:a5}{T a:ay}{x y:ax}:cZ P ag ⟨dst,.binOp op T x y a,ty,pos,af,g⟩ L ⟨env,heap⟩=ba (iX P op T (lO y) heap (ev env x) (ev env y)) (eh dst ⟨env,heap⟩ L):=(rfl)
theorem OV{op:UnOp}{T:ay}{x:ax}:cZ P ag ⟨dst,.unOp op T x,ty,pos,af,g⟩ L ⟨env,heap⟩=ba (q9 op (ev env x)) (eh dst ⟨env,heap⟩ L):=(rfl)
theorem LF{S D:ay}{x:ax}:cZ P ag ⟨dst,.convert S D x,ty,pos,af,g⟩ L ⟨env,heap⟩=ba (qm P S D heap (ev env x)) (eh dst ⟨env,heap⟩ L):=(rfl)
theorem GS{t:ax}{i:Nat}:cZ P ag ⟨dst,.extract t i,ty,pos,af,g⟩ L ⟨env,heap⟩=ba (pI (ev env t) i) (eh dst ⟨env,heap⟩ L):=(rfl)
theorem FK{T:ay}{a:ax}{f:Nat}:cZ P ag ⟨dst,.fieldAddr T a f,ty,pos,af,g⟩ L ⟨env,heap⟩=ba (nU P T (ev env a) f) (eh dst ⟨env,heap⟩ L):=(rfl)
theorem FJ{T:ay}{x i:ax}:cZ P ag ⟨dst,.indexAddr T x i,ty,pos,af,g⟩ L ⟨env,heap⟩=ba (nT P T heap (ev env x) (ev env i)) (eh dst ⟨env,heap⟩ L):=(rfl)
theorem JN{T:ay}{x i:ax}:cZ P ag ⟨dst,.index T x i,ty,pos,af,g⟩ L ⟨env,heap⟩=ba (qg P T (ev env x) (ev env i)) (eh dst ⟨env,heap⟩ L):=(rfl)
theorem OS{x:ax}{a:Array ay}:cZ P ag ⟨dst,.call {callee:=.builtin .len,args:=#[x],argTypes:=a},ty,pos,af,g⟩ L ⟨env,heap⟩=ba (qW P (a.getD 0 0) a.size heap (ev env x)) (eh dst ⟨env,heap⟩ L):=(rfl)
theorem LG{f:ax}{args:List ax}{a:Array ay}:cZ P ag ⟨dst,.call {callee:=.value f,args:=args.toArray,argTypes:=a},ty,pos,af,g⟩ L ⟨env,heap⟩=qo P (ev env f) (args.map (ev env)) heap (za dst ⟨env,heap⟩ L):=(rfl)
theorem Kc{T:ay}{x:ax}{lo hi:Option ax}:c7 P ag ⟨dst,.slice T x lo hi none,ty,pos,af,g⟩ ⟨env,heap⟩ K=ba (oA P T heap (ev env x) (lo.map (ev env)) (hi.map (ev env))) K:=(rfl)
theorem JL{T:ay}{x:ax}{lo hi:Option ax}:cZ P ag ⟨dst,.slice T x lo hi none,ty,pos,af,g⟩ L ⟨env,heap⟩=ba (oA P T heap (ev env x) (lo.map (ev env)) (hi.map (ev env))) (eh dst ⟨env,heap⟩ L):=(rfl)
theorem IH{T:ay}{x i:ax}{ok:Bool}:c7 P ag ⟨dst,.lookup T x i ok,ty,pos,af,g⟩ ⟨env,heap⟩ K=ba (qt P T heap (ev env x) (ev env i) ok) K:=(rfl)
theorem HR{T:ay}{x i:ax}{ok:Bool}:cZ P ag ⟨dst,.lookup T x i ok,ty,pos,af,g⟩ L ⟨env,heap⟩=ba (qt P T heap (ev env x) (ev env i) ok) (eh dst ⟨env,heap⟩ L):=(rfl)
theorem F6{T:ay}{m k x:ax}:c7 P ag ⟨dst,.mapUpdate T m k x,ty,pos,af,g⟩ ⟨env,heap⟩ K=ba (lN P T heap (ev env m) (ev env k) (ev env x)) K:=(rfl)
theorem FH{T:ay}{m k x:ax}:cZ P ag ⟨dst,.mapUpdate T m k x,ty,pos,af,g⟩ L ⟨env,heap⟩=ba (lN P T heap (ev env m) (ev env k) (ev env x)) (eh dst ⟨env,heap⟩ L):=(rfl)
theorem II{T:ay}{m k x:ax}:c7 P ag ⟨dst,.insert T m k x,ty,pos,af,g⟩ ⟨env,heap⟩ K=ba (lN P T heap (ev env m) (ev env k) (ev env x)) K:=(rfl)
theorem HT{T:ay}{m k x:ax}:cZ P ag ⟨dst,.insert T m k x,ty,pos,af,g⟩ L ⟨env,heap⟩=ba (lN P T heap (ev env m) (ev env k) (ev env x)) (eh dst ⟨env,heap⟩ L):=(rfl)
theorem Kd{T:ay}{x:ax}:c7 P ag ⟨dst,.range T x,ty,pos,af,g⟩ ⟨env,heap⟩ K=ba (pW P T heap.length (ev env x)) K:=(rfl)
theorem JM{T:ay}{x:ax}:cZ P ag ⟨dst,.range T x,ty,pos,af,g⟩ L ⟨env,heap⟩=ba (pW P T heap.length (ev env x)) (eh dst ⟨env,heap⟩ L):=(rfl)
theorem My{it:ax}:c7 P ag ⟨dst,.next it true,ty,pos,af,g⟩ ⟨env,heap⟩ K=ba (qA heap (ev env it)) K:=(rfl)
theorem LA{it:ax}:cZ P ag ⟨dst,.next it true,ty,pos,af,g⟩ L ⟨env,heap⟩=ba (qA heap (ev env it)) (eh dst ⟨env,heap⟩ L):=(rfl)
theorem F7{T:ay}{l c:ax}:c7 P ag ⟨dst,.makeSlice T l c,ty,pos,af,g⟩ ⟨env,heap⟩ K=ba (qC P T heap.length (ev env l) (ev env c)) K:=(rfl)
theorem FI{T:ay}{l c:ax}:cZ P ag ⟨dst,.makeSlice T l c,ty,pos,af,g⟩ L ⟨env,heap⟩=ba (qC P T heap.length (ev env l) (ev env c)) (eh dst ⟨env,heap⟩ L):=(rfl)
theorem Ga{x:ax}:c7 P ag ⟨dst,.nilCheck x,ty,pos,af,g⟩ ⟨env,heap⟩ K=ba (pR (ev env x)) K:=(rfl)
theorem GA{x:ax}:cZ P ag ⟨dst,.nilCheck x,ty,pos,af,g⟩ L ⟨env,heap⟩=ba (pR (ev env x)) (eh dst ⟨env,heap⟩ L):=(rfl)
theorem Ny{args:Array ax}{a:Array ay}:c7 P ag ⟨dst,.call {callee:=.builtin .min,args,argTypes:=a},ty,pos,af,g⟩ ⟨env,heap⟩ K=ba (kg false (args.toList.map (ev env))) K:=(rfl)
theorem OU{args:Array ax}{a:Array ay}:cZ P ag ⟨dst,.call {callee:=.builtin .min,args,argTypes:=a},ty,pos,af,g⟩ L ⟨env,heap⟩=ba (kg false (args.toList.map (ev env))) (eh dst ⟨env,heap⟩ L):=(rfl)
theorem Nx{args:Array ax}{a:Array ay}:c7 P ag ⟨dst,.call {callee:=.builtin .max,args,argTypes:=a},ty,pos,af,g⟩ ⟨env,heap⟩ K=ba (kg true (args.toList.map (ev env))) K:=(rfl)
theorem OT{args:Array ax}{a:Array ay}:cZ P ag ⟨dst,.call {callee:=.builtin .max,args,argTypes:=a},ty,pos,af,g⟩ L ⟨env,heap⟩=ba (kg true (args.toList.map (ev env))) (eh dst ⟨env,heap⟩ L):=(rfl)
theorem HJ{T:ay}:c7 P ag ⟨dst,.makeMap T none,ty,pos,af,g⟩ ⟨env,heap⟩ K=K {v:=.map heap.length,aQ:=[.map false []]}:=(rfl)
theorem Ht{T:ay}:cZ P ag ⟨dst,.makeMap T none,ty,pos,af,g⟩ L ⟨env,heap⟩=eh dst ⟨env,heap⟩ L {v:=.map heap.length,aQ:=[.map false []]}:=(rfl)
theorem IK{s x:ax}{T X:ay}:c7 P ag ⟨dst,.call {callee:=.builtin .append,args:=#[s,x],argTypes:=#[T,X]},ty,pos,af,g⟩ ⟨env,heap⟩ K=ba (ov P T X heap (ev env s) (ev env x)) K:=by simp[c7,ki]
theorem HV{s x:ax}{T X:ay}:cZ P ag ⟨dst,.call {callee:=.builtin .append,args:=#[s,x],argTypes:=#[T,X]},ty,pos,af,g⟩ L ⟨env,heap⟩=ba (ov P T X heap (ev env s) (ev env x)) (eh dst ⟨env,heap⟩ L):=by simp[cZ,ki]
theorem L5{s x:ax}{T X:ay}:c7 P ag ⟨dst,.call {callee:=.builtin .copy,args:=#[s,x],argTypes:=#[T,X]},ty,pos,af,g⟩ ⟨env,heap⟩ K=ba (copyV P T heap (ev env s) (ev env x)) K:=by simp[c7,ki]
theorem LD{s x:ax}{T X:ay}:cZ P ag ⟨dst,.call {callee:=.builtin .copy,args:=#[s,x],argTypes:=#[T,X]},ty,pos,af,g⟩ L ⟨env,heap⟩=ba (copyV P T heap (ev env s) (ev env x)) (eh dst ⟨env,heap⟩ L):=by simp[cZ,ki]
theorem Nr{f:aT}{fi ca:List AV}{args:List AV}{M:AV->aj->Prop}:qo P (.func f fi ca) args heap M=gF P false f (fi++args++ca) heap M:=(rfl)
theorem L8{f:aT}{fi ca:List AV}{args:List AV}:p0 P (.func f fi ca) args heap K=gL P f (fi++args++ca) heap K:=(rfl)
theorem Ns{f:aT}{fi ca:List PV}{args:List AV}{M:AV->aj->Prop}:qo P (.p (.func f fi ca)) args heap M=gF P false f (fi.map .p++args++ca.map .p) heap M:=(rfl)
theorem Nt{f:aT}{fi ca:List PV}{args:List AV}:p0 P (.p (.func f fi ca)) args heap K=gL P f (fi.map .p++args++ca.map .p) heap K:=(rfl)
end ops
section
variable{P:a0}
@[simp] theorem aJM{b:Bool}:aJ (.bool b)=.leaf:=(rfl)
@[simp] theorem aKa{k:a4}{n:Int}:aJ (.int k n)=.leaf:=(rfl)
@[simp] theorem aKf{l:List Nat}:aJ (.str l)=.leaf:=(rfl)
@[simp] theorem aKb:aJ .aL=.leaf:=(rfl)
@[simp] theorem aKc{l:List PV}:aJ (.seq l)=.leaf:=(rfl)
@[simp] theorem aKe{u:ay}{fs:List PV}:aJ (.st u fs)=.agg u:=(rfl)
@[simp] theorem aJJ{v:PV}:ad (.p v)=aJ v:=(rfl)
@[simp] theorem aJL{u:ay}{fs:List AV}:ad (.st u fs)=.agg u:=(rfl)
@[simp] theorem aJK{b v e o l:Nat}:ad (.sl b v e o l)=.leaf:=(rfl)
@[simp] theorem aIP{u:ay}{fs:List PV}:bV (.st u fs)=fs:=(rfl)
theorem TZ{a:List a1}{Q:PV->Prop}{s:St}:yE P a Q .ret s=∃vs,fC P s a=some vs/\∃v,er s.heap 9 (oneOf vs)=some v/\Q v:=by simp[yE]
theorem RD{a:List a1}{Q:PV->Prop}{s:St}:yE P a Q .normal s=∃vs,fC P s a=some vs/\∃v,er s.heap 9 (oneOf vs)=some v/\Q v:=by simp[yE]
attribute [simp] TZ RD iU KR JF KS Pm JD KU JE Pn JG KW FR Hf Ih Gd IL Kq J0 KQ JC KM JA Io Im
 Mz IJ Mx Kg Nv Kf Fu L4 Kb Nu Nz L6 HK FU FT Ke Nw L7
 LB HU Lz JP OR JO Fm LC J4 OQ OV LF GS FK FJ JN OS LG Ns Nt Kc JL IH HR F6 FH II HT Kd JM My LA F7 FI Ga GA Ny OU Nx OT HJ Ht IK HV L5 LD Nr L8 ov jZ oA qt lN pW qA qC copyV pR kg gA dt eZ fM kJ qR lD rU gk ia ln Ta TN
 QS Sh To QH Rq S0
 aN put iw ev ofConst bk fN gC ng eL kn fJ gO dW qy qe sM iY qc pg iX sV Dn q9 qm pI qg qW oI ow nU nT lenOf gI gY lj bA
 lO fC oB oneOf er
end
section
variable{P:a0}{ag:aT->Bool}
def sE:jd->jd->Bool
 | .leaf,.leaf=>true
 | .agg u,.agg v=>ck u v
 |_,_=>false
theorem iy{a b:jd}(h:sE a b=true):a=b/\b≠.bad:=by
 cases a<;>cases b<;>simp_all [sE]
def kE:AK->AK->Bool
 | .exact,.exact| .grow,.grow| .frozen,.frozen| .bytes,.bytes=>true
 |_,_=>false
def vt:AK->Bool
 | .frozen=>false
 |_=>true
theorem Cq{k:AK}(h:vt k=true):k≠.frozen:=by cases k<;>simp_all [vt]
def nH(k:AK)(a:List AV):Bool:=match k.gr,a with
 |true,[]=>false
 |_,_=>true
theorem uM{k:AK}{a:List AV}(h:nH k a=true):¬(k.gr=true/\a=[]):=by
 rintro⟨b,rfl⟩;simp[nH,b]at h
theorem c8{a b:Nat}(h:ck a b=true):a=b:=Nat.eq_of_beq_eq_true h
theorem cJ{a b:Nat}(h:ce a b=true):a<=b:=Nat.le_of_ble_eq_true h
def NY:a4->a4->Bool:=fun a b=>decide (a=b)
def uN(P:a0)(l:List Nat):List (Nat×AV)->Bool
 |[]=>true
 |(i,v)::r=>(match l[i]? with
  |some n=>ck (bA P (ad v)) n&&(match ad v with
   | .bad=>false
   |_=>true)
  |none=>false)&&uN P l r
theorem AP{l:List Nat}:∀{r:List (Nat×AV)},uN P l r=true->lj P l r
 |[],_=>trivial
 |(i,v)::r,h=>by
  simp only[uN,ap]at h;refine⟨?_,AP h.2⟩;have a:=h.1
  split at a
  ·rename_i n c;simp only[ap]at a;refine⟨n,c,c8 a.1,fun b=>?_⟩;rw[b]at a;simp at a
  ·simp at a
def oJ(P:a0)(sz:Nat):List AV->Bool
 |[]=>true
 |v::r=>(match ad v with
  | .bad=>false
  |s=>ck (bA P s) sz)&&oJ P sz r
theorem rZ{sz:Nat}:∀{r:List AV},oJ P sz r=true->eZ P sz r
 |[],_=>trivial
 |v::r,h=>by
  simp only[oJ,ap]at h;refine⟨?_,rZ h.2⟩;have a:=h.1
  split at a
  ·simp at a
  ·rename_i b;exact⟨b,c8 a⟩
def C9(P:a0)(T:ay)(H:aj)(a:AV):Option aS:=
 match a with
 | .ptr b path=>match H[b]? with
  |some (.box fz t)=>match eL t path with
   |some s=>bif sE (kindOf P T) (ad s)then some {v:=s,ak:=[(b,.box fz t)]}else none
   |none=>none
  |_=>none
 | .bQ b ar ai i path=>match H[b]? with
  |some (.arr k d c es)=>bif ck ar d&&ck ai c then match es[i]? with
   |some x=>match eL x path with
    |some s=>bif sE (kindOf P T) (ad s)then some {v:=s,ak:=[(b,.arr k d c es)]}else none
    |none=>none
   |none=>none
   else none
  |_=>none
 | .p (.bZ t)=>bif sE (kindOf P T) (aJ t)then some {v:=.p t}else none
 |_=>none
theorem U9{T:ay}{H:aj}{a:AV}{e:aS}{K:aS->Prop}(h:C9 P T H a=some e)(hk:K e):nu P T H a K:=by
 unfold C9 at h;unfold nu
 split at h
 ·split at h
  ·split at h
   ·rename_i hs;simp only[ao,da,db]at h;rename_i c _ _;obtain⟨b,rfl⟩:=h;simp only[c,hs];exact⟨(iy b).1,hk⟩
   ·simp at h
  ·simp at h
 ·split at h
  ·rename_i c;simp only[ao,da,ap]at h;obtain⟨⟨b,d⟩,h⟩:=h
   split at h
   ·rename_i hx
    split at h
    ·rename_i hs;simp only[da,db]at h;obtain⟨f,rfl⟩:=h;obtain⟨hi,rfl⟩:=bd.1 hx;simp only[c];refine⟨c8 b,c8 d,hi,?_⟩;simp only[hs];exact⟨(iy f).1,hk⟩
    ·simp at h
   ·simp at h
  ·simp at h
 ·simp only[ao,da,db]at h;obtain⟨b,rfl⟩:=h;exact⟨(iy b).1,hk⟩
 ·simp at h
def Ch(P:a0)(T:ay)(H:aj)(a x:AV):Option aS:=
 bif sE (kindOf P T) (ad x)then match a with
 | .ptr b path=>match H[b]? with
  |some (.box false t)=>match eL t path,fJ t path x with
   |some s,some d=>bif sE (ad s) (ad x)then some {v:=.p (.aA []),ak:=[(b,.box false t)],aI:=[(b,.box false d)]}else none
   |_,_=>none
  |_=>none
 | .bQ b ar ai i path=>match H[b]? with
  |some (.arr k e c es)=>bif ck ar e&&(ck ai c&&vt k)then match es[i]? with
   |some y=>match eL y path,fJ y path x with
    |some s,some d=>bif sE (ad s) (ad x)then some {v:=.p (.aA []),ak:=[(b,.arr k e c es)],aI:=[(b,.arr k e c (es.set i d))]}else none
    |_,_=>none
   |none=>none
   else none
  |_=>none
 |_=>none
 else none
theorem Tf{T:ay}{H:aj}{a x:AV}{e:aS}{K:aS->Prop}(h:Ch P T H a x=some e)(hk:K e):mX P T H a x K:=by
 unfold Ch at h;unfold mX;simp only[ao,da]at h;obtain⟨f,h⟩:=h;refine⟨(iy f).1,(iy f).2,?_⟩
 split at h
 ·split at h
  ·rename_i c
   split at h
   ·rename_i hs d;simp only[da,db]at h;obtain⟨b,rfl⟩:=h;simp only[c,hs,d];exact⟨(iy b).1,hk⟩
   ·simp at h
  ·simp at h
 ·split at h
  ·rename_i c;simp only[da,ap]at h;obtain⟨⟨b,g,i⟩,h⟩:=h
   split at h
   ·rename_i k
    split at h
    ·rename_i hs d;simp only[da,db]at h;obtain⟨j,rfl⟩:=h;obtain⟨hi,rfl⟩:=bd.1 k;simp only[c];refine⟨c8 b,c8 g,Cq i,hi,?_⟩;simp only[hs,d];exact⟨(iy j).1,hk⟩
    ·simp at h
   ·simp at h
  ·simp at h
 ·simp at h
def C3(op:a5)(k:a4)(a b:Int):Option PV:=
 match op with
 | .add=>some (.int k (k.wrap (a+b)))
 | .sub=>some (.int k (k.wrap (a-b)))
 | .mul=>some (.int k (k.wrap (a*b)))
 | .quo=>match b with
  | .ofNat 0=>none
  |b=>some (.int k (k.wrap (a.tdiv b)))
 | .rem=>match b with
  | .ofNat 0=>none
  |b=>some (.int k (a.tmod b))
 | .and=>some (.int k (k.wrap (am k.bits a&&&am k.bits b).toNat))
 | .or=>some (.int k (k.wrap (am k.bits a|||am k.bits b).toNat))
 | .xor=>some (.int k (k.wrap (am k.bits a^^^am k.bits b).toNat))
 | .andNot=>some (.int k (k.wrap (am k.bits a&&&~~~am k.bits b).toNat))
 | .eql=>some (.bool (a==b))
 | .neq=>some (.bool (a !=b))
 | .lss=>some (.bool (decide (a<b)))
 | .leq=>some (.bool (decide (a<=b)))
 | .gtr=>some (.bool (decide (a>b)))
 | .geq=>some (.bool (decide (a>=b)))
 | .shl=>match b with
  | .ofNat _=>some (.int k (k.wrap (a*2^(min b.toNat k.bits))))
  |_=>none
 | .shr=>match b with
  | .ofNat _=>some (.int k (a.fdiv (2^(min b.toNat k.bits))))
  |_=>none
theorem Yw{op:a5}{k:a4}{a b:Int}{v:PV}{K:PV->Prop}(h:C3 op k a b=some v)(hk:K v):oH op k a b K:=by
 cases op<;>simp only[C3]at h<;>simp only[oH]
 case quo|rem=>
  split at h
  ·simp at h
  ·rename_i d;simp only[db]at h;subst h;exact⟨fun c=>d (by rw[c];rfl),hk⟩
 case shl|shr=>
  split at h
  ·simp only[db]at h;subst h;exact⟨a7 _,hk⟩
  ·simp at h
 all_goals (simp only[db]at h;subst h;exact hk)
def CR(P:a0)(op:a5)(T:ay)(c:Bool)(H:aj)(x y:AV):Option PV:=
 match x,y with
 | .p (.int k a),.p (.int d b)=>bif NY k d||(match op with
  | .shl| .shr=>true
  |_=>false)then C3 op k a b else none
 | .p (.str a),.p (.str b)=>match op with
  | .add=>bif ce (a.length+b.length) 9223372036854775807 then some (.str (a++b))else none
  | .eql=>some (.bool (a==b))
  | .neq=>some (.bool (!(a==b)))
  | .lss=>some (.bool (iQ a b))
  | .leq=>some (.bool (iQ a b||a==b))
  | .gtr=>some (.bool (!(iQ a b||a==b)))
  | .geq=>some (.bool (!(iQ a b)))
  |_=>none
 | .p (.bool a),.p (.bool b)=>bif pU P T then match op with
  | .eql=>some (.bool (a==b))
  | .neq=>some (.bool (!(a==b)))
  |_=>none
  else none
 | .p (.st u fs),.p (.st u' gs)=>bif qS P T then match iC P 9 T (.st u fs) (.st u' gs),op with
  |some r,.eql=>some (.bool r)
  |some r,.neq=>some (.bool !r)
  |_,_=>none
  else none
 |x,y=>match dm P T c y with
  |some k=>match cH H k x,op with
   |some r,.eql=>some (.bool r)
   |some r,.neq=>some (.bool !r)
   |_,_=>none
  |none=>none
theorem Wc{op:a5}{T:ay}{c:Bool}{H:aj}{x y:AV}{v:PV}{K:PV->Prop}(h:CR P op T c H x y=some v)(hk:K v):jU P op T c H x y K:=by
 unfold CR at h;unfold jU
 split at h
 ·simp only[ao,da,Bool.or_eq_true,NY,decide_eq_true_eq]at h;refine⟨?_,Yw h.2 hk⟩;rcases h.1 with b|b
  ·exact .inl b
  ·cases op<;>simp at b<;>simp
 ·split at h<;>simp only[oG]
  ·simp only[ao,da,db]at h;obtain⟨b,rfl⟩:=h;exact⟨by have:=cJ b;omega,hk⟩
  ·simp only[db]at h;subst h;exact hk
  ·simp only[db]at h;subst h;exact hk
  ·simp only[db]at h;subst h;exact hk
  ·simp only[db]at h;subst h;exact hk
  ·simp only[db]at h;subst h;exact hk
  ·simp only[db]at h;subst h;exact hk
  ·simp at h
 ·simp only[ao,da]at h;refine⟨h.1,?_⟩;have a:=h.2
  split at a
  ·simp only[db]at a;subst a;exact hk
  ·simp only[db]at a;subst a;exact hk
  ·simp at a
 ·simp only[ao,da]at h;refine⟨h.1,?_⟩;have a:=h.2
  split at a
  ·rename_i d;simp only[db]at a;subst a;simp only[d];exact hk
  ·rename_i d;simp only[db]at a;subst a;simp only[d];exact hk
  ·simp at a
 ·split at h
  case h_2=>simp at h
  rename_i k f;show jU P op T c H x y _;rw[Hw f];obtain⟨r,e,d⟩:∃r,cH H k x=some r/\((op=.eql/\v=.bool r)\/(op=.neq/\v=.bool !r)):=by
   revert h;generalize cH H k x=q;intro h;cases q with
   |none=>simp at h
   |some r=>cases op<;>simp at h<;>exact⟨r,rfl,by simp[h]⟩
  rw[e];rcases d with⟨rfl,rfl⟩|⟨rfl,rfl⟩<;>exact hk
def AD(P:a0)(T:ay)(a:AV)(f:Nat):Option aS:=
 match fw P T with
 |some (u,n)=>bif ce (f+1) n then match a with
  | .ptr b path=>some {v:=.ptr b (path++[(u,f)])}
  | .bQ b ar ai i path=>some {v:=.bQ b ar ai i (path++[(u,f)])}
  | .p (.bZ t)=>bif sE (aJ t) (.agg u)then match(bV t)[f]? with
   |some g=>some {v:=.p (.bZ g)}
   |none=>none
   else none
  |_=>none
  else none
 |_=>none
theorem QL{T:ay}{a:AV}{f:Nat}{e:aS}{K:aS->Prop}(h:AD P T a f=some e)(hk:K e):mO P T a f K:=by
 unfold AD at h;unfold mO
 split at h
 ·rename_i hs;simp only[ao,da]at h;obtain⟨b,h⟩:=h;simp only[hs];refine⟨by have:=cJ b;omega,?_⟩
  split at h
  ·simp only[db]at h;subst h;exact hk
  ·simp only[db]at h;subst h;exact hk
  ·simp only[da]at h;obtain⟨c,h⟩:=h
   split at h
   ·rename_i d;simp only[db]at h;subst h;simp only[d];exact⟨(iy c).1,hk⟩
   ·simp at h
  ·simp at h
 ·simp at h
def oE(a:Option Nat)(b:Nat):Bool:=match a with
 |some x=>ck x b
 |none=>false
theorem u5{a:Option Nat}{b:Nat}(h:oE a b=true):a=some b:=by
 unfold oE at h;split at h
 ·rw[c8 h]
 ·simp at h
def Az(P:a0)(T:ay)(H:aj)(x i:AV):Option aS:=
 match i with
 | .p (.int _ (.ofNat i))=>match x with
  | .p (.cE _ es)=>match es[i]? with
   |some y=>bif oE (cz P T) (bA P (aJ y))then some {v:=.p (.bZ y)}else none
   |none=>none
  | .p (.seq es)=>match es[i]? with
   |some y=>bif oE (cz P T) (bA P (aJ y))then some {v:=.p (.bZ y)}else none
   |none=>none
  | .sl b ar ai off len=>bif oE (cz P T) ai&&ce (i+1) len then match H[b]? with
   |some (.arr k c a es)=>bif ck ar c&&(ck ai a&&nH k es)then some {v:=.bQ b ar ai (off+i) [],ak:=[(b,.arr k c a es)]}else none
   |_=>none
   else none
  | .ptr b path=>match gT P T with
   |some (u,n)=>bif ce (i+1) n then some {v:=.ptr b (path++[(u,i)])}else none
   |_=>none
  | .bQ b ar ai j path=>match gT P T with
   |some (u,n)=>bif ce (i+1) n then some {v:=.bQ b ar ai j (path++[(u,i)])}else none
   |_=>none
  | .p (.bZ t)=>match gT P T with
   |some (u,n)=>bif sE (aJ t) (.agg u)&&ce (i+1) n then match(bV t)[i]? with
    |some g=>some {v:=.p (.bZ g)}
    |none=>none
    else none
   |_=>none
  |_=>none
 |_=>none
theorem QX{T:ay}{H:aj}{x i:AV}{e:aS}{K:aS->Prop}(h:Az P T H x i=some e)(hk:K e):mN P T H x i K:=by
 unfold Az at h;unfold mN
 split at h
 case h_2=>simp at h
 rename_i i;refine⟨a7 _,?_⟩;simp only[a8,a9]
 split at h
 ·split at h
  ·rename_i y d;simp only[ao,da,db]at h;obtain⟨a,rfl⟩:=h;obtain⟨hi,rfl⟩:=bd.1 d;exact⟨hi,u5 a,hk⟩
  ·simp at h
 ·split at h
  ·rename_i y d;simp only[ao,da,db]at h;obtain⟨a,rfl⟩:=h;obtain⟨hi,rfl⟩:=bd.1 d;exact⟨hi,u5 a,hk⟩
  ·simp at h
 ·simp only[ao,da,ap]at h;obtain⟨⟨a,c⟩,h⟩:=h;refine⟨u5 a,by have:=cJ c;omega,?_⟩
  split at h
  ·rename_i k;simp only[da,db]at h;obtain⟨⟨f,g,j⟩,rfl⟩:=h;simp only[k];exact⟨c8 f,c8 g,uM j,hk⟩
  ·simp at h
 ·split at h
  ·rename_i b;simp only[ao,da,db]at h;obtain⟨a,rfl⟩:=h;simp only[b];exact⟨by have:=cJ a;omega,hk⟩
  ·simp at h
 ·split at h
  ·rename_i b;simp only[ao,da,db]at h;obtain⟨a,rfl⟩:=h;simp only[b];exact⟨by have:=cJ a;omega,hk⟩
  ·simp at h
 ·split at h
  ·rename_i b;simp only[ao,da,ap]at h;obtain⟨⟨a,c⟩,h⟩:=h
   split at h
   ·rename_i l;simp only[db]at h;subst h;simp only[b,l];exact⟨(iy a).1,by have:=cJ c;omega,hk⟩
   ·simp at h
  ·simp at h
 ·simp at h
def Ca(P:a0)(T X:ay)(H:aj)(s x:AV):Option aS:=
 match cz P T,gA H x with
 |some sz,some xs=>bif iA P X&&((ch P (ey P T)).isSome&&oJ P sz xs)then
  match s with
  | .p .aL=>match xs with
   |[]=>some {v:=s,ak:=dt H x}
   |y::r=>bif ce (y::r).length cN then some {v:=.sl H.length 0 sz 0 (y::r).length,ak:=dt H x,aQ:=[.arr (gk P T) 0 sz (y::r)]}else none
  | .p (.cE full es)=>bif oJ P sz (es.map .p)then match xs with
   |[]=>some {v:=s,ak:=dt H x}
   |y::r=>bif full&&ce (es.length+(y::r).length) cN then
    some {v:=.sl H.length 0 sz 0 (es.length+(y::r).length),ak:=dt H x,aQ:=[.arr (gk P T) 0 sz (es.map .p++(y::r))]}else none
   else none
  | .sl b ar ai off len=>match H[b]? with
   |some (.arr k c a es)=>bif ck ar c&&(ck ai a&&(ck ai sz&&ce (off+len) es.length))then
    match xs with
    |[]=>some {v:=s,ak:=(b,.arr k c a es)::dt H x}
    |y::r=>bif ce (es.length+(y::r).length) cN then match k with
     | .frozen=>none
     | .exact=>bif ce (off+len+(y::r).length) es.length then
      some {v:=.sl b ar ai off (len+(y::r).length),ak:=(b,.arr .exact c a es)::dt H x,aI:=[(b,.arr .exact ar ai (es.take (off+len)++(y::r)++es.drop (off+len+(y::r).length)))]}
      else some {v:=.sl H.length 0 sz 0 (len+(y::r).length),ak:=(b,.arr .exact c a es)::dt H x,aQ:=[.arr (gk P T) 0 sz ((es.drop off).take len++(y::r))]}
     | .grow=>bif ck off 0 then some {v:=.sl b (ar+1) ai 0 (len+(y::r).length),ak:=(b,.arr .grow c a es)::dt H x,aI:=[(b,.arr .grow (ar+1) ai (es.take len++(y::r)))]}else none
     | .bytes=>bif ck off 0&&ck (ey P T) Gl.u8 then some {v:=.sl b (ar+1) ai 0 (len+(y::r).length),ak:=(b,.arr .bytes c a es)::dt H x,aI:=[(b,.arr .bytes (ar+1) ai (es.take len++(y::r)))]}else none
     else none
    else none
   |_=>none
  |_=>none
  else none
 |_,_=>none
theorem are{T X:ay}{H:aj}{s x:AV}{e:aS}{K:aS->Prop}(h:Ca P T X H s x=some e)(hk:K e):mQ P T X H s x K:=by
 unfold Ca at h;unfold mQ
 split at h
 case h_2=>simp at h
 rename_i sz r n p;simp only[ao,da,ap]at h;obtain⟨⟨g,j,k⟩,h⟩:=h;simp only[n,p];refine⟨g,j,rZ k,?_⟩
 split at h
 ·split at h
  ·simp only[db]at h;subst h;simpa using hk
  ·simp only[da,db]at h;obtain⟨a,rfl⟩:=h;simp only[bp,av,if_false];exact⟨cJ a,hk⟩
 ·simp only[da]at h;obtain⟨a,h⟩:=h;refine⟨rZ a,?_⟩
  split at h
  ·simp only[db]at h;subst h;simpa using hk
  ·simp only[da,db]at h;obtain⟨⟨b,c⟩,rfl⟩:=h;simp only[bp,av,if_false];exact⟨b,cJ c,hk⟩
 ·split at h
  case h_2=>simp at h
  rename_i o;simp only[da]at h;obtain⟨⟨a,b,c,l⟩,h⟩:=h;simp only[o];refine⟨c8 a,c8 b,c8 c,cJ l,?_⟩
  split at h
  ·simp only[db]at h;subst h;simpa using hk
  ·simp only[da]at h;obtain⟨m,h⟩:=h;simp only[bp,av,if_false];refine⟨cJ m,?_⟩
   split at h
   ·simp at h
   ·split at h
    ·rename_i f;simp only[db]at h;subst h;simp only[cJ f,if_true];exact hk
    ·rename_i f;simp only[db]at h;subst h;rw[if_neg (fun q=>f (cx q))];exact hk
   ·simp only[da,db]at h;obtain⟨d,rfl⟩:=h;exact⟨c8 d,(fun h=>by cases h),hk⟩
   ·simp only[da,db]at h;obtain⟨⟨d,i⟩,rfl⟩:=h;exact⟨c8 d,fun _=>c8 i,hk⟩
 ·simp at h
end
section
variable{P:a0}{ag:aT->Bool}
def jm(x:Option AV)(d:Nat):Option Nat:=
 match x with
 |none=>some d
 |some (.p (.int _ (.ofNat i)))=>some i
 |_=>none
theorem jQ{x:Option AV}{d n:Nat}{K:Nat->Prop}(h:jm x d=some n)(hk:K n):gl x d K:=by
 unfold jm at h;unfold gl
 split at h
 ·simp only[db]at h;subst h;exact hk
 ·simp only[db]at h;subst h;exact⟨a7 _,hk⟩
 ·simp at h
def Cj(P:a0)(T:ay)(H:aj)(x:AV)(lo hi e:Option AV):Option aS:=
 match e with
 |some _=>none
 |none=>match x with
  | .p (.str s)=>match jm hi s.length,jm lo 0 with
   |some h,some l=>bif ia P T&&(ce h s.length&&ce l h)then some {v:=.p (.str ((s.take h).drop l))}else none
   |_,_=>none
  | .p .aL=>match jm hi 0,jm lo 0 with
   |some h,some l=>bif (cz P T).isSome&&(ce h 0&&ce l h)then some {v:=x}else none
   |_,_=>none
  | .p (.cE full es)=>match jm hi es.length,jm lo 0,cz P T with
   |some h,some l,some sz=>bif ce h es.length&&(ce l h&&oJ P sz (es.map .p))then some {v:=.p (.cE (full&&h==es.length) ((es.take h).drop l))}else none
   |_,_,_=>none
  | .p (.seq es)=>match jm hi es.length,jm lo 0,cz P T with
   |some h,some l,some sz=>bif ce h es.length&&(ce l h&&oJ P sz (es.map .p))then some {v:=.p (.seq ((es.take h).drop l))}else none
   |_,_,_=>none
  | .sl b ar ai off len=>match H[b]? with
   |some (.arr k c a es)=>match jm hi len,jm lo 0 with
    |some h,some l=>bif ck ar c&&(ck ai a&&(oE (cz P T) ai&&(nH k es&&(ce (off+len) es.length&&(ce (off+h) es.length&&ce l h)))))then
     match l with
     |0=>some {v:=.sl b ar ai off h,ak:=[(b,.arr k c a es)]}
     |d+1=>bif ck (d+1) h then some {v:=.p (.cE false []),ak:=[(b,.arr k c a es)]}else some {v:=.sl b ar ai (off+(d+1)) (h-(d+1)),ak:=[(b,.arr k c a es)]}
     else none
    |_,_=>none
   |_=>none
  |_=>none
theorem Tk{T:ay}{H:aj}{x:AV}{lo hi j:Option AV}{e:aS}{K:aS->Prop}(h:Cj P T H x lo hi j=some e)(hk:K e):mY P T H x lo hi j K:=by
 unfold Cj at h;unfold mY
 split at h
 ·simp at h
 refine⟨rfl,?_⟩
 split at h
 ·split at h
  case h_2=>simp at h
  rename_i a b;simp only[ao,da,ap,db]at h;obtain⟨⟨c,d,f⟩,rfl⟩:=h;exact⟨c,jQ a (jQ b ⟨cJ d,cJ f,hk⟩)⟩
 ·split at h
  case h_2=>simp at h
  rename_i a b;simp only[ao,da,ap,db]at h;obtain⟨⟨c,d,f⟩,rfl⟩:=h;exact⟨c,jQ a (jQ b ⟨cJ d,cJ f,hk⟩)⟩
 ·split at h
  case h_2=>simp at h
  rename_i a b c;simp only[ao,da,ap,db]at h;obtain⟨⟨d,f,g⟩,rfl⟩:=h;refine jQ a (jQ b ⟨cJ d,cJ f,?_⟩);simp only[c];exact⟨rZ g,hk⟩
 ·split at h
  case h_2=>simp at h
  rename_i a b c;simp only[ao,da,ap,db]at h;obtain⟨⟨d,f,g⟩,rfl⟩:=h;refine jQ a (jQ b ⟨cJ d,cJ f,?_⟩);simp only[c];exact⟨rZ g,hk⟩
 ·split at h
  case h_2=>simp at h
  rename_i n
  split at h
  case h_2=>simp at h
  rename_i a b;simp only[ao,da,ap]at h;obtain⟨⟨c,d,f,g,k,l,m⟩,h⟩:=h;simp only[n];refine⟨c8 c,c8 d,u5 f,uM g,cJ k,jQ a (jQ b ⟨cJ l,cJ m,?_⟩)⟩
  split at h
  ·simp only[db]at h;subst h;simpa using hk
  ·rw[if_neg (by omega)]
   split at h
   ·rename_i i;simp only[db]at h;subst h;rw[if_pos (c8 i)];exact hk
   ·rename_i i;simp only[db]at h;subst h;rw[if_neg (fun e=>i (by rw[<-e];exact cy _))];exact hk
 ·simp at h
def BH(P:a0)(T:ay)(H:aj)(x:AV)(lo hi:Option AV)(m:AV):Option aS:=
 match x with
 | .sl b ar ai off len=>match H[b]? with
  |some (.arr k c a es)=>match jm hi len,jm lo 0,jm (some m) 0 with
   |some h,some l,some m=>bif ck ar c&&(ck ai a&&((cz P T).isSome&&(nH k es&&(ce (off+len) es.length&&(hi.isSome&&(ce (off+m) es.length&&(ce h m&&ce l h)))))))then
    some {v:=.p .undef,ak:=[(b,.arr k c a es)]}else none
   |_,_,_=>none
  |_=>none
 |_=>none
theorem SV{T:ay}{H:aj}{x:AV}{lo hi:Option AV}{m:AV}{e:aS}{K:aS->Prop}(h:BH P T H x lo hi m=some e)(hk:K e):pF P T H x lo hi m K:=by
 unfold BH at h;unfold pF
 split at h
 case h_2=>simp at h
 split at h
 case h_2=>simp at h
 rename_i d
 split at h
 case h_2=>simp at h
 rename_i a b c;simp only[ao,da,ap,db]at h;obtain⟨⟨g1,g2,g3,g4,g5,g6,g7,g8,g9⟩,rfl⟩:=h;simp only[d];exact⟨c8 g1,c8 g2,g3,uM g4,cJ g5,g6,jQ a (jQ b (jQ c ⟨cJ g7,cJ g8,cJ g9,hk⟩))⟩
def yr(ok:Bool)(z:PV)(r:Option PV):PV:=
 match r with
 |some v=>bif ok then .aA [v,.bool true]else v
 |none=>bif ok then .aA [z,.bool false]else z
def JK(P:a0)(T:ay)(H:aj)(x i:AV)(ok:Bool):Option aS:=
 match kJ P T,i with
 |some (a,E),.p key=>match ch P E with
  |some z=>bif fM P a key then match x with
   | .p .fq=>some {v:=.p (yr ok z none)}
   | .p (.eH es)=>match fL P a es key with
    |some r=>some {v:=.p (yr ok z r)}
    |none=>none
   | .map b=>match H[b]? with
    |some (.map fz es)=>match fL P a es key with
     |some r=>some {v:=.p (yr ok z r),ak:=[(b,.map fz es)]}
     |none=>none
    |_=>none
   |_=>none
   else none
  |none=>none
 |_,_=>none
def JH(P:a0)(T:ay)(H:aj)(m k x:AV):Option aS:=
 match kJ P T,m,k,x with
 |some (a,_),.map b,.p key,.p v=>bif fM P a key then match H[b]? with
  |some (.map false es)=>match lD P a es key with
   |some _=>some {v:=.p (.aA []),ak:=[(b,.map false es)],aI:=[(b,.map false (gh es key v))]}
   |none=>none
  |_=>none
  else none
 |_,_,_,_=>none
def OK(H:aj)(it:AV):Option aS:=
 match it with
 | .ptr b []=>match H[b]? with
  |some (.dc s pos)=>bif ce (pos+1) s.length then
   some {v:=.p (.aA [.bool true,.int .i64 pos,.int .i32 (Utf8.decode (ga s) pos).1]),ak:=[(b,.dc s pos)],aI:=[(b,.dc s (pos+(Utf8.decode (ga s) pos).2))]}
   else some {v:=.p (.aA [.bool false]),ak:=[(b,.dc s pos)]}
  |_=>none
 |_=>none
def Iu(P:a0)(H:aj)(b:Builtin)(c:Array ay)(args:List AV):Option aS:=
 match b,args with
 | .len,[x]=>match lenOf H x with
  |some (n,ak)=>bif gI P (c.getD 0 0) x&&ce 1 c.size then some {v:=.p (.int .i64 n),ak}else none
  |none=>none
 | .append,[s,x]=>bif ck c.size 2 then Ca P (c.getD 0 0) (c.getD 1 0) H s x else none
 | .min,.p (.int k a)::r=>match ln k false r a with
  |some n=>some {v:=.p (.int k n)}
  |none=>none
 | .max,.p (.int k a)::r=>match ln k true r a with
  |some n=>some {v:=.p (.int k n)}
  |none=>none
 | .copy,[d,x]=>match cz P (c.getD 0 0),d,gA H x with
  |some sz,.sl b ar ai off len,some xs=>bif ck ai sz&&(oJ P sz xs&&ck c.size 2)then match H[b]? with
   |some (.arr k f e es)=>bif ck ar f&&(ck ai e&&(vt k&&(ce (off+len) es.length&&nH k es)))then
    some {v:=.p (.int .i64 (min xs.length len:Nat)),ak:=(b,.arr k f e es)::dt H x,aI:=[(b,.arr k f e (es.take off++xs.take (min xs.length len)++es.drop (off+min xs.length len)))]}
    else none
   |_=>none
   else none
  |_,_,_=>none
 | .cap,[x]=>match yH H x with
  |some (n,ak)=>bif gI P (c.getD 0 0) x&&ce 1 c.size then some {v:=.p (.int .i64 n),ak}else none
  |none=>none
 | .clear,[x]=>match x with
  | .p .aL=>bif gI P (c.getD 0 0) x&&ce 1 c.size then some {v:=.p (.aA [])}else none
  | .sl b ar ai off len=>match cz P (c.getD 0 0),ch P (ey P (c.getD 0 0)),H[b]? with
   |some sz,some z,some (.arr k f e es)=>bif ck ar f&&(ck ai e&&(ck ai sz&&(ck (bA P (aJ z)) sz&&(vt k&&(ce (off+len) es.length&&(nH k es&&(ce 1 c.size&&ce 1 len)))))))then
    some {v:=.p (.aA []),ak:=[(b,.arr k f e es)],aI:=[(b,.arr k f e (es.take off++bo len (.p z)++es.drop (off+len)))]}else none
   |_,_,_=>none
  |_=>none
 | .unsafeSliceData,[x]=>match x with
  | .p .aL=>some {v:=.p .dJ}
  | .sl b ar ai off len=>match H[b]? with
   |some (.arr k f e es)=>bif ck ar f&&ck ai e then
    bif nH k es then(bif ce 1 len&&ce (off+len) es.length then some {v:=.bQ b ar ai off [],ak:=[(b,.arr k f e es)]}else none)
    else some {v:=.p .dJ,ak:=[(b,.arr k f e es)]}
    else none
   |_=>none
  |_=>none
 | .unsafeString,[x,.p (.int .i64 (.ofNat n))]=>match x with
  | .p .dJ=>bif ck n 0&&ck c.size 2 then some {v:=.p (.str [])}else none
  | .bQ b ar ai i []=>match H[b]? with
   |some (.arr .bytes f e es)=>bif ck ar f&&(ck ai e&&(ck ai 1&&(ck i 0&&(ce 1 n&&(ce n es.length&&(ce n 9223372036854775807&&(ck c.size 2&&(oE (ptrTo P (c.getD 0 0)) Gl.u8&&ck (P.cellsOf Gl.u8) 1))))))))then
    match bytesOf (es.take n)with
    |some l=>some {v:=.p (.str l),ak:=[(b,.arr .bytes f e es)],aI:=[(b,.dead)]}
    |none=>none
    else none
   |_=>none
  |_=>none
 |_,_=>none
def yY(P:a0)(ag:aT->Bool)(o:Oper)(ρ:ax->AV)(H:aj):Option aS:=
 match o.op with
 | .move x| .assign x=>some {v:=ρ x}
 | .pick c a b=>match ρ c with
  | .p (.bool t)=>some {v:=bif t then ρ a else ρ b}
  |_=>none
 | .alloc T=>match ch P T with
  |some z=>bif sE (kindOf P T) (aJ z)&&iY T (aJ z)then some {v:=.ptr H.length [],aQ:=[.box false (.p z)]}else none
  |none=>none
 | .box T x=>bif sE (kindOf P T) (ad (ρ x))&&iY T (ad (ρ x))then some {v:=.ptr H.length [],aQ:=[.box false (ρ x)]}else none
 | .build T parts=>match kindOf P T,ch P T with
  | .agg u,some z=>match du P u with
   |some l=>bif sE (aJ z) (.agg u)&&uN P l (parts.toList.map fun(i,x)=>(i,ρ x))then some {v:=gO u (gY ((bV z).map .p) (parts.toList.map fun(i,x)=>(i,ρ x)))}else none
   |none=>none
  |_,_=>none
 | .buildSlice T n parts=>match cz P T,ch P (ey P T)with
  |some sz,some z=>bif ck (bA P (aJ z)) sz&&(ce (n*sz) 1000000&&uN P (bo n sz) (parts.toList.map fun(i,x)=>(i,ρ x)))then
   some {v:=.sl H.length 0 sz 0 n,aQ:=[.arr .exact 0 sz (gY (bo n (.p z)) (parts.toList.map fun(i,x)=>(i,ρ x)))]}else none
  |_,_=>none
 | .load T a=>C9 P T H (ρ a)
 | .store T a x=>Ch P T H (ρ a) (ρ x)
 | .binOp op T x y _=>match CR P op T (lO y) H (ρ x) (ρ y)with
  |some v=>some {v:=.p v,ak:=dt H (ρ x)}
  |none=>none
 | .unOp op _ x=>match op,ρ x with
  | .not,.p (.bool b)=>some {v:=.p (.bool (!b))}
  | .neg,.p (.int k n)=>some {v:=.p (.int k (k.wrap (0-n)))}
  | .xor,.p (.int k n)=>some {v:=.p (.int k (k.wrap (am k.bits (if k.signed then -1 else k.max)^^^am k.bits n).toNat))}
  |_,_=>none
 | .convert S D x=>match P.underlying S,P.underlying D,ρ x with
  |some _,some (.int k),.p (.int _ n)=>some {v:=.p (.int k (k.wrap n))}
  |some _,some .string,.p (.str s)=>some {v:=.p (.str s)}
  |_,_,_=>none
 | .extract t i=>match ρ t with
  | .p (.aA vs)=>match vs[i]? with
   |some v=>some {v:=.p v}
   |none=>none
  | .aA vs=>match vs[i]? with
   |some v=>some {v}
   |none=>none
  |_=>none
 | .fieldAddr T a f=>AD P T (ρ a) f
 | .indexAddr T x i=>Az P T H (ρ x) (ρ i)
 | .field T x f=>match kindOf P T,P.underlying T,ρ x with
  | .agg u,some (.struct _),.p t=>match(bV t)[f]?,(jg P u)[f]? with
   |some g,some F=>bif sE (aJ t) (.agg u)&&sE (kindOf P F) (aJ g)then some {v:=.p g}else none
   |_,_=>none
  |_,_,_=>none
 | .index T x i=>match ρ x,ρ i with
  | .p (.str s),.p (.int _ (.ofNat i))=>match s[i]? with
   |some c=>bif ia P T then some {v:=.p (.int .u8 c)}else none
   |none=>none
  | .p (.st u es),.p (.int _ (.ofNat i))=>match gT P T,(jg P u)[i]?,es[i]? with
   |some (u',n),some F,some g=>bif ck u' u&&(ce (i+1) n&&sE (kindOf P F) (aJ g))then some {v:=.p g}else none
   |_,_,_=>none
  |_,_=>none
 | .makeFunc (.func f) fi ca=>bif ag f then match fD H (fi.toList.map ρ),fD H (ca.toList.map ρ)with
  |some (a,[],[]),some (b,ak,aI)=>some {v:=.p (.func f a b),ak,aI}
  |_,_=>none
  else match dW (fi.toList.map ρ),dW (ca.toList.map ρ)with
   |some a,some b=>some {v:=.p (.func f a b)}
   |_,_=>some {v:=.func f (fi.toList.map ρ) (ca.toList.map ρ)}
 | .makeSlice T l c=>match cz P T,ch P (ey P T),ρ l,ρ c with
  |some sz,some z,.p (.int .i64 (.ofNat l)),.p (.int .i64 (.ofNat c))=>bif ck (bA P (aJ z)) sz&&(ck l c&&ce l cN)then
   some {v:=.sl H.length 0 sz 0 l,aQ:=[.arr .exact 0 sz (bo l (.p z))]}else none
  |_,_,_,_=>none
 | .slice T x lo hi d=>match d with
  |none=>Cj P T H (ρ x) (lo.map ρ) (hi.map ρ) none
  |some m=>BH P T H (ρ x) (lo.map ρ) (hi.map ρ) (ρ m)
 | .makeMap _ none=>some {v:=.map H.length,aQ:=[.map false []]}
 | .lookup T x i ok=>JK P T H (ρ x) (ρ i) ok
 | .mapUpdate T m k x| .insert T m k x=>JH P T H (ρ m) (ρ k) (ρ x)
 | .range T x=>match ρ x with
  | .p (.str s)=>bif ia P T then some {v:=.ptr H.length [],aQ:=[.dc s 0]}else none
  |_=>none
 | .next it true=>OK H (ρ it)
 | .nilCheck x=>match ρ x with
  | .ptr _ _| .bQ _ _ _ _ _| .p (.bZ _)=>some {v:=ρ x}
  |_=>none
 | .call c=>match c.callee with
  | .builtin b=>Iu P H b c.argTypes (c.args.toList.map ρ)
  |_=>none
 |_=>none
theorem LI{o:Oper}{ρ:ax->AV}{H:aj}{e:aS}{K:aS->Prop}(h:yY P ag o ρ H=some e)(hk:K e):fu P ag o ρ H K:=by
 unfold yY at h;unfold fu;cases ab:o.op<;>simp only[ab]at h<;>simp only
 case move|assign=>simp only[db]at h;subst h;exact hk
 case pick c a b=>
  split at h
  ·rename_i t hc;simp only[db]at h;subst h;simp only[hc];cases t<;>exact hk
  ·simp at h
 case alloc T=>
  split at h
  ·rename_i z G;simp only[ao,da,db,ap]at h;obtain⟨⟨d,j⟩,rfl⟩:=h;simp only[G];exact⟨(iy d).1,(iy d).2,j,hk⟩
  ·simp at h
 case box T x=>
  simp only[ao,da,db,ap]at h;obtain⟨⟨d,j⟩,rfl⟩:=h;exact⟨(iy d).1,(iy d).2,j,hk⟩
 case build T parts=>
  split at h
  ·rename_i u z ac G
   split at h
   ·rename_i l E;simp only[ao,da,db,ap]at h;obtain⟨⟨d,j⟩,rfl⟩:=h;simp only[ac,G,E];exact⟨(iy d).1,AP j,hk⟩
   ·simp at h
  ·simp at h
 case buildSlice T n parts=>
  split at h
  ·rename_i sz z J G;simp only[ao,da,db,ap]at h;obtain⟨⟨d,j,q⟩,rfl⟩:=h;simp only[J,G];exact⟨c8 d,cJ j,AP q,hk⟩
  ·simp at h
 case load T a=>exact U9 h hk
 case store T a x=>exact Tf h hk
 case binOp op T x y ae=>
  split at h
  ·rename_i v L;simp only[db]at h;subst h;exact Wc (K:=fun v=>K {v:=.p v,ak:=dt H (ρ x)}) L hk
  ·simp at h
 case unOp op T x=>
  split at h
  all_goals first
   |(rename_i hx;simp only[db]at h;subst h;simp only[hx];exact hk)
   |simp at h
 case convert S D x=>
  split at h
  ·rename_i d j q;simp only[db]at h;subst h;simp only[d,j,q];exact hk
  ·rename_i d j q;simp only[db]at h;subst h;simp only[d,j,q];exact hk
  ·simp at h
 case extract t i=>
  split at h
  ·rename_i U
   split at h
   ·rename_i L;simp only[db]at h;subst h;simp only[U,L];exact hk
   ·simp at h
  ·rename_i U
   split at h
   ·rename_i L;simp only[db]at h;subst h;simp only[U,L];exact hk
   ·simp at h
  ·simp at h
 case fieldAddr T a f=>exact QL h hk
 case indexAddr T x i=>exact QX h hk
 case field T x f=>
  split at h
  ·rename_i d j q
   split at h
   ·rename_i s w;simp only[ao,da,db,ap]at h;obtain⟨⟨B,C⟩,rfl⟩:=h;simp only[d,j,q,s,w];exact⟨(iy B).1,(iy C).1,hk⟩
   ·simp at h
  ·simp at h
 case index T x i=>
  split at h
  ·rename_i d j
   split at h
   ·rename_i c hc;simp only[ao,da,db]at h;obtain⟨q,rfl⟩:=h;obtain⟨hi,rfl⟩:=bd.1 hc;simp only[d,j];exact⟨q,a7 _,hi,hk⟩
   ·simp at h
  ·rename_i u W al i d j
   split at h
   ·rename_i u' n F g q s w;simp only[ao,da,db,ap]at h;obtain⟨⟨g1,g2,g3⟩,rfl⟩:=h;have e:(Int.ofNat i).toNat=i:=rfl;simp only[d,j,e,q,s,w];exact⟨c8 g1,a7 _,cJ g2,(iy g3).1,hk⟩
   ·simp at h
  ·simp at h
 case makeFunc fn fi ca=>
  cases fn<;>simp only at h<;>try (simp at h;done)
  rename_i f;simp only;simp only[ao]at h
  split at h
  ·rename_i hf;rw[if_pos hf]
   split at h
   ·rename_i d j;simp only[db]at h;subst h;simp only[d,j];exact hk
   ·simp at h
  ·rename_i hf;rw[if_neg hf]
   split at h
   ·rename_i d j;simp only[db]at h;subst h;simp only[d,j];exact hk
   ·rename_i aa;simp only[db]at h;subst h
    split
    ·rename_i d j;exact(aa _ _ d j).elim
    ·exact hk
 case makeSlice T l c=>
  split at h
  ·rename_i d j q s;simp only[ao,da,db,ap]at h;obtain⟨⟨w,B,C⟩,rfl⟩:=h;have e:=c8 B;simp only[d,j,q,s];refine⟨c8 w,a7 _,by rw[e],?_,hk⟩;have:=cJ C;show((_:Nat):Int)<=_
   exact_mod_cast this
  ·simp at h
 case slice T x lo hi ad=>
  cases ad with
  |none=>exact Tk h hk
  |some m=>exact SV h hk
 case makeMap T r=>
  cases r<;>simp only at h
  ·simp only[db]at h;subst h;exact hk
  ·simp at h
 case lookup T x i ok=>
  unfold JK at h
  split at h
  case h_2=>simp at h
  rename_i d j
  split at h
  case h_2=>simp at h
  rename_i z G;simp only[ao,da]at h;obtain⟨q,h⟩:=h;simp only[d,j,G];refine⟨q,?_⟩
  have M:∀r:Option PV,yr ok z r=match r with
   |some v=>if ok=true then .aA [v,.bool true]else v
   |none=>if ok=true then .aA [z,.bool false]else z:=by
   intro r;cases r<;>cases ok<;>rfl
  split at h
  ·rename_i hx;simp only[db]at h;subst h;simp only[hx];rw[M]at hk;exact hk
  ·rename_i hx
   split at h
   ·rename_i r R;simp only[db]at h;subst h;rw[M]at hk;simp only[hx,R];cases r<;>exact hk
   ·simp at h
  ·rename_i hx
   split at h
   ·rename_i A
    split at h
    ·rename_i r R;simp only[db]at h;subst h;rw[M]at hk;simp only[hx,A,R];cases r<;>exact hk
    ·simp at h
   ·simp at h
  ·simp at h
 case mapUpdate T m k x|insert T m k x=>
  unfold JH at h
  split at h
  case h_2=>simp at h
  rename_i d j q s;simp only[ao,da]at h;obtain⟨w,h⟩:=h;simp only[d,j,q,s];refine⟨w,?_⟩
  split at h
  ·rename_i A
   split at h
   ·rename_i E;simp only[db]at h;subst h;simp only[A,E];exact hk
   ·simp at h
  ·simp at h
 case range T x=>
  split at h
  ·rename_i hx;simp only[ao,da,db]at h;obtain⟨d,rfl⟩:=h;simp only[hx];exact⟨d,hk⟩
  ·simp at h
 case next it isStr=>
  cases isStr<;>simp only at h
  ·simp at h
  unfold OK at h
  split at h
  ·rename_i hx
   split at h
   ·rename_i A;simp only[hx,A];simp only[ao]at h
    split at h
    ·rename_i Q;simp only[db]at h;subst h;rw[if_pos (by have:=cJ Q;omega)];exact hk
    ·rename_i Q;simp only[db]at h;subst h;rw[if_neg (fun Z=>Q (cx (Nat.succ_le_of_lt Z)))];exact hk
   ·simp at h
  ·simp at h
 case nilCheck x=>
  split at h
  all_goals first
   |(rename_i hx;simp only[db]at h;subst h;simp only[hx]at hk⊢;exact hk)
   |simp at h
 case call c=>
  split at h
  case h_2=>simp at h
  rename_i b hc;simp only[hc];generalize c.args.toList.map ρ=args at*;generalize c.argTypes=af at*;unfold Iu at h
  split at h
  ·split at h
   ·rename_i E;simp only[ao,da,db,ap]at h;obtain⟨⟨d,j⟩,rfl⟩:=h;simp only[E];exact⟨d,cJ j,hk⟩
   ·simp at h
  ·simp only[ao,da]at h;exact⟨c8 h.1,are h.2 hk⟩
  ·split at h
   ·rename_i O;simp only[db]at h;subst h;simp only[O];exact hk
   ·simp at h
  ·split at h
   ·rename_i O;simp only[db]at h;subst h;simp only[O];exact hk
   ·simp at h
  ·split at h
   ·rename_i J Y;simp only[ao,da,ap]at h;obtain⟨⟨d,j,q⟩,h⟩:=h;simp only[J,Y];refine⟨c8 d,rZ j,c8 q,?_⟩
    split at h
    ·rename_i A;simp only[da,db]at h;obtain⟨⟨s,w,B,C,I⟩,rfl⟩:=h;simp only[A];exact⟨c8 s,c8 w,Cq B,cJ C,uM I,hk⟩
    ·simp at h
   ·simp at h
  ·split at h
   ·rename_i E;simp only[ao,da,db,ap]at h;obtain⟨⟨d,j⟩,rfl⟩:=h;simp only[E];exact⟨d,cJ j,hk⟩
   ·simp at h
  ·split at h
   ·simp only[ao,da,db,ap]at h;obtain⟨⟨d,j⟩,rfl⟩:=h;exact⟨d,cJ j,hk⟩
   ·split at h
    ·rename_i J G A;simp only[ao,da,db,ap]at h;obtain⟨⟨d,j,q,s,w,B,C,I,N⟩,rfl⟩:=h;simp only[J,G,A];exact⟨c8 d,c8 j,c8 q,c8 s,Cq w,cJ B,uM C,cJ I,cJ N,hk⟩
    ·simp at h
   ·simp at h
  ·split at h
   ·simp only[db]at h;subst h;exact hk
   ·split at h
    ·rename_i A;simp only[ao,da,ap]at h;obtain⟨⟨d,j⟩,h⟩:=h;simp only[A];refine⟨c8 d,c8 j,?_⟩
     split at h
     ·simp only[da,db]at h;obtain⟨⟨s,w⟩,rfl⟩:=h;exact .inr ⟨cJ s,cJ w,hk⟩
     ·rename_i V;simp only[db]at h;subst h;rename_i k _ _ W _ _;refine .inl ⟨?_,?_,hk⟩<;>(unfold nH at V;split at V<;>simp_all)
    ·simp at h
   ·simp at h
  ·split at h
   ·simp only[ao,da,db,ap]at h;obtain⟨⟨d,j⟩,rfl⟩:=h;exact⟨by rw[c8 d];rfl,c8 j,hk⟩
   ·split at h
    ·rename_i A;simp only[ao,da,ap]at h;obtain⟨⟨d,j,q,s,w,B,C,I,N,X⟩,h⟩:=h;have ah:=cJ w;have ai:=cJ C;simp only[A];refine⟨c8 d,c8 j,c8 q,c8 s,by simp;omega,by simpa using cJ B,by simp;omega,c8 I,u5 N,c8 X,?_⟩;simp only[a8,a9]
     split at h
     ·rename_i E;simp only[db]at h;subst h;simp only[E];exact hk
     ·simp at h
    ·simp at h
   ·simp at h
  ·simp at h
 all_goals simp at h
end
end Go.az
namespace Go.az
variable[Gl]
section
variable(σ:Nat->Nat)
mutual
def ct:AV->AV
 | .p v=>.p v
 | .ptr b path=>.ptr (σ b) path
 | .bQ b ar ai i path=>.bQ (σ b) ar ai i path
 | .sl b ar ai off len=>.sl (σ b) ar ai off len
 | .map b=>.map (σ b)
 | .func f fi ca=>.func f (cG fi) (cG ca)
 | .st u fs=>.st u (cG fs)
 | .aA vs=>.aA (cG vs)
def cG:List AV->List AV
 |[]=>[]
 |v::vs=>ct v::cG vs
end
def sv:Env->Env
 |[]=>[]
 |(x,v)::r=>(x,ct σ v)::sv r
def dh:Obj->Obj
 | .box fz t=>.box fz (ct σ t)
 | .arr k ar ai es=>.arr k ar ai (cG σ es)
 | .loop L=>.loop {L with env:=sv σ L.env}
 |o=>o
end
section
variable{σ:Nat->Nat}
theorem BB:∀(e:Env)(x:Nat),aN (sv σ e) x=ct σ (aN e x)
 |[],_=>rfl
 |(y,v)::r,x=>by
  simp only[sv,aN]
  split
  ·rfl
  ·exact BB r x
theorem ri:∀l:List AV,(cG σ l).length=l.length
 |[]=>rfl
 |_::r=>by simp[cG,ri r]
theorem Vn{l:List AV}:cG σ l=[]↔l=[]:=by cases l<;>simp[cG]
theorem mZ{k:AK}{a:List AV}:cR k (cG σ a)↔cR k a:=by simp[cR,Vn]
theorem Kj{v:AV}:(ct σ v).qU↔v.qU:=by cases v<;>simp[ct,AV.qU]
theorem Um{v:AV}:ad (ct σ v)=ad v:=by cases v<;>rfl
theorem Ja:∀{l:List AV},(∀e∈cG σ l,e.qU)↔∀e∈l,e.qU
 |[]=>by simp[cG]
 |v::r=>by simp[cG,Kj,Ja (l:=r)]
theorem pH{o:Obj}:(dh σ o).live↔o.live:=by cases o<;>simp[dh,Obj.live,mZ]
theorem Km{o:Obj}{v:Nat}:(dh σ o).has v↔o.has v:=by cases o<;>simp[dh,Obj.has]
theorem UM{o:Obj}:dh σ o=.hole↔o=.hole:=by cases o<;>simp[dh]
mutual
theorem Bc{S:Nat×Nat->Prop}:∀(v:AV),aD S (ct σ v)↔aD (fun x=>S (σ x.1,x.2)) v
 | .p _=>by simp[ct,aD]
 | .ptr _ _| .bQ _ _ _ _ _| .sl _ _ _ _ _| .map _=>by simp[ct,aD]
 | .func _ fi ca=>by simp only[ct,aD];rw[rA fi,rA ca]
 | .st _ fs=>by simp only[ct,aD];exact rA fs
 | .aA vs=>by simp only[ct,aD];exact rA vs
theorem rA{S:Nat×Nat->Prop}:∀(l:List AV),aU S (cG σ l)↔aU (fun x=>S (σ x.1,x.2)) l
 |[]=>by simp[cG,aU]
 |v::r=>by simp only[cG,aU];rw[Bc v,rA r]
end
theorem TH{S:Nat×Nat->Prop}{o:Obj}:(dh σ o).refs S↔o.refs (fun x=>S (σ x.1,x.2)):=by
 cases o<;>simp only[dh,Obj.refs,Bc,rA,BB]
theorem Obj.refs.mono{S T:Nat×Nat->Prop}(h:∀x,S x->T x){o:Obj}(a:o.refs S):o.refs T:=by
 cases o with
 |box fz t=>exact aD.mono h _ a
 |arr k ar ai es=>exact aU.mono h _ a
 |loop L=>exact fun x=>aD.mono h _ (a x)
 |_=>trivial
structure dQ(σ:Nat->Nat)(dP:Bd)(H0:aj)(β:Bd)(H:aj):Prop where
 obj:∀(b:Nat)(o:Obj),H0[b]?=some o->H[σ b]?=some (dh σ o)
 al:∀b,b<H0.length->β.al (σ b)=dP.al b/\β.cap (σ b)=dP.cap b
section
variable{P:a0}{w:a6}{aa:Nat->Prop}{dP β:Bd}{H0 H:aj}
theorem dQ.box(h:dQ σ dP H0 β H){b:Nat}(a:b<H0.length):me H (σ b)↔me H0 b:=by
 have c:=h.obj b _ (bb a);have d:=bb a;unfold me;rw[c,d];cases H0[b]<;>simp[dh]
theorem dQ.it(h:dQ σ dP H0 β H){b:Nat}(a:b<H0.length):mh H (σ b)↔mh H0 b:=by
 have c:=h.obj b _ (bb a);have d:=bb a;unfold mh;rw[c,d];cases H0[b]<;>simp[dh]
theorem dQ.map(h:dQ σ dP H0 β H){b:Nat}(a:b<H0.length):mc H (σ b)↔mc H0 b:=by
 have h1:=h.obj b _ (bb a);have c:=bb a;unfold mc;rw[h1,c];cases H0[b]<;>simp[dh]
theorem dQ.loop(h:dQ σ dP H0 β H){b:Nat}(a:b<H0.length):gD H (σ b)↔gD H0 b:=by
 have c:=h.obj b _ (bb a);have d:=bb a;unfold gD;rw[c,d];cases H0[b]<;>simp[dh]
theorem dQ.arr(h:dQ σ dP H0 β H){b ar ai:Nat}{k:AK}{es:List AV}(a:b<H0.length):fg H (σ b) ar ai k es↔∃gq,fg H0 b ar ai k gq/\es=cG σ gq:=by
 have c:=h.obj b _ (bb a);have d:=bb a;unfold fg;rw[c,d];cases H0[b]<;>simp[dh];constructor
 ·rintro⟨rfl,rfl,rfl,rfl⟩;exact⟨_,⟨rfl,rfl,rfl,rfl⟩,rfl⟩
 ·rintro⟨_,⟨rfl,rfl,rfl,rfl⟩,rfl⟩;exact⟨rfl,rfl,rfl,rfl⟩
theorem dQ.C2(h:dQ σ dP H0 β H){x:Nat×Nat}(a:x.1<H0.length):aF H (σ x.1,x.2)↔aF H0 x:=by
 have b:=h.obj x.1 _ (bb a);have c:=bb a;unfold aF;rw[b,c];simp[Km]
def Small(n:Nat):Nat×Nat->Prop:=fun x=>x.1<n
theorem dQ.oU(h:dQ σ dP H0 β H):∀{a:AV}{v:a3},aD (Small H0.length) a->(bM P β H (ct σ a) v↔bM P dP H0 a v)
 | .p _,_,_| .func _ _ _,_,_| .st _ _,_,_| .aA _,_,_=>by simp[ct,bM]
 | .ptr b path,v,c=>by
  simp only[aD,Small]at c;simp only[ct,bM,h.box c,h.it c,(h.al b c).1]
 | .bQ b ar ai i path,v,c=>by
  simp only[aD,Small]at c;simp only[ct,bM,h.arr c,(h.al b c).1];constructor
  ·rintro⟨al,off,o,f,g,j⟩;exact⟨al,off,o,f,g,fun k d e m=>j k _ ⟨d,e,rfl⟩ (by rwa [mZ])⟩
  ·rintro⟨al,off,o,f,g,j⟩;refine⟨al,off,o,f,g,?_⟩;rintro k _ ⟨d,e,rfl⟩ m;exact j k d e (by rwa [mZ]at m)
 | .sl b ar ai off len,v,c=>by
  simp only[aD,Small]at c;simp only[ct,bM,h.arr c,(h.al b c).1,(h.al b c).2];constructor
  ·intro l k d e;have:=l k _ ⟨d,e,rfl⟩;simpa only[ri,mZ]using this
  ·rintro l k _ ⟨d,e,rfl⟩;have:=l k d e;simpa only[ri,mZ]using this
 | .map b,v,c=>by
  simp only[aD,Small]at c;simp only[ct,bM,h.map c,h.loop c,(h.al b c).1]
mutual
theorem dQ.KD(h:dQ σ dP H0 β H):∀(a:AV)(cs:List a3),aD (Small H0.length) a->(bh P w aa β H (ct σ a) cs↔bh P w aa dP H0 a cs)
 | .p _,_,_=>by simp[ct,bh]
 | .aA _,_,_=>by simp[ct,bh]
 | .st u fs,cs,d=>by
  simp only[aD]at d;simp only[ct,bh];exact exists_congr fun l=>exists_congr fun e=>and_congr_right fun _=>and_congr_left fun _=>dQ.yv h l fs e d
 | .func f fi ca,cs,d=>by
  simp only[aD]at d;simp only[ct,bh];exact exists_congr fun l=>exists_congr fun e=>and_congr (dQ.qL h fi l d.1) (and_congr_left fun _=>dQ.qL h ca e d.2)
 | .ptr b path,cs,d=>by
  have:=fun v=>h.oU (P:=P) (a:=.ptr b path) (v:=v) d;simp only[ct,bh,bJ]at this⊢;simp only[this]
 | .bQ b ar ai i path,cs,d=>by
  have:=fun v=>h.oU (P:=P) (a:=.bQ b ar ai i path) (v:=v) d;simp only[ct,bh,bJ]at this⊢;simp only[this]
 | .sl b ar ai off len,cs,d=>by
  have:=fun v=>h.oU (P:=P) (a:=.sl b ar ai off len) (v:=v) d;simp only[ct,bh,bJ]at this⊢;simp only[this]
 | .map b,cs,d=>by
  have:=fun v=>h.oU (P:=P) (a:=.map b) (v:=v) d;simp only[ct,bh,bJ]at this⊢;simp only[this]
theorem dQ.yv(h:dQ σ dP H0 β H):∀(g:List Nat)(l:List AV)(e:List (List a3)),aU (Small H0.length) l->(bG P w aa β H g (cG σ l) e↔bG P w aa dP H0 g l e)
 |[],[],e,_=>by simp[cG,bG]
 |[],_::_,e,_=>by simp[cG,bG]
 |_::_,[],e,_=>by simp[cG,bG]
 |n::g,v::vs,e,d=>by
  simp only[aU]at d;simp only[cG,bG];exact exists_congr fun c=>exists_congr fun cs=>and_congr_right fun _=>and_congr (dQ.KD h v c d.1) (and_congr_right fun _=>dQ.yv h g vs cs d.2)
theorem dQ.CL(h:dQ σ dP H0 β H):∀(a:AV)(v:a3),aD (Small H0.length) a->(aw P w aa β H (ct σ a) v↔aw P w aa dP H0 a v)
 | .p _,_,_=>by simp[ct,aw]
 | .aA vs,_,d=>by
  simp only[aD]at d;simp only[ct,aw];exact exists_congr fun l=>and_congr_left fun _=>dQ.qL h vs l d
 | .st u fs,cs,d=>by
  simp only[aD]at d;simp only[ct,aw];exact exists_congr fun l=>exists_congr fun e=>and_congr_right fun _=>and_congr_left fun _=>dQ.yv h l fs e d
 | .func f fi ca,cs,d=>by
  simp only[aD]at d;simp only[ct,aw];exact exists_congr fun l=>exists_congr fun e=>and_congr (dQ.qL h fi l d.1) (and_congr_left fun _=>dQ.qL h ca e d.2)
 | .ptr b path,v,d=>by
  have:=h.oU (P:=P) (a:=.ptr b path) (v:=v) d;simp only[ct,aw,bJ]at this⊢;simp only[this]
 | .bQ b ar ai i path,v,d=>by
  have:=h.oU (P:=P) (a:=.bQ b ar ai i path) (v:=v) d;simp only[ct,aw,bJ]at this⊢;simp only[this]
 | .sl b ar ai off len,v,d=>by
  have:=h.oU (P:=P) (a:=.sl b ar ai off len) (v:=v) d;simp only[ct,aw,bJ]at this⊢;simp only[this]
 | .map b,v,d=>by
  have:=h.oU (P:=P) (a:=.map b) (v:=v) d;simp only[ct,aw,bJ]at this⊢;simp only[this]
theorem dQ.qL(h:dQ σ dP H0 β H):∀(l:List AV)(vs:List a3),aU (Small H0.length) l->(bD P w aa β H (cG σ l) vs↔bD P w aa dP H0 l vs)
 |[],vs,_=>by simp[cG,bD]
 |a::l,vs,d=>by
  simp only[aU]at d;simp only[cG,bD];exact exists_congr fun y=>exists_congr fun j=>and_congr_right fun _=>and_congr (dQ.CL h a y d.1) (dQ.qL h l j d.2)
end
theorem dQ.OP(h:dQ σ dP H0 β H){ah Prot0:Nat->Prop}{b:Nat}{o:Obj}(f:H0[b]?=some o)(e:o.refs (Small H0.length))(a:o.live->∀fz,cm aa dP Prot0 fz b↔cm aa β ah fz (σ b)):
 fe P w aa β H ah (σ b) (dh σ o)↔fe P w aa dP H0 Prot0 b o:=by
 have g:b<H0.length:=(bd.1 f).1;obtain⟨k1,k2⟩:=h.al b g;cases o with
 |hole=>simp[dh,fe]
 |dead=>simp[dh,fe]
 |box fz t=>
  simp only[dh,fe,k1,<-a trivial,h.KD t _ e,Kj,Um]
 |arr k ar ai es=>
  simp only[dh,fe,k1,k2,mZ,ri,Ja]
  by_cases c:cR k es
  ·simp[c]
  ·simp only[c,false_or,<-a c,h.yv _ es _ e]
 |map fz es=>
  simp only[dh,fe,k1,<-a trivial]
 |dc s pos=>
  simp only[dh,fe,k1,<-a trivial]
 |loop L=>
  simp only[dh,fe,k1,<-a trivial,BB];exact exists_congr fun t=>exists_congr fun d=>exists_congr fun fn=>and_congr_right fun _=>and_congr_right fun _=>and_congr_left fun _=>forall_congr' fun x=>h.CL _ _ (e x)
end
end
end Go.az
namespace Go.az
variable[Gl]
def sig(bs:List Nat)(a i:Nat):Nat:=match bs[i]? with
 |some b=>b
 |none=>a+(i-bs.length)
theorem rN{bs:List Nat}{a i:Nat}(h:i<bs.length):sig bs a i=bs[i]:=by simp[sig,h]
theorem rO{bs:List Nat}{a i:Nat}(h:bs.length<=i):sig bs a i=a+(i-bs.length):=by simp[sig,h]
theorem aGe{bs:List Nat}{a:Nat}(e:bs.Nodup)(d:∀b∈bs,b<a){i j:Nat}(h:sig bs a i=sig bs a j):i=j:=by
 by_cases hi:i<bs.length<;>by_cases c:j<bs.length
 ·rw[rN hi,rN c]at h;exact(List.getElem_inj e).1 h
 ·rw[rN hi,rO (by omega)]at h;have:=d _ (b4 hi);omega
 ·rw[rO (by omega),rN c]at h;have:=d _ (b4 c);omega
 ·rw[rO (by omega),rO (by omega)]at h;omega
theorem pQ:∀{l:List (Nat×Obj)}{H:aj}{x:Nat},(∀p∈l,p.1≠x)->(bk H l)[x]?=H[x]?
 |[],_,_,_=>rfl
 |(b,o)::r,H,x,h=>by
  simp only[bk];rw[pQ (fun p a=>h p (by simp[a])),List.getElem?_set_ne (h (b,o) (by simp))]
theorem sf:∀{l:List (Nat×Obj)}{H:aj},(l.map (·.1)).Nodup->∀p∈l,p.1<H.length->(bk H l)[p.1]?=some p.2
 |[],_,_,_,h,_=>by simp at h
 |(b,o)::r,H,a,p,c,d=>by
  simp only[cb,b5]at a;simp only[bk];rcases be.1 c with rfl|c
  ·rw[pQ (fun q hq e=>a.1 (b0.2 ⟨q,hq,e⟩)),List.getElem?_set_self d]
  ·exact sf a.2 p c (by simpa using d)
theorem AQ(a:Nat):∀(l:List Obj),(newAt a l).map (·.1)=List.range' a l.length
 |[]=>rfl
 |o::r=>by simp[newAt,AQ (a+1) r,List.range'_succ]
theorem G2:∀(l:List Obj)(a j:Nat)(h:j<l.length),(a+j,l[j])∈newAt a l
 |[],_,_,h=>by simp at h
 |o::r,a,0,h=>by simp[newAt]
 |o::r,a,j+1,h=>by
  have:=G2 r (a+1) j (by simpa using h);simp only[newAt,List.getElem_cons_succ,be];right;have e:a+(j+1)=a+1+j:=by omega
  rw[e];exact this
section
variable{P:a0}{w w':a6}{aa aE ah:Nat->Prop}{β aG:Bd}{H H':aj}
theorem fe.mut{b:Nat}{o:Obj}(h:fe P w aa β H ah b o)(f:o.live)(j:¬aa (β.al b)):¬ah (β.al b):=by
 have held:∀{fz},cm aa β ah fz b->¬ah (β.al b):=by
  intro fz g;cases fz with
  |true=>exact(j (by simpa[cm]using g)).elim
  |false=>
   have:¬aa (β.al b)/\¬ah (β.al b):=by simpa[cm]using g
   exact this.2
 cases o with
 |hole=>exact f.elim
 |dead=>exact f.elim
 |box fz t=>
  obtain⟨cs,T,c,d,a,e⟩:=h;exact held a
 |arr k ar ai es=>
  rcases h with h|⟨cs,T,l,rest,c,d,a,e,n,p,i,q⟩
  ·exact(f h).elim
  ·exact held i
 |map fz es=>
  obtain⟨m,clock,c,d,a⟩:=h;exact held a
 |dc s pos=>
  obtain⟨bs,c,d,a⟩:=h;exact held a
 |loop L=>
  obtain⟨tmps,defers,fn,c,d,a,e⟩:=h;exact held e
theorem fe.carry(hi:∀k,aa k->aE k)(hs:∀k,aa k->w'.heap[k]?=w.heap[k]?)(aK:cd β H aG H'){b:Nat}{o:Obj}(m:o.refs (aF H))
 (j:o.live->w'.heap[β.al b]?=w.heap[β.al b]?/\aG.al b=β.al b/\aG.cap b=β.cap b)(held:o.live->∀fz,cm aa β ah fz b->cm aE aG ah fz b)(h:fe P w aa β H ah b o):fe P w' aE aG H' ah b o:=by
 cases o with
 |hole=>trivial
 |dead=>trivial
 |box fz t=>
  obtain⟨cs,T,d,e,f,i⟩:=h;obtain⟨a,c,g⟩:=j trivial;exact⟨cs,T,by rw[c,a];exact d,bh.mono hi hs aK _ _ m e,held trivial _ f,i⟩
 |arr k ar ai es=>
  rcases h with h|⟨cs,T,n,rest,d,e,f,i,q,r,u,v⟩
  ·exact .inl h
  ·by_cases l:cR k es
   ·exact .inl l
   ·obtain⟨a,c,g⟩:=j l;exact .inr ⟨cs,T,n,rest,by rw[c,a];exact d,bG.mono hi hs aK _ _ _ m e,f,by rw[g];exact i,by rw[g];exact q,by rw[g];exact r,held l _ u,v⟩
 |map fz es=>
  obtain⟨p,clock,d,e,f⟩:=h;obtain⟨a,c,g⟩:=j trivial;exact⟨p,clock,by rw[c,a];exact d,cq.mono hi hs _ _ e,held trivial _ f⟩
 |dc s pos=>
  obtain⟨bs,d,e,f⟩:=h;obtain⟨a,c,g⟩:=j trivial;exact⟨bs,by rw[c,a];exact d,e,held trivial _ f⟩
 |loop L=>
  obtain⟨tmps,defers,fn,d,e,f,i⟩:=h;obtain⟨a,c,g⟩:=j trivial;exact⟨tmps,defers,fn,by rw[c,a];exact d,e,fun x=>aw.mono hi hs aK _ _ (m x) (f x),held trivial _ i⟩
def df(bs:List Nat)(a:Nat)(H0 bR:aj)(b:AV):aS:=
 {v:=ct (sig bs a) b,ak:=bs.zip (H0.map (dh (sig bs a))),aI:=bs.zip ((bR.take H0.length).map (dh (sig bs a))),aQ:=(bR.drop H0.length).map (dh (sig bs a))}
open Classical in
theorem GH{H0 bR:aj}{fV:List AV}{v0:AV}(bs:List Nat)(base:Nat)(hlen:bs.length=H0.length)(hnd:bs.Nodup)(hlt:∀b∈bs,b<base)
 (hl:H0.length<=bR.length)(ha:aU (aF H0) fV)(ho:∀(b:Nat)(o:Obj),H0[b]?=some o->o.refs (aF H0))
 {H:aj}{w:a6}{aa ah:Nat->Prop}{β:Bd}{cargs:List a3}(hr:bN P w aa β H ah)(hargs:bD P w aa β H (cG (sig bs base) fV) cargs)
 (ak:∀p∈(df bs base H0 bR v0).ak,H[p.1]?=some p.2)(aQ:∀i,i<(df bs base H0 bR v0).aQ.length->H[base+i]?=some .hole):
 ∃(dP:Bd)(Prot0:Nat->Prop),(∀b,dP.al b=β.al (sig bs base b))/\bN P w aa dP H0 Prot0/\bD P w aa dP H0 fV cargs/\(∀b,b<H0.length->(gD H (sig bs base b)↔gD H0 b))/\
  ∀(cv:a3)(w':a6)(β0':Bd)(aE:Nat->Prop),bP P Prot0 aa w dP H0 aE w' β0' bR->aw P w' aE β0' bR v0 cv->aD (aF bR) v0->
   ∃aG,bP P ah aa w β H aE w' aG (bk H ((df bs base H0 bR v0).aI++newAt base (df bs base H0 bR v0).aQ))/\
    aw P w' aE aG (bk H ((df bs base H0 bR v0).aI++newAt base (df bs base H0 bR v0).aQ)) (df bs base H0 bR v0).v cv/\
    aD (aF (bk H ((df bs base H0 bR v0).aI++newAt base (df bs base H0 bR v0).aQ))) (df bs base H0 bR v0).v:=by
 obtain⟨σ,hσ⟩:∃σ,σ=sig bs base:=⟨_,rfl⟩
 have hinj:∀{i j},σ i=σ j->i=j:=fun{i j} h=>aGe hnd hlt (by rw[hσ]at h;exact h);have hold:∀{i}(hi:i<H0.length),σ i=bs[i]'(by omega):=fun hi=>by rw[hσ];exact rN _
 have hnw:∀{i},H0.length<=i->σ i=base+(i-H0.length):=fun hi=>by rw[hσ,rO (by omega),hlen]
 have hget:∀(b:Nat)(o:Obj),H0[b]?=some o->H[σ b]?=some (dh σ o):=by
  intro b o hb;obtain⟨hbl,rfl⟩:=bd.1 hb;have:=ak (bs[b]'(by omega),dh (sig bs base) H0[b]) (by
   simp only[df];rw[bi];exact⟨b,by simp;omega,by simp⟩)
  rw[hold hbl,hσ];exact this
 have hnewH:∀i,H0.length<=i->i<bR.length->H[σ i]?=some .hole:=by
  intro i h1 h2;rw[hnw h1];exact aQ (i-H0.length) (by simp[df];omega)
 obtain⟨H2,hH2⟩:∃H2,H2=bk H ((df bs base H0 bR v0).aI++newAt base (df bs base H0 bR v0).aQ):=⟨_,rfl⟩
 have hkeys:∀p∈(df bs base H0 bR v0).aI++newAt base (df bs base H0 bR v0).aQ,∃i,i<bR.length/\p.1=σ i:=by
  intro p hp;rcases List.mem_append.1 hp with hp|hp
  ·simp only[df]at hp;have hm:=(bv hp).1;obtain⟨i,hi,he⟩:=bi.1 hm;exact⟨i,by omega,by rw[hold (by omega)];exact he.symm⟩
  ·have hm:p.1∈(newAt base (df bs base H0 bR v0).aQ).map (·.1):=List.mem_map_of_mem hp
   rw[AQ,b3]at hm;simp only[df,List.length_map,List.length_drop]at hm;exact⟨H0.length+(p.1-base),by omega,by rw[hnw (by omega)];omega⟩
 have hndk:(((df bs base H0 bR v0).aI++newAt base (df bs base H0 bR v0).aQ).map (·.1)).Nodup:=by
  rw[List.map_append,AQ];have e:(df bs base H0 bR v0).aI.map (·.1)=bs:=by
   simp only[df];rw[List.map_fst_zip];simp;omega
  rw[e,List.nodup_append];refine⟨hnd,List.nodup_range',fun a h1 b h2 he=>?_⟩;subst he;have:=hlt _ h1;rw[b3]at h2;omega
 have hA:∀(i:Nat)(o:Obj),bR[i]?=some o->H2[σ i]?=some (dh σ o):=by
  intro i o hi;obtain⟨hil,rfl⟩:=bd.1 hi
  by_cases hi0:i<H0.length
  ·have hm:(bs[i]'(by omega),dh (sig bs base) bR[i])∈(df bs base H0 bR v0).aI++newAt base (df bs base H0 bR v0).aQ:=by
    refine List.mem_append_left _ ?_;simp only[df];rw[bi];exact⟨i,by simp;omega,by simp⟩
   have:=sf (H:=H) hndk _ hm (by
    have:=hget i _ (bb hi0);rw[hold hi0]at this;exact(bd.1 this).1)
   rw[hH2,hold hi0,this,hσ]
  ·have hm:(base+(i-H0.length),dh (sig bs base) bR[i])∈(df bs base H0 bR v0).aI++newAt base (df bs base H0 bR v0).aQ:=by
    refine List.mem_append_right _ ?_;have:=G2 (df bs base H0 bR v0).aQ base (i-H0.length) (by simp[df];omega);have e:(df bs base H0 bR v0).aQ[i-H0.length]'(by simp[df];omega)=dh (sig bs base) bR[i]:=by
     simp only[df,List.getElem_map,List.getElem_drop];congr 2;omega
    rw[e]at this;exact this
   have:=sf (H:=H) hndk _ hm (by
    have:=hnewH i (by omega) hil;rw[hnw (by omega)]at this;exact(bd.1 this).1)
   rw[hH2,hnw (by omega),this,hσ]
 have hB:∀x,(∀i,i<bR.length->σ i≠x)->H2[x]?=H[x]?:=by
  intro x hx;rw[hH2];refine pQ fun p hp=>?_;obtain⟨i,h1,h2⟩:=hkeys p hp;rw[h2];exact hx i h1
 let dP:Bd:=⟨fun b=>β.al (σ b),fun b=>β.cap (σ b)⟩
 let Prot0:Nat->Prop:=fun k=>ah k\/∃x o,H[x]?=some o/\o.live/\(∀i,i<H0.length->σ i≠x)/\β.al x=k
 have hemb:dQ σ dP H0 β H:=⟨hget,fun b _=>⟨rfl,rfl⟩⟩
 have small:∀x:Nat×Nat,aF H0 x->Small H0.length x:=fun x⟨o,ho,_⟩=>(bd.1 ho).1;have held0:∀{b:Nat}{o:Obj},H0[b]?=some o->o.live->∀fz,cm aa dP Prot0 fz b↔cm aa β ah fz (σ b):=by
  intro b o hb hlv fz;cases fz with
  |true=>simp[cm,dP]
  |false=>
   simp only[cm,av,if_false];refine and_congr_right fun hni=>⟨fun h hp=>h (.inl hp),fun h hp=>?_⟩
   rcases hp with hp|⟨x,o',h1,h2,h3,h4⟩
   ·exact h hp
   ·exact h3 b (bd.1 hb).1 (hr.inj _ _ _ _ (hget b o hb) h1 (pH.2 hlv) h2 hni h4.symm)
 have hr0:bN P w aa dP H0 Prot0:=by
  refine⟨fun b o hb=>?_,fun b b' o o' h1 h2 l1 l2 hni he=>?_,ho,hr.bL,fun k hk=>?_,hr.gV⟩
  ·exact(hemb.OP hb ((ho b o hb).mono small) (held0 hb)).1 (hr.cr _ _ (hget b o hb))
  ·exact hinj (hr.inj _ _ _ _ (hget b o h1) (hget b' o' h2) (pH.2 l1) (pH.2 l2) hni he)
  ·rcases hk with hk|⟨x,o,h1,h2,_,rfl⟩
   ·exact hr.dY k hk
   ·exact hr.ma h1 h2
 have hargs0:bD P w aa dP H0 fV cargs:=by
  rw[<-hσ]at hargs;exact(hemb.qL _ _ (aU.mono small _ ha)).1 hargs
 refine⟨dP,Prot0,fun b=>by rw[<-hσ],hr0,hargs0,fun b hb=>by rw[<-hσ];exact hemb.loop hb,fun cv w' β0' aE hp hv hvr=>?_⟩
 let aG:Bd:=⟨fun x=>if h:∃i,i<bR.length/\σ i=x then β0'.al h.choose else β.al x,fun x=>if h:∃i,i<bR.length/\σ i=x then β0'.cap h.choose else β.cap x⟩
 have hβ:∀i,i<bR.length->aG.al (σ i)=β0'.al i/\aG.cap (σ i)=β0'.cap i:=by
  intro i hi;have hex:∃j,j<bR.length/\σ j=σ i:=⟨i,hi,rfl⟩
  have hc:hex.choose=i:=hinj hex.choose_spec.2;simp only[aG,dif_pos hex,hc,and_self]
 have hβn:∀x,(∀i,i<bR.length->σ i≠x)->aG.al x=β.al x/\aG.cap x=β.cap x:=by
  intro x hx;have hnex:¬∃i,i<bR.length/\σ i=x:=fun⟨i,h1,h2⟩=>hx i h1 h2;simp only[aG,dif_neg hnex,and_self]
 have hemb':dQ σ β0' bR aG H2:=⟨hA,fun b hb=>hβ b hb⟩
 have small':∀x:Nat×Nat,aF bR x->Small bR.length x:=fun x⟨o,ho,_⟩=>(bd.1 ho).1;have split:∀x,(∃i,i<bR.length/\σ i=x)\/∀i,i<bR.length->σ i≠x:=by
  intro x
  by_cases hx:∃i,i<bR.length/\σ i=x
  ·exact .inl hx
  ·exact .inr fun i h1 h2=>hx ⟨i,h1,h2⟩
 have inOld:∀{i v},i<bR.length->aF H (σ i,v)->aF H0 (i,v)/\i<H0.length:=by
  intro i v hi ⟨o,h1,h2⟩
  by_cases hi0:i<H0.length
  ·refine⟨?_,hi0⟩;have:=hget i _ (bb hi0);simp only at h1;rw[this]at h1;cases h1;exact⟨_,bb hi0,Km.1 h2⟩
  ·have:=hnewH i (by omega) hi;simp only at h1;rw[this]at h1;cases h1;exact h2.elim
 have gJ:cd β H aG H2:=by
  refine⟨?_,?_,?_,?_,?_⟩
  ·intro b hb hlv;rcases split b with⟨i,hi,rfl⟩|hx
   ·obtain⟨k1,k2⟩:=inOld hi hb;obtain⟨g1,g2⟩:=hp.step.box i k1 ((hemb'.box hi).1 hlv);exact⟨(hemb.box k2).2 g1,(hβ i hi).1.trans g2⟩
   ·unfold me at hlv⊢;rw[hB b hx]at hlv;exact⟨hlv,(hβn b hx).1⟩
  ·intro b hb hlv;rcases split b with⟨i,hi,rfl⟩|hx
   ·obtain⟨k1,k2⟩:=inOld hi hb;obtain⟨g1,g2⟩:=hp.step.it i k1 ((hemb'.it hi).1 hlv);exact⟨(hemb.it k2).2 g1,(hβ i hi).1.trans g2⟩
   ·unfold mh at hlv⊢;rw[hB b hx]at hlv;exact⟨hlv,(hβn b hx).1⟩
  ·intro b hb hlv;rcases split b with⟨i,hi,rfl⟩|hx
   ·obtain⟨k1,k2⟩:=inOld hi hb;obtain⟨g1,g2⟩:=hp.step.map i k1 ((hemb'.map hi).1 hlv);exact⟨(hemb.map k2).2 g1,(hβ i hi).1.trans g2⟩
   ·unfold mc at hlv⊢;rw[hB b hx]at hlv;exact⟨hlv,(hβn b hx).1⟩
  ·intro b ar ai k es hb hlv;rcases split b with⟨i,hi,rfl⟩|hx
   ·obtain⟨k1,k2⟩:=inOld hi hb;obtain⟨gq,g0,rfl⟩:=(hemb'.arr hi).1 hlv;obtain⟨k0,es1,g1,g2,g3,g4⟩:=hp.step.arr i ar ai k gq k1 g0;refine⟨k0,cG σ es1,(hemb.arr k2).2 ⟨_,g1,rfl⟩,by rw[ri,ri];exact g2,by rw[mZ,mZ];exact g3,fun hn=>?_⟩;rw[mZ]at hn;rw[(hβ i hi).1,(hβ i hi).2];exact g4 hn
   ·unfold fg at hlv⊢;rw[hB b hx]at hlv;exact⟨k,es,hlv,Nat.le_refl _,Iff.rfl,fun _=>hβn b hx⟩
  ·intro b hb hlv;rcases split b with⟨i,hi,rfl⟩|hx
   ·obtain⟨k1,k2⟩:=inOld hi hb;obtain⟨g1,g2⟩:=hp.step.loop i k1 ((hemb'.loop hi).1 hlv);exact⟨(hemb.loop k2).2 g1,(hβ i hi).1.trans g2⟩
   ·unfold gD at hlv⊢;rw[hB b hx]at hlv;exact⟨hlv,(hβn b hx).1⟩
 have hinn:∀x,aF H x->aF H2 x:=by
  rintro⟨b,v⟩ hb;rcases split b with⟨i,hi,rfl⟩|hx
  ·obtain⟨k1,_⟩:=inOld hi hb;exact(hemb'.C2 (x:=(i,v)) hi).2 (hp.eQ _ k1)
  ·obtain⟨o,h1,h2⟩:=hb;exact⟨o,by simp only;rw[hB b hx];exact h1,h2⟩
 have prot0:∀{x:Nat}{o:Obj},(∀i,i<bR.length->σ i≠x)->H[x]?=some o->o.live->Prot0 (β.al x):=by
  intro x o hx h1 h2;exact .inr ⟨x,o,h1,h2,fun i hi=>hx i (by omega),rfl⟩
 have mut':∀{i:Nat}{o:Obj},bR[i]?=some o->o.live->¬aE (β0'.al i)->¬Prot0 (β0'.al i):=by
  intro i o h1 h2 h3;exact(hp.rel.cr i o h1).mut h2 h3
 have hrel:bN P w' aE aG H2 ah:=by
  refine⟨fun x o hx=>?_,fun x x' o o' h1 h2 l1 l2 hni he=>?_,fun x o hx=>?_,hp.rel.bL,fun k hk=>hp.rel.dY k (.inl hk),hp.rel.gV⟩
  ·rcases split x with⟨i,hi,rfl⟩|hn
   ·have hg:=hA i _ (bb hi);rw[hg]at hx;cases hx;refine(hemb'.OP (Prot0:=Prot0) (bb hi) ((hp.rel.refs i _ (bb hi)).mono small') (fun hlv fz=>?_)).2 (hp.rel.cr i _ (bb hi));cases fz with
    |true=>simp[cm,(hβ i hi).1]
    |false=>
     simp only[cm,av,if_false,(hβ i hi).1];exact⟨fun h=>⟨h.1,fun hp=>h.2 (.inl hp)⟩,fun h=>⟨h.1,mut' (bb hi) hlv h.1⟩⟩
   ·rw[hB x hn]at hx;refine fe.carry hp.bL (fun k hk=>hp.ext.same k (.inr hk)) gJ (hr.refs x o hx) (fun hlv=>⟨hp.ext.same _ (.inl (prot0 hn hx hlv)),hβn x hn⟩) (fun hlv fz hh=>?_) (hr.cr x o hx);have hp0:=prot0 hn hx hlv;cases fz with
    |true=>
     simp only[cm,if_true]at hh⊢;rw[(hβn x hn).1];exact hp.bL _ hh
    |false=>
     simp only[cm,av,if_false]at hh⊢;rw[(hβn x hn).1];exact⟨fun hi=>(hp.fresh _ hi).elim hh.1 (fun h=>h hp0),hh.2⟩
  ·rcases split x with⟨i,hi,rfl⟩|hn<;>rcases split x' with⟨j,hj,rfl⟩|hn'
   ·have g1:=hA i _ (bb hi);have g2:=hA j _ (bb hj);rw[g1]at h1;cases h1;rw[g2]at h2;cases h2;rw[(hβ i hi).1,(hβ j hj).1]at he;rw[(hβ i hi).1]at hni;rw[hp.rel.inj i j _ _ (bb hi) (bb hj) (pH.1 l1) (pH.1 l2) hni he]
   ·have g1:=hA i _ (bb hi);rw[g1]at h1;cases h1;rw[hB x' hn']at h2;rw[(hβ i hi).1,(hβn x' hn').1]at he;rw[(hβ i hi).1]at hni;exact(mut' (bb hi) (pH.1 l1) hni (he▸prot0 hn' h2 l2)).elim
   ·have g2:=hA j _ (bb hj);rw[g2]at h2;cases h2;rw[hB x hn]at h1;rw[(hβ j hj).1,(hβn x hn).1]at he;rw[(hβn x hn).1]at hni;exact(mut' (bb hj) (pH.1 l2) (he▸hni) (he▸prot0 hn h1 l1)).elim
   ·rw[hB x hn]at h1;rw[hB x' hn']at h2;rw[(hβn x hn).1,(hβn x' hn').1]at he;rw[(hβn x hn).1]at hni;exact hr.inj _ _ _ _ h1 h2 l1 l2 (fun hi=>hni (hp.bL _ hi)) he
  ·rcases split x with⟨i,hi,rfl⟩|hn
   ·have hg:=hA i _ (bb hi);rw[hg]at hx;cases hx;rw[TH];exact(hp.rel.refs i _ (bb hi)).mono (fun y hy=>(hemb'.C2 (small' y hy)).2 hy)
   ·rw[hB x hn]at hx;exact(hr.refs x o hx).mono hinn
 refine⟨aG,?_,?_,?_⟩
 ·rw[<-hH2];refine⟨hp.bL,fun k hk=>(hp.fresh k hk).imp id (fun h h'=>h (.inl h')),⟨hp.ext.size,fun k hk=>hp.ext.same k (hk.imp .inl id),hp.ext.io⟩,gJ,hrel,hinn,fun b hb=>?_⟩;rcases split b with⟨i,hi,rfl⟩|hx
  ·by_cases hi0:i<H0.length
   ·exact(hemb'.loop hi).2 (hp.loop i ((hemb.loop hi0).1 hb))
   ·obtain⟨L,hL⟩:=hb;rw[hnewH i (by omega) hi]at hL;cases hL
  ·unfold gD at hb⊢;rw[hB b hx];exact hb
 ·rw[<-hH2];show aw P w' aE aG H2 (ct (sig bs base) v0) cv;rw[<-hσ];exact(hemb'.CL _ _ (aD.mono small' _ hvr)).2 hv
 ·rw[<-hH2];show aD (aF H2) (ct (sig bs base) v0);rw[<-hσ,Bc];exact aD.mono (fun y hy=>(hemb'.C2 (small' y hy)).2 hy) _ hvr
theorem de.frame{f:aT}{H0 bR:aj}{fV:List AV}{g:AV}(h:de P f H0 fV bR g)(bs:List Nat)(a:Nat)(r:bs.length=H0.length)(t:bs.Nodup)(s:∀b∈bs,b<a)
 (q:H0.length<=bR.length)(d:aU (aF H0) fV)(u:∀(b:Nat)(o:Obj),H0[b]?=some o->o.refs (aF H0)):
 qI P f (cG (sig bs a) fV) a (df bs a H0 bR g):=by
 refine⟨h.1,fun H w aa ah β m x n _ ak aQ=>?_⟩;obtain⟨dP,i,-,y,p,-,back⟩:=GH bs a r t s q d u x n ak aQ;refine(h.2 w aa i dP m y p d).mono ?_;rintro e w' ⟨c,B,aE,rfl,v,z,A⟩;obtain⟨aG,j,k,l⟩:=back c w' B aE v z A;exact⟨c,aG,aE,rfl,j,k,l⟩
theorem fh.frame{b:Nat}{H0 bR:aj}{fV:List AV}{i:AV}(h:fh P b H0 fV bR i)(bs:List Nat)(a:Nat)(x:bs.length=H0.length)(A:bs.Nodup)(z:∀b∈bs,b<a)
 (v:H0.length<=bR.length)(g:aU (aF H0) fV)(B:∀(b:Nat)(o:Obj),H0[b]?=some o->o.refs (aF H0)):
 nw P (sig bs a b) (cG (sig bs a) fV) a (df bs a H0 bR i):=by
 intro H w aa ah β p D r _ ak aQ;obtain⟨dP,j,t,E,s,y,back⟩:=GH bs a x A z v g B D r ak aQ;have u:b<H0.length:=by
  obtain⟨L,q⟩:=h.1;exact(bd.1 q).1
 refine⟨(y b u).2 h.1,?_⟩;obtain⟨f,tmps,assign,body,d,e⟩:=h.2 w aa j dP p E s g;rw[t]at d e;refine⟨f,tmps,assign,body,d,fun n I=>?_⟩;obtain⟨c,w',J,aE,g1,C,F,G⟩:=e n I;obtain⟨aG,k,l,m⟩:=back c w' J aE C F G;exact⟨c,w',aG,aE,g1,k,l,m⟩
end
end Go.az
namespace Go.az
variable[Gl]
def ke(b:Nat):List Nat->Nat->Option Nat
 |[],_=>none
 |x::r,i=>bif ck x b then some i else ke b r (i+1)
theorem Jc{b:Nat}:∀{l:List Nat}{i j:Nat},ke b l i=some j->i<=j/\l[j-i]?=some b
 |[],_,_,h=>by simp[ke]at h
 |x::r,i,j,h=>by
  simp only[ke]at h;cases a:ck x b
  ·simp only[a,cond_false]at h;obtain⟨d,c⟩:=Jc h;refine⟨by omega,?_⟩;have e:j-i=(j-(i+1))+1:=by omega
   rw[e,List.getElem?_cons_succ];exact c
  ·simp only[a,cond_true,db]at h;subst h;simp[c8 a]
section
variable(bs:List Nat)
mutual
def lH:AV->Option AV
 | .p v=>some (.p v)
 | .ptr b path=>match ke b bs 0 with
  |some i=>some (.ptr i path)
  |none=>none
 | .bQ b ar ai i path=>match ke b bs 0 with
  |some j=>some (.bQ j ar ai i path)
  |none=>none
 | .sl b ar ai off len=>match ke b bs 0 with
  |some j=>some (.sl j ar ai off len)
  |none=>none
 | .map b=>match ke b bs 0 with
  |some j=>some (.map j)
  |none=>none
 | .func f fi ca=>match mf fi,mf ca with
  |some a,some b=>some (.func f a b)
  |_,_=>none
 | .st u fs=>match mf fs with
  |some a=>some (.st u a)
  |none=>none
 | .aA vs=>match mf vs with
  |some a=>some (.aA a)
  |none=>none
def mf:List AV->Option (List AV)
 |[]=>some []
 |v::r=>match lH v,mf r with
  |some a,some b=>some (a::b)
  |_,_=>none
end
def Cd:Obj->Option Obj
 | .box fz t=>match lH bs t with
  |some a=>some (.box fz a)
  |none=>none
 | .arr k ar ai es=>match mf bs es with
  |some a=>some (.arr k ar ai a)
  |none=>none
 | .map fz es=>some (.map fz es)
 | .dc s n=>some (.dc s n)
 | .dead=>some .dead
 |_=>none
def uG(H:aj):List Nat->Option aj
 |[]=>some []
 |b::r=>match H[b]? with
  |some o=>match Cd bs o,uG H r with
   |some a,some t=>some (a::t)
   |_,_=>none
  |none=>none
end
section
variable{bs:List Nat}{base:Nat}
theorem xD{b i:Nat}(h:ke b bs 0=some i):sig bs base i=b:=by
 have:=(Jc h).2;simp only[Nat.sub_zero]at this;simp[sig,this]
mutual
theorem H4:∀{a c:AV},lH bs a=some c->ct (sig bs base) c=a
 | .p v,c,h=>by simp only[lH,db]at h;subst h;rfl
 | .ptr b path,c,h=>by
  simp only[lH]at h
  split at h
  ·rename_i i hi;simp only[db]at h;subst h;simp only[ct,xD hi]
  ·simp at h
 | .bQ b ar ai i path,c,h=>by
  simp only[lH]at h
  split at h
  ·rename_i i hi;simp only[db]at h;subst h;simp only[ct,xD hi]
  ·simp at h
 | .sl b ar ai off len,c,h=>by
  simp only[lH]at h
  split at h
  ·rename_i i hi;simp only[db]at h;subst h;simp only[ct,xD hi]
  ·simp at h
 | .map b,c,h=>by
  simp only[lH]at h
  split at h
  ·rename_i i hi;simp only[db]at h;subst h;simp only[ct,xD hi]
  ·simp at h
 | .func f fi ca,c,h=>by
  simp only[lH]at h
  split at h
  ·rename_i a b d g;simp only[db]at h;subst h;simp only[ct,pj d,pj g]
  ·simp at h
 | .st u fs,c,h=>by
  simp only[lH]at h
  split at h
  ·rename_i a d;simp only[db]at h;subst h;simp only[ct,pj d]
  ·simp at h
 | .aA vs,c,h=>by
  simp only[lH]at h
  split at h
  ·rename_i a d;simp only[db]at h;subst h;simp only[ct,pj d]
  ·simp at h
theorem pj:∀{l e:List AV},mf bs l=some e->cG (sig bs base) e=l
 |[],e,h=>by simp only[mf,db]at h;subst h;rfl
 |v::r,e,h=>by
  simp only[mf]at h
  split at h
  ·rename_i a b d g;simp only[db]at h;subst h;simp only[cG,H4 d,pj g]
  ·simp at h
end
theorem Tb{o c:Obj}(h:Cd bs o=some c):dh (sig bs base) c=o:=by
 cases o<;>simp only[Cd]at h
 case box fz t=>
  split at h
  ·rename_i a b;simp only[db]at h;subst h;simp only[dh,H4 b]
  ·simp at h
 case arr k ar ai es=>
  split at h
  ·rename_i a b;simp only[db]at h;subst h;simp only[dh,pj b]
  ·simp at h
 case hole=>simp at h
 case loop=>simp at h
 all_goals (simp only[db]at h;subst h;rfl)
theorem GK{H:aj}:∀{l:List Nat}{H0:aj},uG bs H l=some H0->H0.length=l.length/\∀p∈l.zip (H0.map (dh (sig bs base))),H[p.1]?=some p.2
 |[],H0,h=>by simp only[uG,db]at h;subst h;simp
 |b::r,H0,h=>by
  simp only[uG]at h
  split at h
  case h_2=>simp at h
  rename_i o f
  split at h
  case h_2=>simp at h
  rename_i a t d e;simp only[db]at h;subst h;obtain⟨i1,i2⟩:=GK e;refine⟨by simp[i1],fun p c=>?_⟩;simp only[cb,List.zip_cons_cons,be]at c;rcases c with rfl|c
  ·simp only[Tb d];exact f
  ·exact i2 p c
end
mutual
def NX:AV->List Nat->List Nat
 | .p _,acc=>acc
 | .ptr b _,acc| .bQ b _ _ _ _,acc| .sl b _ _ _ _,acc| .map b,acc=>b::acc
 | .func _ fi ca,acc=>sU fi (sU ca acc)
 | .st _ fs,acc| .aA fs,acc=>sU fs acc
def sU:List AV->List Nat->List Nat
 |[],acc=>acc
 |v::r,acc=>NX v (sU r acc)
end
def Yt:Obj->List Nat
 | .box _ t=>NX t []
 | .arr _ _ _ es=>sU es []
 |_=>[]
def Cs(H:aj):Nat->List Nat->List Nat->List Nat
 |0,_,acc=>acc
 |_,[],acc=>acc
 |n+1,b::r,acc=>match ke b acc 0 with
  |some _=>Cs H n r acc
  |none=>Cs H n (match H[b]? with
   |some o=>Yt o++r
   |none=>r) (b::acc)
def nodupB:List Nat->Bool
 |[]=>true
 |x::r=>(match ke x r 0 with
  |some _=>false
  |none=>true)&&nodupB r
theorem GR{b:Nat}:∀{l:List Nat}{i:Nat},ke b l i=none->b∉l
 |[],_,_=>by simp
 |x::r,i,h=>by
  simp only[ke]at h;cases a:ck x b
  ·simp only[a,cond_false]at h;have:=GR h;simp only[be,not_or];refine⟨fun e=>?_,this⟩;subst e;rw[cy]at a;cases a
  ·simp[a]at h
theorem GZ:∀{l:List Nat},nodupB l=true->l.Nodup
 |[],_=>List.nodup_nil
 |x::r,h=>by
  simp only[nodupB,ap]at h;rw[b5];refine⟨?_,GZ h.2⟩;have a:=h.1
  split at a
  ·simp at a
  ·rename_i b;exact GR b
def yU(H:aj)(b v:Nat):Bool:=match H[b]? with
 |some .hole|none=>false
 |some (.arr _ ar _ _)=>ce v ar
 |some _=>true
theorem Yu{H:aj}{b v:Nat}(h:yU H b v=true):aF H (b,v):=by
 unfold yU at h
 split at h
 ·simp at h
 ·simp at h
 ·rename_i k ar ai c a;exact⟨_,a,cJ h⟩
 ·rename_i o d e a;refine⟨o,a,?_⟩;cases o with
  |hole=>exact(d rfl).elim
  |arr k ar ai c=>exact(e _ _ _ _ rfl).elim
  |_=>trivial
mutual
def qx(H:aj):AV->Bool
 | .p _=>true
 | .ptr b _| .map b=>yU H b 0
 | .bQ b ar _ _ _| .sl b ar _ _ _=>yU H b ar
 | .func _ fi ca=>nt H fi&&nt H ca
 | .st _ fs| .aA fs=>nt H fs
def nt(H:aj):List AV->Bool
 |[]=>true
 |v::r=>qx H v&&nt H r
end
mutual
theorem Be{H:aj}:∀{a:AV},qx H a=true->aD (aF H) a
 | .p _,_=>by simp[aD]
 | .ptr _ _,h| .map _,h| .bQ _ _ _ _ _,h| .sl _ _ _ _ _,h=>by
  simp only[qx]at h;simp only[aD];exact Yu h
 | .func _ fi ca,h=>by
  simp only[qx,ap]at h;simp only[aD];exact⟨pn h.1,pn h.2⟩
 | .st _ _,h| .aA _,h=>by
  simp only[qx]at h;simp only[aD];exact pn h
theorem pn{H:aj}:∀{l:List AV},nt H l=true->aU (aF H) l
 |[],_=>by simp[aU]
 |v::r,h=>by
  simp only[nt,ap]at h;simp only[aU];exact⟨Be h.1,pn h.2⟩
end
def xQ(H:aj):Obj->Bool
 | .box _ t=>qx H t
 | .arr _ _ _ es=>nt H es
 | .loop _=>false
 |_=>true
theorem GV{H:aj}{o:Obj}(h:xQ H o=true):o.refs (aF H):=by
 cases o<;>simp only[xQ]at h<;>simp only[Obj.refs]
 ·exact Be h
 ·exact pn h
 ·simp at h
def qh(p:Obj->Bool):List Obj->Bool
 |[]=>true
 |o::r=>p o&&qh p r
theorem uw{p:Obj->Bool}:∀{l:List Obj},qh p l=true->∀o∈l,p o=true
 |[],_,o,h=>by simp at h
 |a::r,h,o,b=>by
  simp only[qh,ap]at h;rcases be.1 b with rfl|b
  ·exact h.1
  ·exact uw h.2 o b
def xO(n:Nat):List Nat->Bool
 |[]=>true
 |x::r=>ce (x+1) n&&xO n r
theorem Cb{n:Nat}:∀{l:List Nat},xO n l=true->∀x∈l,x<n
 |[],_,o,h=>by simp at h
 |a::r,h,o,b=>by
  simp only[xO,ap]at h;rcases be.1 b with rfl|b
  ·exact cJ h.1
  ·exact Cb h.2 o b
def xL:Obj->Bool
 | .hole=>false
 |_=>true
def uU(run:List AV->aj->Option (AV×aj))(args:List AV)(H:aj):Option aS:=
 let bs:=Cs H 1000 (sU args []) []
 match mf bs args,uG bs H bs with
 |some fV,some H0=>bif nodupB bs&&(xO H.length bs&&(nt H0 fV&&qh (xQ H0) H0))then
  match run fV H0 with
  |some (v0,H1)=>bif ce H0.length H1.length&&(qh xL (H1.take H0.length))then some (df bs H.length H0 H1 v0)else none
  |none=>none
  else none
 |_,_=>none
theorem A4{P:a0}{f:aT}{run:List AV->aj->Option (AV×aj)}(n:∀args H v H',run args H=some (v,H')->de P f H args H' v){args:List AV}{H:aj}{e:aS}(h:uU run args H=some e):
 qI P f args H.length e/\nC H e:=by
 unfold uU at h;dsimp only at h
 split at h
 case h_2=>simp at h
 rename_i fV H0 g i;simp only[ao,da,ap]at h;obtain⟨⟨g1,g2,g3,g4⟩,h⟩:=h
 split at h
 case h_2=>simp at h
 rename_i q H1 j;simp only[da,db]at h;obtain⟨⟨g5,g7⟩,rfl⟩:=h;obtain⟨k1,k2⟩:=GK (base:=H.length) i;have hf:=(n _ _ _ _ j).frame _ H.length k1.symm (GZ g1) (Cb g2) (cJ g5) (pn g3) (fun b o k=>GV (uw g4 o (b1 k)));rw[pj g]at hf;refine⟨hf,k2,fun p d=>?_⟩;simp only[df]at d;have c:=bv d;refine⟨Cb g2 _ c.1,fun l=>?_⟩;obtain⟨o,m,a⟩:=b0.1 c.2;rw[l]at a;have:=uw g7 o m;rw[UM.1 a]at this;simp[xL]at this
mutual
theorem uV:∀v:AV,ct (fun i=>i) v=v
 | .p _| .sl .. | .bQ .. | .ptr .. | .map _=>rfl
 | .st u vs=>by simp only[ct,n7 vs]
 | .aA vs=>by simp only[ct,n7 vs]
 | .func f a b=>by simp only[ct,n7 a,n7 b]
theorem n7:∀l:List AV,cG (fun i=>i) l=l
 |[]=>rfl
 |v::l=>by simp only[cG,uV v,n7 l]
end
theorem Hi:∀e:Env,sv (fun i=>i) e=e
 |[]=>rfl
 |(x,v)::r=>by simp only[sv,uV v,Hi r]
theorem M5(o:Obj):dh (fun i=>i) o=o:=by
 cases o<;>simp only[dh,uV,n7,Hi]
theorem yw(n:Nat):sig (bl n) n=fun i=>i:=by
 funext i
 by_cases h:i<n
 ·rw[rN (by simpa using h)];simp
 ·rw[rO (by simpa using h)];simp;omega
def fA(H:aj):List (Nat×Obj):=(bl H.length).zip H
theorem sL{H:aj}{p:Nat×Obj}(h:p∈fA H):H[p.1]?=some p.2:=by
 rw[fA,bi]at h;obtain⟨i,hi,a⟩:=h;rw[List.getElem_zip]at a;subst a;simp
def yO(H:aj):Env->Bool
 |[]=>true
 |(_,v)::r=>qx H v&&yO H r
theorem J8{H:aj}:∀{e:Env},yO H e=true->∀x,aD (aF H) (aN e x)
 |[],_,x=>by simp[aN,aD]
 |(y,v)::r,h,x=>by
  simp only[yO,ap]at h;simp only[aN]
  split
  ·exact Be h.1
  ·exact J8 h.2 x
def LH(H:aj):Obj->Bool
 | .loop L=>yO H L.env
 |o=>xQ H o
theorem TI{H:aj}{o:Obj}(h:LH H o=true):o.refs (aF H):=by
 cases o<;>first
  |exact GV h
  |exact J8 h
def BV(run:Nat->aj->List AV->Option (aj×AV))(b:Nat)(args:List AV)(H:aj):Option aS:=
 bif nt H args&&qh (LH H) H then
  match run b H args with
  |some (H1,v)=>bif ce H.length H1.length&&(qh xL (H1.take H.length))then some {v,ak:=fA H,aI:=(bl H.length).zip (H1.take H.length),aQ:=H1.drop H.length}else none
  |none=>none
 else none
theorem SJ{P:a0}{run:Nat->aj->List AV->Option (aj×AV)}(k:∀b H args H' v,run b H args=some (H',v)->fh P b H args H' v){b:Nat}{args:List AV}{H:aj}{e:aS}(h:BV run b args H=some e):
 nw P b args H.length e/\nC H e:=by
 unfold BV at h;simp only[ao,da,ap]at h;obtain⟨⟨g3,g4⟩,h⟩:=h
 split at h
 case h_2=>simp at h
 rename_i H1 f g;simp only[da,db]at h;obtain⟨⟨g5,g7⟩,rfl⟩:=h;have hf:=(k _ _ _ _ _ g).frame (bl H.length) H.length (by simp) List.nodup_range (fun b a=>by simpa using a) (cJ g5) (pn g3) (fun b o a=>TI (uw g4 o (b1 a)));have e:df (bl H.length) H.length H H1 f={v:=f,ak:=fA H,aI:=(bl H.length).zip (H1.take H.length),aQ:=H1.drop H.length}:=by
  simp only[df,yw,uV];rw[show(dh fun i=>i)=id from funext M5,b2,b2,b2,fA]
 rw[e,yw,n7]at hf;refine⟨hf,fun p c=>sL c,fun p c=>?_⟩;have d:=bv c;refine⟨by simpa using d.1,fun j=>?_⟩;have:=uw g7 p.2 d.2;rw[j]at this;simp[xL]at this
end Go.az
namespace Go.az
variable[Gl]
inductive RT where
 |lf
 |vl (v:AV)
 |nd (a b c d:RT)
inductive Q4 where|a|b|c|d
def q4(n:Nat):Q4:=match n with
 |0=>.a
 |1=>.b
 |2=>.c
 |_=>.d
def pathOf:Nat->Nat->List Q4
 |0,_=>[]
 |k+1,n=>q4 (n%4)::pathOf k (n/4)
noncomputable def u6(p:List Q4):RT->AV:=
 cc (motive:=fun _=>RT->AV) (fun R=>RT.rec (motive:=fun _=>AV) (.p .undef) (fun v=>v) (fun _ _ _ _ _ _ _ _=>.p .undef) R)
  (fun q _ e R=>RT.rec (motive:=fun _=>AV) (.p .undef) (fun _=>.p .undef) (fun a b c d _ _ _ _=>Q4.rec (motive:=fun _=>AV) (e a) (e b) (e c) (e d) q) R) p
noncomputable def Dm(v:AV)(p:List Q4):RT->RT:=
 cc (motive:=fun _=>RT->RT) (fun _=>.vl v)
  (fun q _ e R=>RT.rec (motive:=fun _=>RT)
   (Q4.rec (motive:=fun _=>RT) (.nd (e .lf) .lf .lf .lf) (.nd .lf (e .lf) .lf .lf) (.nd .lf .lf (e .lf) .lf) (.nd .lf .lf .lf (e .lf)) q)
   (fun _=>Q4.rec (motive:=fun _=>RT) (.nd (e .lf) .lf .lf .lf) (.nd .lf (e .lf) .lf .lf) (.nd .lf .lf (e .lf) .lf) (.nd .lf .lf .lf (e .lf)) q)
   (fun a b c d _ _ _ _=>Q4.rec (motive:=fun _=>RT) (.nd (e a) b c d) (.nd a (e b) c d) (.nd a b (e c) d) (.nd a b c (e d)) q) R) p
noncomputable def jI(k:Nat)(R:RT)(n:Nat):AV:=bif ce (n+1) (4^k)then u6 (pathOf k n) R else .p .undef
noncomputable def vC(k:Nat)(R:RT)(n:Nat)(v:AV):RT:=Dm v (pathOf k n) R
theorem Ij:∀(p:List Q4),u6 p .lf=.p .undef
 |[]=>rfl
 |_::_=>rfl
theorem Gx(v:AV):∀(p:List Q4)(R:RT),u6 p (Dm v p R)=v
 |[],_=>rfl
 |x::p,R=>by
  cases R<;>cases x<;>exact Gx v p _
theorem FC(v:AV):∀(p q:List Q4)(R:RT),p.length=q.length->p≠q->u6 p (Dm v q R)=u6 p R
 |[],[],R,_,h=>(h rfl).elim
 |[],_::_,R,h,_=>by simp at h
 |_::_,[],R,h,_=>by simp at h
 |x::p,y::q,R,h,f=>by
  have g:=fun R(f:p≠q)=>FC v p q R (by simpa using h) f;have i:=Ij p;cases R with
  |nd a b c d=>
   cases x<;>cases y<;>first
    |rfl
    |exact g _ (fun e=>f (by rw[e]))
  |_=>
   cases x<;>cases y<;>first
    |exact i
    |exact(g _ (fun e=>f (by rw[e]))).trans i
theorem zY:∀k n,(pathOf k n).length=k
 |0,_=>rfl
 |k+1,n=>by simp[pathOf,zY k]
theorem aFV{m n:Nat}(a:m<4)(b:n<4)(h:q4 m=q4 n):m=n:=by
 have hc:∀n,n<4->n=0\/n=1\/n=2\/n=3:=by omega
 rcases hc m a with rfl|rfl|rfl|rfl<;>rcases hc n b with rfl|rfl|rfl|rfl<;>simp[q4]at h<;>rfl
theorem Gz:∀(k m n:Nat),m<4^k->n<4^k->pathOf k m=pathOf k n->m=n
 |0,m,n,a,b,_=>by simp at a b;omega
 |k+1,m,n,a,b,h=>by
  simp only[pathOf,List.cons.injEq]at h;have c:=aFV (c9 _ (by omega)) (c9 _ (by omega)) h.1;have d:=Gz k (m/4) (n/4) (by rw[c6]at a;omega) (by rw[c6]at b;omega) h.2;omega
theorem JU(k n:Nat):jI k .lf n=.p .undef:=by
 simp[jI,Ij]
theorem Wd{a b:Nat}(h:a<=b):ce a b=true:=cx h
theorem Kp{a b:Nat}(h:¬a<=b):ce a b=false:=by
 cases c:ce a b
 ·rfl
 ·exact(h (cJ c)).elim
theorem AM(k:Nat)(R:RT)(d x:Nat)(v:AV)(h:d<4^k):jI k (vC k R d v) x=if x=d then v else jI k R x:=by
 unfold jI vC
 by_cases hx:x+1<=4^k
 ·simp only[Wd hx,cond_true]
  by_cases a:x=d
  ·subst a;rw[Gx,if_pos rfl]
  ·rw[if_neg a,FC _ _ _ _ (by rw[zY,zY]) (fun e=>a (Gz k x d (by omega) h e))]
 ·have:x≠d:=by omega
  simp only[Kp hx,cond_false,this,if_false]
def Rel(k:Nat)(e:Env)(R:RT):Prop:=∀x,aN e x=jI k R x
noncomputable def kl(k:Nat)(d:Option Nat)(v:AV)(R:RT):Option RT:=
 match d with
 |none=>some R
 |some d=>bif ce (d+1) (4^k)then some (vC k R d v)else none
theorem ub{k:Nat}{d:Option Nat}{v:AV}{R a:RT}{e:Env}(h:kl k d v R=some a)(b:Rel k e R):Rel k (put d v e) a:=by
 unfold kl at h
 split at h
 ·simp only[db]at h;subst h;exact b
 ·simp only[ao,da,db]at h;obtain⟨c,rfl⟩:=h;intro x;rw[AM _ _ _ _ _ (by have:=cJ c;omega)];simp only[put,aN]
  split
  ·rfl
  ·exact b x
noncomputable def jC(k:Nat)(R:RT):ax->AV
 | .tmp t=>jI k R t
 | .const v=>.p (ofConst v)
 | .global g=>.p (Gl.g g)
 | .func f=>.p (.func f [] [])
theorem x9{k:Nat}{R:RT}{e:Env}(a:Rel k e R):jC k R=ev e:=by
 funext o;cases o<;>simp[jC,ev,a _]
def oM(H:aj)(e:aS):aj:=
 match e.aI,e.aQ with
 |[],[]=>H
 |_,_=>bk H e.aI++e.aQ
theorem Iy(H:aj)(e:aS):oM H e=bk H e.aI++e.aQ:=by
 unfold oM;split
 ·rename_i a b;simp[a,b,bk]
 ·rfl
structure jA where
 cP:aT->List AV->aj->Option (AV×aj)
 cD:aT->List AV->aj->Option aS
 cY:Nat->aj->List AV->Option (aj×AV)
 cI:AV->Nat->aj->Option aj
 yM:Nat->List AV->aj->Option aS
structure jK(P:a0)(B:jA):Prop where
 cP:∀f args H v H',B.cP f args H=some (v,H')->∀K:AV->aj->Prop,K v H'->gF P false f args H K
 cD:∀f args H e,B.cD f args H=some e->∀K:aS->Prop,K e->gL P f args H K
 cY:∀b H args H' v,B.cY b H args=some (H',v)->fh P b H args H' v
 cI:∀it b H H',B.cI it b H=some H'->∀K:aj->Prop,K H'->iR P it b H K
 yM:∀b args H e,B.yM b args H=some e->nw P b args H.length e/\nC H e
section
variable(P:a0)(ag:aT->Bool)(B:jA)(k:Nat)
noncomputable def vA(o:Oper)(R:RT)(H:aj):Option (RT×aj):=
 match o.op with
 | .call {callee:=.value f,args,.. }=>match(match jC k R f with
  | .p (.func g fi ca)=>B.cP g (fi.map .p++args.toList.map (jC k R)++ca.map .p) H
  | .func g fi ca=>B.cP g (fi++args.toList.map (jC k R)++ca) H
  | .map b=>match B.cY b H (args.toList.map (jC k R))with
   |some (H',v)=>some (v,H')
   |none=>none
  |_=>none)with
  |some (v,H')=>match kl k o.dst v R with
   |some a=>some (a,H')
   |none=>none
  |none=>none
 |_=>match yY P ag o (jC k R) H with
  |some e=>match kl k o.dst e.v R with
   |some a=>some (a,oM H e)
   |none=>none
  |none=>none
noncomputable def xZ(a:Array Oper)(j:Nat)(R:RT):AV:=
 match(a[j]?).bind (·.dst)with
 |some d=>jI k R d
 |none=>.p (.aA [])
noncomputable def mB(b:Array Oper):List Oper->RT->aj->Option (RT×aj)
 |[],R,H=>some (R,H)
 |o::r,R,H=>match o.guard with
  |none=>match vA P ag B k o R H with
   |some (a,H')=>mB b r a H'
   |none=>none
  |some (j,want)=>match xZ k b j R with
   | .p (.bool t)=>match t,want with
    |true,true|false,false=>match vA P ag B k o R H with
     |some (a,H')=>mB b r a H'
     |none=>none
    |_,_=>match kl k o.dst (.p (.aA [])) R with
     |some a=>mB b r a H
     |none=>none
   | .p (.aA [])=>match kl k o.dst (.p (.aA [])) R with
    |some a=>mB b r a H
    |none=>none
   |_=>none
noncomputable def vk(o:Oper)(R:RT)(H:aj):Option aS:=
 match o.op with
 | .call {callee:=.value f,args,.. }=>match jC k R f with
  | .p (.func g fi ca)=>B.cD g (fi.map .p++args.toList.map (jC k R)++ca.map .p) H
  | .func g fi ca=>B.cD g (fi++args.toList.map (jC k R)++ca) H
  | .map b=>B.yM b (args.toList.map (jC k R)) H
  |_=>none
 |_=>yY P ag o (jC k R) H
noncomputable def mn(b:Array Oper):List Oper->Nat->List Touch->RT->aj->Option (RT×aj)
 |[],_,acc,R,H=>bif gZ b acc then some (R,H)else none
 |o::r,i,acc,R,H=>match o.guard with
  |none=>match vk P ag B k o R H with
   |some e=>match kl k o.dst e.v R with
    |some a=>mn b r (i+1) (fN i H.length e acc) a (oM H e)
    |none=>none
   |none=>none
  |some (j,want)=>match xZ k b j R with
   | .p (.bool t)=>match t,want with
    |true,true|false,false=>match vk P ag B k o R H with
     |some e=>match kl k o.dst e.v R with
      |some a=>mn b r (i+1) (fN i H.length e acc) a (oM H e)
      |none=>none
     |none=>none
    |_,_=>match kl k o.dst (.p (.aA [])) R with
     |some a=>mn b r (i+1) acc a H
     |none=>none
   | .p (.aA [])=>match kl k o.dst (.p (.aA [])) R with
    |some a=>mn b r (i+1) acc a H
    |none=>none
   |_=>none
abbrev Out:=Option (bm×RT×aj)
def u4(f:RT->aj->Out):Nat->RT->aj->Out
 |0,_,_=>none
 |n+1,R,H=>match f R H with
  |some (.normal,a,H')=>u4 f n a H'
  |r=>r
noncomputable def sR(k:Nat)(R:RT):Nat->Env
 |0=>[]
 |n+1=>(n,jI k R n)::sR k R n
def U8:Nat:=100000
def yu(j:Option Code):Option bm:=
 match j with
 |none=>some .normal
 |some (.exit id)=>some (.exit id)
 |some .ret=>some .ret
 |_=>none
def Dj(b:Nat)(R:RT)(H:aj):Out:=
 match H[b]? with
 |some (.loop L)=>match L.st with
  | .busy=>none
  |_=>match yu L.pending with
   |some e=>some (e,R,H.set b (.loop {L with st:=.exhausted}))
   |none=>none
 |_=>none
noncomputable def gK(q:Cx):Code->RT->aj->Out
 | .skip,R,H| .label _,R,H=>some (.normal,R,H)
 | .region _ ops draw,R,H=>bif draw then match mn P ag B k ops ops.toList 0 [] R H with
  |some (d,H')=>some (.normal,d,H')
  |none=>none
  else match mB P ag B k ops ops.toList R H with
   |some (d,H')=>some (.normal,d,H')
   |none=>none
 | .seq a b,R,H=>match gK q a R H with
  |some (.normal,d,H')=>gK q b d H'
  |r=>r
 | .cond c a b,R,H=>match jC k R c with
  | .p (.bool t)=>match t with
   |true=>gK q a R H
   |false=>gK q b R H
  |_=>none
 | .block id b,R,H=>match gK q b R H with
  |some (.exit i,d,H')=>bif ck i id then some (.normal,d,H')else some (.exit i,d,H')
  |r=>r
 | .scope b,R,H=>gK q b R H
 | .loop b,R,H=>u4 (fun R H=>gK q b R H) U8 R H
 | .rangeFunc f e a b,R,H=>bif ce q.2 H.length&&ce q.1 (4^k)then match B.cI (jC k R f) H.length (H++[.loop ⟨.ready,none,q.1,e.toList,a,b,sR k R (4^k)⟩])with
  |some H'=>Dj H.length R H'
  |none=>none
  else none
 | .exit id,R,H=>some (.exit id,R,H)
 | .ret,R,H=>some (.ret,R,H)
 |_,_,_=>none
end
section
variable{P:a0}{ag:aT->Bool}{B:jA}{k:Nat}
theorem HB(e:aS)(dst:Option Tmp)(env:Env)(H:aj):e.app dst ⟨env,H⟩=⟨put dst e.v env,oM H e⟩:=by
 simp[aS.app,Iy]
theorem aFc(b:jK P B){o:Oper}{R i:RT}{H H':aj}{env:Env}(h:vA P ag B k o R H=some (i,H'))(g:Rel k env R):
 ∃j,Rel k j i/\∀K:St->Prop,K ⟨j,H'⟩->jo P ag false o K ⟨env,H⟩:=by
 unfold vA at h;unfold jo;rw[x9 g]at h
 split at h
 ·rename_i f args n c
  split at h
  case h_2=>simp at h
  rename_i v l hc
  split at h
  case h_2=>simp at h
  rename_i m d;simp only[db,dg]at h;obtain⟨rfl,rfl⟩:=h;refine⟨_,ub d g,fun K a=>?_⟩;simp only[c]
  split at hc
  ·rename_i hf;simp only[hf];exact b.cP _ _ _ _ _ hc _ a
  ·rename_i hf;simp only[hf];exact b.cP _ _ _ _ _ hc _ a
  ·rename_i hf
   split at hc
   ·rename_i l s r;simp only[db,dg]at hc;obtain⟨rfl,rfl⟩:=hc;simp only[hf];exact⟨_,_,b.cY _ _ _ _ _ r,a⟩
   ·simp at hc
  ·simp at hc
 ·rename_i q
  split at h
  case h_2=>simp at h
  rename_i e p
  split at h
  case h_2=>simp at h
  rename_i m d;simp only[db,dg]at h;obtain⟨rfl,rfl⟩:=h;refine⟨_,ub d g,fun K a=>?_⟩
  split
  ·rename_i f args n c;exact(q _ _ _ c).elim
  ·exact LI p (by rw[HB];exact a)
theorem HC{a:Array Oper}{j:Nat}{R:RT}{env:Env}(b:Rel k env R):xZ k a j R=guardOf a j env:=by
 unfold xZ guardOf;split
 ·rename_i h;simp only[h];exact(b _).symm
 ·rename_i h;simp only[h]
theorem B2(f:jK P B){c:Array Oper}:∀{l:List Oper}{R a:RT}{H H':aj}{env:Env},mB P ag B k c l R H=some (a,H')->Rel k env R->
 ∃b,Rel k b a/\∀K:St->Prop,K ⟨b,H'⟩->gG P ag false c l K ⟨env,H⟩
 |[],R,a,H,H',env,h,d=>by
  simp only[mB,db,dg]at h;obtain⟨rfl,rfl⟩:=h;exact⟨env,d,fun K g=>g⟩
 |o::l,R,a,H,H',env,h,d=>by
  have run:(match vA P ag B k o R H with
   |some (a,H')=>mB P ag B k c l a H'
   |none=>none)=some (a,H')->∃b,Rel k b a/\∀K:St->Prop,K ⟨b,H'⟩->jo P ag false o (gG P ag false c l K) ⟨env,H⟩:=by
   intro h
   split at h
   case h_2=>simp at h
   rename_i n H1 e;obtain⟨w,q,a2⟩:=aFc f e d;obtain⟨u,r,s⟩:=B2 f h q;exact⟨u,r,fun K g=>a2 _ (s K g)⟩
  have skip:(match kl k o.dst (.p (.aA [])) R with
   |some a=>mB P ag B k c l a H
   |none=>none)=some (a,H')->∃b,Rel k b a/\∀K:St->Prop,K ⟨b,H'⟩->gG P ag false c l K ⟨put o.dst (.p (.aA [])) env,H⟩:=by
   intro h
   split at h
   case h_2=>simp at h
   rename_i n e;exact B2 f h (ub e d)
  simp only[mB]at h;simp only[gG]
  split at h
  ·rename_i i;simp only[i];exact run h
  ·rename_i j v i;simp only[i];rw[HC d]at h
   split at h
   ·rename_i t m;simp only[m];cases t<;>cases v
    ·simpa using run h
    ·simpa using skip h
    ·simpa using skip h
    ·simpa using run h
   ·rename_i m;simp only[m];exact skip h
   ·simp at h
theorem XV(b:jK P B){o:Oper}{R:RT}{H:aj}{e:aS}{env:Env}(h:vk P ag B k o R H=some e)(l:Rel k env R)(K:aS->Prop)(a:K e):ja P ag o ⟨env,H⟩ K:=by
 unfold vk at h;unfold ja;rw[x9 l]at h
 split at h
 ·rename_i f args d c;simp only[c]
  split at h
  ·rename_i hf;simp only[hf];exact b.cD _ _ _ _ h _ a
  ·rename_i hf;simp only[hf];exact b.cD _ _ _ _ h _ a
  ·rename_i hf;simp only[hf];obtain⟨g,i⟩:=b.yM _ _ _ _ h;exact⟨e,g,i,a⟩
  ·simp at h
 ·rename_i j
  split
  ·rename_i f args d c;exact(j _ _ _ c).elim
  ·exact LI h a
theorem Bs(m:jK P B){f:Array Oper}:∀{l:List Oper}{i:Nat}{b:List Touch}{R a:RT}{H H':aj}{env:Env},mn P ag B k f l i b R H=some (a,H')->Rel k env R->
 ∃c,Rel k c a/\∀K:St->Prop,K ⟨c,H'⟩->fT P ag f l i b K ⟨env,H⟩
 |[],i,b,R,a,H,H',env,h,d=>by
  simp only[mn,ao,da,db,dg]at h;obtain⟨g,rfl,rfl⟩:=h;exact⟨env,d,fun K n=>⟨g,n⟩⟩
 |o::l,i,b,R,a,H,H',env,h,d=>by
  have run:(match vk P ag B k o R H with
   |some e=>match kl k o.dst e.v R with
    |some a=>mn P ag B k f l (i+1) (fN i H.length e b) a (oM H e)
    |none=>none
   |none=>none)=some (a,H')->∃c,Rel k c a/\∀K:St->Prop,K ⟨c,H'⟩->ja P ag o ⟨env,H⟩ (fun e=>fT P ag f l (i+1) (fN i H.length e b) K (e.app o.dst ⟨env,H⟩)):=by
   intro h
   split at h
   case h_2=>simp at h
   rename_i e y
   split at h
   case h_2=>simp at h
   rename_i s g;obtain⟨x,u,w⟩:=Bs m h (ub g d);exact⟨x,u,fun K n=>XV m y d _ (by rw[HB];exact w K n)⟩
  have skip:(match kl k o.dst (.p (.aA [])) R with
   |some a=>mn P ag B k f l (i+1) b a H
   |none=>none)=some (a,H')->∃c,Rel k c a/\∀K:St->Prop,K ⟨c,H'⟩->fT P ag f l (i+1) b K ⟨put o.dst (.p (.aA [])) env,H⟩:=by
   intro h
   split at h
   case h_2=>simp at h
   rename_i s g;exact Bs m h (ub g d)
  simp only[mn]at h;simp only[fT]
  split at h
  ·rename_i q;simp only[q];exact run h
  ·rename_i j z q;simp only[q];rw[HC d]at h
   split at h
   ·rename_i t r;simp only[r];cases t<;>cases z
    ·simpa using run h
    ·simpa using skip h
    ·simpa using skip h
    ·simpa using run h
   ·rename_i r;simp only[r];exact skip h
   ·simp at h
theorem IF(R:RT):∀(n:Nat),∀x,aN (sR k R n) x=if x<n then jI k R x else .p .undef
 |0,x=>by simp[sR,aN]
 |n+1,x=>by
  simp only[sR,aN,IF R n]
  by_cases h:x=n
  ·subst h;simp
  ·simp only[h,if_false]
   by_cases a:x<n
   ·simp[a,Nat.lt_succ_of_lt a]
   ·have:¬x<n+1:=by omega
    simp[a,this]
theorem Vm(k:Nat)(R:RT)(n:Nat)(h:4^k<=n):jI k R n=.p .undef:=by
 unfold jI;rw[Kp (by omega)];rfl
theorem X0{R:RT}{env:Env}(a:Rel k env R):∀x,aN (sR k R (4^k)) x=aN env x:=by
 intro x;rw[IF,a]
 split
 ·rfl
 ·rw[Vm k R x (by omega)]
theorem Ve{j:Option Code}{e:bm}(h:yu j=some e)(Q:bm->St->Prop)(s:St)(hq:Q e s):iW Q j s:=by
 unfold yu at h;unfold iW
 split at h<;>simp at h<;>subst h<;>exact hq
theorem VB{b:Nat}{R a:RT}{H H':aj}{e:bm}{env:Env}(h:Dj b R H=some (e,a,H')):a=R/\∀Q:bm->St->Prop,Q e ⟨env,H'⟩->gS b env Q H:=by
 unfold Dj at h
 split at h
 case h_2=>simp at h
 rename_i L c
 have go:(match yu L.pending with
  |some e=>some (e,R,H.set b (.loop {L with st:=.exhausted}))
  |none=>none)=some (e,a,H')->L.st≠.busy->a=R/\∀Q:bm->St->Prop,Q e ⟨env,H'⟩->gS b env Q H:=by
  intro h aK
  split at h
  case h_2=>simp at h
  rename_i e' d;simp only[db,dg]at h;obtain⟨rfl,rfl,rfl⟩:=h;exact⟨rfl,fun Q hq=>by unfold gS;simp only[c];exact⟨aK,Ve d Q _ hq⟩⟩
 split at h
 ·simp at h
 ·rename_i aK;exact go h aK
theorem Tz{q:Cx}{b:Code}{Q:bm->St->Prop}{s s':St}(f:∀c:bm->St->Prop,c .normal s'->bW P ag q b c s)(d:bW P ag q (.loop b) Q s'):bW P ag q (.loop b) Q s:=by
 simp only[bW]at d⊢;obtain⟨I,⟨a,t0,hf,hI⟩,g⟩:=d;refine⟨fun n t=>I n t\/(n=a+1/\t=s),⟨a+1,s,.inl rfl,.inr ⟨rfl,rfl⟩⟩,?_⟩;rintro n t (h|⟨rfl,rfl⟩)
 ·obtain⟨e,u,k1,k2⟩:=mL b t _ (g n t h);refine k2 _ ?_;cases e with
  |normal=>
   obtain⟨m,i,g1,g2,g3⟩:=k1;exact⟨m,i,g1,g2,.inl g3⟩
  |exit id=>exact k1
  |ret=>exact k1
 ·exact f _ ⟨a,t0,Nat.lt_succ_self _,hf,.inl hI⟩
theorem Ty{q:Cx}{b:Code}{Q:bm->St->Prop}{s s':St}{e:bm}(f:e≠.normal)(d:∀a:bm->St->Prop,a e s'->bW P ag q b a s)(c:Q e s'):bW P ag q (.loop b) Q s:=by
 simp only[bW];refine⟨fun n t=>n=0/\t=s,⟨0,s,.inl rfl,rfl,rfl⟩,?_⟩;rintro n t ⟨rfl,rfl⟩;refine d _ ?_;cases e with
 |normal=>exact(f rfl).elim
 |exit id=>exact c
 |ret=>exact c
theorem I6{q:Cx}{b:Code}{f:RT->aj->Out}(hf:∀{R a:RT}{H H':aj}{e:bm}{env:Env},f R H=some (e,a,H')->Rel k env R->∃c,Rel k c a/\∀Q:bm->St->Prop,Q e ⟨c,H'⟩->bW P ag q b Q ⟨env,H⟩):
 ∀(n:Nat){R a:RT}{H H':aj}{e:bm}{env:Env},u4 f n R H=some (e,a,H')->Rel k env R->∃c,Rel k c a/\∀Q:bm->St->Prop,Q e ⟨c,H'⟩->bW P ag q (.loop b) Q ⟨env,H⟩
 |0,R,a,H,H',e,env,h,g=>by simp[u4]at h
 |n+1,R,a,H,H',e,env,h,g=>by
  simp only[u4]at h
  split at h
  ·rename_i r H1 o;obtain⟨i,d,a2⟩:=hf o g;obtain⟨m,j,l⟩:=I6 hf n h d;exact⟨m,j,fun Q hq=>Tz a2 (l Q hq)⟩
  ·rename_i p;obtain⟨i,d,a2⟩:=hf h g;refine⟨i,d,fun Q hq=>Ty ?_ a2 hq⟩;rintro rfl;exact p _ _ h
theorem kD(m:jK P B){q:Cx}:∀{c:Code}{R l:RT}{H H':aj}{e:bm}{env:Env},gK P ag B k q c R H=some (e,l,H')->Rel k env R->
 ∃r,Rel k r l/\∀Q:bm->St->Prop,Q e ⟨r,H'⟩->bW P ag q c Q ⟨env,H⟩
 | .skip,R,l,H,H',e,env,h,d| .label _,R,l,H,H',e,env,h,d| .exit _,R,l,H,H',e,env,h,d| .ret,R,l,H,H',e,env,h,d=>by
  simp only[gK,db,dg]at h;obtain⟨rfl,rfl,rfl⟩:=h;exact⟨env,d,fun Q hq=>hq⟩
 | .region id ops draw,R,l,H,H',e,env,h,d=>by
  simp only[gK]at h;cases draw
  ·simp only[cond_false]at h
   split at h
   case h_2=>simp at h
   rename_i o H1 n;simp only[db,dg]at h;obtain⟨rfl,rfl,rfl⟩:=h;obtain⟨j,g,a2⟩:=B2 m n d;exact⟨j,g,fun Q hq=>by simp only[bW];exact a2 _ hq⟩
  ·simp only[cond_true]at h
   split at h
   case h_2=>simp at h
   rename_i o H1 n;simp only[db,dg]at h;obtain⟨rfl,rfl,rfl⟩:=h;obtain⟨j,g,a2⟩:=Bs m n d;exact⟨j,g,fun Q hq=>by simp only[bW,if_true];exact a2 _ hq⟩
 | .seq a b,R,l,H,H',e,env,h,d=>by
  simp only[gK]at h
  split at h
  ·rename_i o H1 n;obtain⟨j,g,a2⟩:=kD m n d;obtain⟨w,u,v⟩:=kD m h g;exact⟨w,u,fun Q hq=>by simp only[bW];exact a2 _ (v Q hq)⟩
  ·rename_i p;obtain⟨j,g,a2⟩:=kD m h d;refine⟨j,g,fun Q hq=>by
    simp only[bW];refine a2 _ ?_;cases e with
    |normal=>exact(p _ _ h).elim
    |exit id=>exact hq
    |ret=>exact hq⟩
 | .cond c a b,R,l,H,H',e,env,h,d=>by
  simp only[gK,x9 d]at h
  split at h
  case h_2=>simp at h
  rename_i t s;cases t
  ·obtain⟨j,g,a2⟩:=kD m h d;exact⟨j,g,fun Q hq=>by simp only[bW,s];exact a2 Q hq⟩
  ·obtain⟨j,g,a2⟩:=kD m h d;exact⟨j,g,fun Q hq=>by simp only[bW,s,if_true];exact a2 Q hq⟩
 | .block id b,R,l,H,H',e,env,h,d=>by
  simp only[gK]at h
  split at h
  ·rename_i i o H1 n;obtain⟨j,g,a2⟩:=kD m n d;cases hi:ck i id
   ·simp only[hi,cond_false,db,dg]at h;obtain⟨rfl,rfl,rfl⟩:=h;refine⟨j,g,fun Q hq=>by
     simp only[bW];refine a2 _ ?_;have:i≠id:=fun e=>by subst e;simp[cy]at hi
     simp only[this,if_false];exact hq⟩
   ·simp only[hi,cond_true,db,dg]at h;obtain⟨rfl,rfl,rfl⟩:=h;refine⟨j,g,fun Q hq=>by
     simp only[bW];refine a2 _ ?_;simp only[c8 hi,if_true];exact hq⟩
  ·rename_i p;obtain⟨j,g,a2⟩:=kD m h d;refine⟨j,g,fun Q hq=>by
    simp only[bW];refine a2 _ ?_;cases e with
    |normal=>exact hq
    |exit id=>exact(p _ _ _ h).elim
    |ret=>exact hq⟩
 | .scope b,R,l,H,H',e,env,h,d=>by
  simp only[gK]at h;obtain⟨j,g,a2⟩:=kD m h d;exact⟨j,g,fun Q hq=>by simp only[bW];exact a2 Q hq⟩
 | .loop b,R,l,H,H',e,env,h,d=>by
  simp only[gK]at h;exact I6 (fun h d=>kD m h d) _ h d
 | .rangeFunc f z a b,R,l,H,H',e,env,h,d=>by
  simp only[gK,ao,da,ap]at h;obtain⟨⟨n,y⟩,h⟩:=h
  split at h
  case h_2=>simp at h
  rename_i H1 hI;obtain⟨rfl,x⟩:=VB (env:=env) h;refine⟨env,d,fun Q hq=>?_⟩;simp only[bW];rw[x9 d]at hI;exact⟨cJ n,_,X0 d,m.cI _ _ _ _ hI _ (x Q hq)⟩
 | .goto _,_,_,_,_,_,_,h,_=>by simp[gK]at h
 | .refuse _,_,_,_,_,_,_,h,_=>by simp[gK]at h
end
def qV(n:Nat):Nat:=
 match ce n 16,ce n 64,ce n 256,ce n 1024 with
 |true,_,_,_=>2
 |_,true,_,_=>3
 |_,_,true,_=>4
 |_,_,_,true=>5
 |_,_,_,_=>6
noncomputable def uZ(k:Nat):Nat->List AV->RT
 |_,[]=>.lf
 |i,v::r=>vC k (uZ k (i+1) r) i v
theorem Jj(k:Nat):∀(l:List AV)(i:Nat),i+l.length<=4^k->Rel k (iw i l) (uZ k i l)
 |[],i,_=>fun x=>by simp[iw,uZ,aN,JU]
 |v::r,i,h=>fun x=>by
  simp only[List.length_cons]at h;rw[uZ,AM _ _ _ _ _ (by omega)];simp only[iw,aN]
  split
  ·rfl
  ·exact Jj k r (i+1) (by omega) x
noncomputable def vm(k:Nat):Env->Option RT
 |[]=>some .lf
 |(x,v)::r=>match vm k r with
  |some R=>bif ce (x+1) (4^k)then some (vC k R x v)else none
  |none=>none
theorem IE(k:Nat):∀{e:Env}{R:RT},vm k e=some R->Rel k e R
 |[],R,h=>by
  simp only[vm,db]at h;subst h;intro x;simp[aN,JU]
 |(y,v)::r,R,h=>by
  simp only[vm]at h
  split at h
  case h_2=>simp at h
  rename_i c a;simp only[ao,da,db]at h;obtain⟨b,rfl⟩:=h;intro x;rw[AM _ _ _ _ _ (by have:=cJ b;omega)];simp only[aN]
  split
  ·rfl
  ·exact IE k a x
noncomputable def zf(P:a0)(k:Nat)(R:RT)(H:aj):List a1->Option (List AV)
 |[]=>some []
 |r::rs=>match(match r with
  | .tmp t=>some (jI k R t)
  | .cell a T=>match jI k R a with
   | .ptr b path=>match H[b]? with
    |some (.box _ t)=>match eL t path with
     |some v=>bif sE (kindOf P T) (ad v)then some v else none
     |none=>none
    |_=>none
   |_=>none),zf P k R H rs with
  |some v,some vs=>some (v::vs)
  |_,_=>none
theorem JV{P:a0}{k:Nat}{R:RT}{H:aj}{env:Env}(d:Rel k env R):∀{e:List a1}{vs:List AV},zf P k R H e=some vs->fC P ⟨env,H⟩ e=some vs
 |[],vs,h=>h
 |r::e,vs,h=>by
  simp only[zf]at h
  split at h
  case h_2=>simp at h
  rename_i v o c f;simp only[db]at h;subst h;have g:oB P ⟨env,H⟩ r=some v:=by
   cases r with
   |tmp t=>simp only[oB];rw[d];exact c
   |cell a T=>
    simp only[oB];dsimp only at c;rw[<-d]at c
    split at c
    case h_2=>simp at c
    rename_i b n j
    split at c
    case h_2=>simp at c
    rename_i fz t l
    split at c
    case h_2=>simp at c
    rename_i u m;simp only[ao,da,db]at c;obtain⟨i,rfl⟩:=c;rw[j];simp only[l,m,(iy i).1,if_true]
  simp only[fC,g,JV d f]
section
variable(P:a0)(ag:aT->Bool)
noncomputable def yz(B:jA)(fn:Func)(args:List AV)(N:Nat)(H:aj):Option (AV×aj):=
 bif ce args.length fn.ntmps&&ce fn.ntmps (4^qV fn.ntmps)then
  match gK P ag B (qV fn.ntmps) (fn.ntmps,N) (fn.body.getD .skip) (uZ (qV fn.ntmps) 0 args) H with
  |some (.exit _,_,_)=>none
  |some (_,R,H')=>match zf P (qV fn.ntmps) R H' fn.results.toList with
   |some vs=>some (oneOf vs,H')
   |none=>none
  |none=>none
 else none
structure mF where
 s9:aT->Option Func
 yS:aT->List PV->Option PV
 yT:aT->List AV->aj->Option (AV×aj)
 kS:aT->aT->Nat
 sT:aT->List AV->aj->Option (List (Nat×Obj)×PV)
noncomputable def oV(pl:mF)(B:aT->jA)(f:aT)(vs:List PV):Option PV:=
 match pl.yS f vs with
 |some v=>some v
 |none=>match pl.s9 f with
  |some fn=>match yz P ag (B f) fn (vs.map .p) 0 []with
   |some (v,H)=>er H 9 v
   |none=>none
  |none=>none
noncomputable def nI(pl:mF)(B:aT->jA)(f:aT)(args:List AV)(H:aj):Option (AV×aj):=
 match pl.yT f args H with
 |some r=>some r
 |none=>match pl.s9 f with
  |some fn=>yz P ag (B f) fn args H.length H
  |none=>none
noncomputable def xW(B:jA)(b:Nat)(H:aj)(args:List AV):Option (aj×AV):=
 match H[b]? with
 |some (.loop L)=>bif ck args.length L.params.length&&(L.params.all (fun x=>decide (x<L.n))&&codeOk fit L.n L.assign&&codeOk fit L.n L.body)then
  match vm (qV L.n) (pX L.params args L.env)with
  |some R=>match gK P ag B (qV L.n) (L.n,H.length) L.assign R H with
   |some (.normal,f,H1)=>match H1[b]? with
    |some (.loop c)=>match c.st with
     | .ready=>match gK P ag B (qV L.n) (L.n,H.length) L.body f (H1.set b (.loop {c with st:=.busy}))with
      |some (e,_,a)=>match a[b]? with
       |some (.loop d)=>some (a.set b (.loop {d with st:=if(gE e).isNone then .ready else .done,pending:=gE e}),.p (.bool (gE e).isNone))
       |_=>none
      |none=>none
     |_=>none
    |_=>none
   |_=>none
  |none=>none
  else none
 |_=>none
noncomputable def C7(pl:mF)(B:aT->jA)(it:AV)(b:Nat)(H:aj):Option aj:=
 match it with
 | .p (.func g fi ca)=>match nI P ag pl B g (fi.map .p++[.map b]++ca.map .p) H with
  |some (_,H')=>some H'
  |none=>none
 | .func g fi ca=>match nI P ag pl B g (fi++[.map b]++ca) H with
  |some (_,H')=>some H'
  |none=>none
 |_=>none
noncomputable def CU(pl:mF)(B:aT->jA)(c f:aT)(args:List AV)(H:aj):Option (AV×aj):=
 match pl.sT f args H with
 |some (_,v)=>some (.p v,H)
 |none=>match pl.kS c f with
 |0=>match dW args with
  |some vs=>match oV P ag pl B f vs with
   |some v=>some (.p v,H)
   |none=>none
  |none=>nI P ag pl B f args H
 |1=>nI P ag pl B f args H
 |3=>match uU (nI P ag pl B f) args H with
  |some e=>some (e.v,oM H e)
  |none=>none
 |_=>match jH H args with
  |some (vs,H1)=>match oV P ag pl B f vs with
   |some v=>some (.p v,H1)
   |none=>none
  |none=>none
noncomputable def CT(pl:mF)(B:aT->jA)(c f:aT)(args:List AV)(H:aj):Option aS:=
 match pl.sT f args H with
 |some (ak,v)=>some {v:=.p v,ak}
 |none=>match pl.kS c f with
 |3=>uU (nI P ag pl B f) args H
 |_=>match dW args with
 |some vs=>match oV P ag pl B f vs with
  |some v=>some {v:=.p v}
  |none=>none
 |none=>match nv H args with
  |some (vs,bs)=>match kG H bs with
   |some (ak,aI)=>match oV P ag pl B f vs with
    |some v=>some {v:=.p v,ak,aI}
    |none=>none
   |none=>none
  |none=>uU (nI P ag pl B f) args H
def rS:jA:=⟨fun _ _ _=>none,fun _ _ _=>none,fun _ _ _=>none,fun _ _ _=>none,fun _ _ _=>none⟩
noncomputable def jS(pl:mF):Nat->aT->jA
 |0,_=>rS
 |n+1,c=>⟨CU P ag pl (jS pl n) c,CT P ag pl (jS pl n) c,xW P ag (jS pl n c),C7 P ag pl (jS pl n),BV (xW P ag (jS pl n c))⟩
end
structure nm(P:a0)(pl:mF):Prop where
 mix:P.follows .mixedOrders=true
 s9:∀f fn,pl.s9 f=some fn->an P f fn
 yS:∀f vs v,pl.yS f vs=some v->au P f vs v
 yT:∀f args H v H',pl.yT f args H=some (v,H')->de P f H args H' v
 sT:∀f args H ak v,pl.sT f args H=some (ak,v)->CG P f args ak v/\∀p∈ak,H[p.1]?=some p.2
section
variable{P:a0}{ag:aT->Bool}{B1:jA}{B:aT->jA}{pl:mF}
theorem Iv(f:jK P B1){fn:Func}{args:List AV}{N:Nat}{H H':aj}{v:AV}(h:yz P ag B1 fn args N H=some (v,H')):
 args.length<=fn.ntmps/\∃e a vs,(match e with
  |bm.exit _=>False
  |_=>True)/\fC P ⟨a,H'⟩ fn.results.toList=some vs/\oneOf vs=v/\∀Q:bm->St->Prop,Q e ⟨a,H'⟩->bW P ag (fn.ntmps,N) (fn.body.getD .skip) Q ⟨iw 0 args,H⟩:=by
 unfold yz at h;simp only[ao,da,ap]at h;obtain⟨⟨b,c⟩,h⟩:=h;have b:=cJ b;have c:=cJ c;refine⟨b,?_⟩
 split at h
 ·simp at h
 ·rename_i e R k g hc
  split at h
  case h_2=>simp at h
  rename_i vs j;simp only[db,dg]at h;obtain⟨rfl,rfl⟩:=h;obtain⟨a,d,a2⟩:=kD f hc (Jj _ args 0 (by omega));refine⟨e,a,vs,?_,JV d j,rfl,a2⟩;cases e with
  |exit i=>exact g i rfl
  |_=>trivial
 ·simp at h
theorem uh(a:nm P pl)(j:∀c,jK P (B c)){f:aT}{vs:List PV}{v:PV}(h:oV P ag pl B f vs=some v):au P f vs v:=by
 unfold oV at h
 split at h
 ·rename_i v' hk;simp only[db]at h;subst h;exact a.yS _ _ _ hk
 ·split at h
  case h_2=>simp at h
  rename_i fn hf
  split at h
  case h_2=>simp at h
  rename_i v' H' k;obtain⟨b,e,m,l,d,g,rfl,i⟩:=Iv (j _) k;exact yR ag (a.s9 _ _ hf) a.mix (by simpa using b) (i _ ⟨d,l,g,h⟩)
theorem pL(a:nm P pl)(j:∀c,jK P (B c)){f:aT}{args:List AV}{H H':aj}{v:AV}(h:nI P ag pl B f args H=some (v,H')):de P f H args H' v:=by
 unfold nI at h
 split at h
 ·rename_i r hk;simp only[db]at h;subst h;exact a.yT _ _ _ _ _ hk
 ·split at h
  case h_2=>simp at h
  rename_i fn hf;obtain⟨b,e,l,k,d,g,rfl,i⟩:=Iv (j _) h;exact NQ ag (a.s9 _ _ hf) a.mix b (i _ ⟨d,k,g,rfl,.inl rfl⟩)
theorem Hy{args:List AV}{vs:List PV}(h:dW args=some vs):args=vs.map .p:=lr h
theorem V1(b:nm P pl)(d:∀c,jK P (B c)){c f:aT}{args:List AV}{H H':aj}{v:AV}(h:CU P ag pl B c f args H=some (v,H'))(K:AV->aj->Prop)(a:K v H'):gF P false f args H K:=by
 unfold CU at h
 split at h
 ·rename_i ak v' hx;simp only[db,dg]at h;obtain⟨rfl,rfl⟩:=h;obtain⟨i,j⟩:=b.sT _ _ _ _ _ hx;exact .inr ⟨rfl,.inr (.inr (.inr ⟨ak,v',i,j,a⟩))⟩
 split at h
 ·split at h
  ·rename_i vs m
   split at h
   case h_2=>simp at h
   rename_i v' g;simp only[db,dg]at h;obtain⟨rfl,rfl⟩:=h;exact .inl ⟨vs,v',Hy m,uh b d g,a⟩
  ·exact .inr ⟨rfl,.inr (.inl ⟨H',v,pL b d h,a⟩)⟩
 ·exact .inr ⟨rfl,.inr (.inl ⟨H',v,pL b d h,a⟩)⟩
 ·split at h
  case h_2=>simp at h
  rename_i e k;simp only[db,dg]at h;obtain⟨rfl,rfl⟩:=h;obtain⟨i,j⟩:=A4 (fun args H v H' g=>pL b d g) k;exact .inr ⟨rfl,.inr (.inr (.inl ⟨e,i,j,by rw[<-Iy];exact a⟩))⟩
 ·split at h
  case h_2=>simp at h
  rename_i vs H1 l
  split at h
  case h_2=>simp at h
  rename_i v' g;simp only[db,dg]at h;obtain⟨rfl,rfl⟩:=h;exact .inr ⟨rfl,.inl ⟨vs,H1,v',l,uh b d g,a⟩⟩
theorem V3(i:nm P pl)(j:∀c,jK P (B c)){c f:aT}{args:List AV}{H:aj}{e:aS}(h:CT P ag pl B c f args H=some e)(K:aS->Prop)(g:K e):gL P f args H K:=by
 unfold CT at h
 split at h
 ·rename_i ak v' hx;simp only[db]at h;subst h;obtain⟨b,d⟩:=i.sT _ _ _ _ _ hx;exact .inr (.inr (.inr ⟨ak,v',b,d,g⟩))
 split at h
 ·obtain⟨b,d⟩:=A4 (fun args H v H' a=>pL i j a) h;exact .inr (.inr (.inl ⟨e,b,d,g⟩))
 split at h
 ·rename_i vs m
  split at h
  case h_2=>simp at h
  rename_i v' a;simp only[db]at h;subst h;exact .inl ⟨vs,v',Hy m,uh i j a,g⟩
 ·split at h
  case h_2=>
   obtain⟨b,d⟩:=A4 (fun args H v H' a=>pL i j a) h;exact .inr (.inr (.inl ⟨e,b,d,g⟩))
  rename_i vs bs l
  split at h
  case h_2=>simp at h
  rename_i ak aI k
  split at h
  case h_2=>simp at h
  rename_i v' a;simp only[db]at h;subst h;exact .inr (.inl ⟨vs,bs,ak,aI,v',l,k,uh i j a,g⟩)
theorem Hh(o:nm P pl)(a:jK P B1){b:Nat}{H H':aj}{args:List AV}{v:AV}(h:xW P ag B1 b H args=some (H',v)):fh P b H args H' v:=by
 unfold xW at h
 split at h
 case h_2=>simp at h
 rename_i L i;simp only[ao,da,ap]at h;obtain⟨⟨f,g⟩,h⟩:=h
 split at h
 case h_2=>simp at h
 rename_i R l
 split at h
 case h_2=>simp at h
 rename_i s H1 m
 split at h
 case h_2=>simp at h
 rename_i q j
 split at h
 case h_2=>simp at h
 rename_i aK
 split at h
 case h_2=>simp at h
 rename_i e t p n
 split at h
 case h_2=>simp at h
 rename_i r k;simp only[db,dg]at h;obtain⟨rfl,rfl⟩:=h;obtain⟨w,c,a2⟩:=kD a m (IE _ l);obtain⟨x,u,d⟩:=kD a n c;refine NR ag o.mix i (c8 f) (by simpa only[ap]using g) ?_;unfold xA;refine a2 _ ?_;simp only[wL,j];refine⟨aK,d _ ?_⟩;simp only[rG,k];exact⟨trivial,.inl rfl⟩
theorem Vf(g:nm P pl)(e:∀c,jK P (B c)){it:AV}{b:Nat}{H H':aj}(h:C7 P ag pl B it b H=some H')(K:aj->Prop)(f:K H'):iR P it b H K:=by
 unfold C7 at h
 split at h
 ·split at h
  case h_2=>simp at h
  rename_i v a d;simp only[db]at h;subst h;exact⟨a,v,pL g e d,f⟩
 ·split at h
  case h_2=>simp at h
  rename_i v a d;simp only[db]at h;subst h;exact⟨a,v,pL g e d,f⟩
 ·simp at h
theorem rD(a:nm P pl):∀n c,jK P (jS P ag pl n c)
 |0,_=>⟨fun _ _ _ _ _ h=>by simp[jS,rS]at h,fun _ _ _ _ h=>by simp[jS,rS]at h,fun _ _ _ _ _ h=>by simp[jS,rS]at h,fun _ _ _ _ h=>by simp[jS,rS]at h,fun _ _ _ _ h=>by simp[jS,rS]at h⟩
 |n+1,c=>⟨fun _ _ _ _ _ h=>V1 a (rD a n) h,fun _ _ _ _ h=>V3 a (rD a n) h,fun _ _ _ _ _ h=>Hh a (rD a n c) h,fun _ _ _ _ h=>Vf a (rD a n) h,fun _ _ _ _ h=>SJ (fun _ _ _ _ _ b=>Hh a (rD a n c) b) h⟩
theorem reckon{f:aT}{vs:List PV}{v:PV}(n:Nat)(a:nm P pl)(h:oV P ag pl (jS P ag pl n) f vs=some v):au P f vs v:=uh a (rD a n) h
end
section
variable{P:a0}{ag:aT->Bool}
theorem au.cL{f:aT}{args d:List PV}{v v':PV}(h:au P f args v)(g:bw d args)(i:Wk v v'):au P f d v':=by
 rcases h with h|h
 ·refine .inl ⟨h.1,fun w aa a j k c=>(h.2 w aa a j k (bE.cL _ _ _ g c)).mono ?_⟩;rintro e w' ⟨b,aE,k1,k2,k3,k4,k5,k6,l,k7⟩;exact⟨b,aE,k1,k2,k3,k4,k5,k6,l,aB.cL _ _ _ i k7⟩
 ·refine .inr fun w aa a c=>?_;obtain⟨b,k1,k2⟩:=h w aa a (bE.cL _ _ _ g c);exact⟨b,k1,aB.cL _ _ _ i k2⟩
def yD(P:a0)(a:List a1)(v:PV)(e:bm)(s:St):Prop:=
 (match e with
  | .exit _=>False
  |_=>True)/\∃vs,fC P s a=some vs/\∃v',er s.heap 9 (oneOf vs)=some v'/\Wk v' v
theorem TX{a:List a1}{v:PV}{s:St}:yD P a v .ret s=∃vs,fC P s a=some vs/\∃v',er s.heap 9 (oneOf vs)=some v'/\Wk v' v:=by simp[yD]
theorem RA{a:List a1}{v:PV}{s:St}:yD P a v .normal s=∃vs,fC P s a=some vs/\∃v',er s.heap 9 (oneOf vs)=some v'/\Wk v' v:=by simp[yD]
theorem qH.cL{f:aT}{args a:List PV}{v v':PV}(h:qH P f args v)(j:bw a args)(k:Wk v v'):qH P f a v':=by
 refine⟨h.1,fun w aa b d g i=>(h.2 w aa b d g (bE.cL _ _ _ j i)).mono ?_⟩;rintro e w' ⟨c,aE,k1,k2,k3,k4,k5,k6,l,k7⟩;exact⟨c,aE,k1,k2,k3,k4,k5,k6,l,aB.cL _ _ _ k k7⟩
theorem GB{dst:Option Tmp}{h:Nat}{pos:String}{af:Array Edge}{g:Option (Nat×Bool)}{env:Env}{heap:aj}{L:St->Prop}{f:aT}{fi ca:Array ax}(hf:ag f=false):
 cZ P ag ⟨dst,.makeFunc (.func f) fi ca,h,pos,af,g⟩ L ⟨env,heap⟩=ba (qp f (fi.toList.map (ev env)) (ca.toList.map (ev env))) (eh dst ⟨env,heap⟩ L):=by
 simp only[cZ,ki,fu,hf,qp,av,if_false]
 split
 ·rename_i c d;simp only[c,d,ba,true_and]
 ·rename_i c
  split
  ·rename_i a b d e;exact(c a b d e).elim
  ·simp only[ba,true_and]
theorem Gb{dst:Option Tmp}{h:Nat}{pos:String}{af:Array Edge}{g:Option (Nat×Bool)}{env:Env}{heap:aj}{K:aS->Prop}{f:aT}{fi ca:Array ax}(hf:ag f=false):
 c7 P ag ⟨dst,.makeFunc (.func f) fi ca,h,pos,af,g⟩ ⟨env,heap⟩ K=ba (qp f (fi.toList.map (ev env)) (ca.toList.map (ev env))) K:=by
 simp only[c7,ki,fu,hf,qp,av,if_false]
 split
 ·rename_i c d;simp only[c,d,ba,true_and]
 ·rename_i c
  split
  ·rename_i a b d e;exact(c a b d e).elim
  ·simp only[ba,true_and]
section guards
variable{ops:Array Oper}{o:Oper}{r:List Oper}{K:St->Prop}{want t:Bool}{s:St}{i:Nat}{acc:List Touch}
theorem F0:xY P ag ops o r K want s (.p (.bool t))=if t=want then cZ P ag o (fO P ag ops r K) s else fO P ag ops r K ⟨put o.dst (.p (.aA [])) s.env,s.heap⟩:=(rfl)
theorem GG:xY P ag ops o r K want s (.p (.aA []))=fO P ag ops r K ⟨put o.dst (.p (.aA [])) s.env,s.heap⟩:=(rfl)
theorem Fs:xN P ag ops o r i acc K want s (.p (.bool t))=if t=want then c7 P ag o s (u7 P ag ops r i acc K o.dst s)else fU P ag ops r (i+1) acc K ⟨put o.dst (.p (.aA [])) s.env,s.heap⟩:=(rfl)
theorem FZ:xN P ag ops o r i acc K want s (.p (.aA []))=fU P ag ops r (i+1) acc K ⟨put o.dst (.p (.aA [])) s.env,s.heap⟩:=(rfl)
theorem Ry{l:List Oper}{j:Nat}{e:Env}:guardOf l.toArray j e=match(l[j]?).bind (·.dst)with
 |some d=>aN e d
 |none=>.p (.aA []):=by simp only[guardOf,List.getElem?_toArray];cases l[j]?.bind (·.dst)<;>rfl
end guards
section calls
variable{f:aT}{H H1:aj}{K:AV->aj->Prop}{L:aS->Prop}{v a b c d e a' b' c' d' e':PV}{dr:Bool}
theorem Xm(h:au P f [] v)(hk:K (.p v) H):gF P dr f [] H K:=.inl ⟨[],v,rfl,h,hk⟩
theorem Xn(h:au P f [a'] v)(hk:K (.p v) H)(b:Wk a a':=by first|exact Wk.refl _|simp[Wk,bw]):gF P dr f [.p a] H K:=.inl ⟨[a],v,rfl,h.cL (by simp only[bw];exact⟨b,trivial⟩) (Wk.refl _),hk⟩
theorem Xo(h:au P f [a',b'] v)(hk:K (.p v) H)(c:Wk a a':=by first|exact Wk.refl _|simp[Wk,bw])(d:Wk b b':=by first|exact Wk.refl _|simp[Wk,bw]):gF P dr f [.p a,.p b] H K:=
 .inl ⟨[a,b],v,rfl,h.cL (by simp only[bw];exact⟨c,d,trivial⟩) (Wk.refl _),hk⟩
theorem Xp(h:au P f [a',b',c'] v)(hk:K (.p v) H)(d:Wk a a':=by first|exact Wk.refl _|simp[Wk,bw])(e:Wk b b':=by first|exact Wk.refl _|simp[Wk,bw])(g:Wk c c':=by first|exact Wk.refl _|simp[Wk,bw]):gF P dr f [.p a,.p b,.p c] H K:=
 .inl ⟨[a,b,c],v,rfl,h.cL (by simp only[bw];exact⟨d,e,g,trivial⟩) (Wk.refl _),hk⟩
theorem Xq(h:au P f [a',b',c',d'] v)(hk:K (.p v) H)(e:Wk a a':=by first|exact Wk.refl _|simp[Wk,bw])(g:Wk b b':=by first|exact Wk.refl _|simp[Wk,bw])(i:Wk c c':=by first|exact Wk.refl _|simp[Wk,bw])(j:Wk d d':=by first|exact Wk.refl _|simp[Wk,bw]):gF P dr f [.p a,.p b,.p c,.p d] H K:=
 .inl ⟨[a,b,c,d],v,rfl,h.cL (by simp only[bw];exact⟨e,g,i,j,trivial⟩) (Wk.refl _),hk⟩
theorem Xr(h:au P f [a',b',c',d',e'] v)(hk:K (.p v) H)(g:Wk a a':=by first|exact Wk.refl _|simp[Wk,bw])(i:Wk b b':=by first|exact Wk.refl _|simp[Wk,bw])(j:Wk c c':=by first|exact Wk.refl _|simp[Wk,bw])(k:Wk d d':=by first|exact Wk.refl _|simp[Wk,bw])(l:Wk e e':=by first|exact Wk.refl _|simp[Wk,bw]):gF P dr f [.p a,.p b,.p c,.p d,.p e] H K:=
 .inl ⟨[a,b,c,d,e],v,rfl,h.cL (by simp only[bw];exact⟨g,i,j,k,l,trivial⟩) (Wk.refl _),hk⟩
theorem W5(h:au P f [] v)(hk:L {v:=.p v}):gL P f [] H L:=.inl ⟨[],v,rfl,h,hk⟩
theorem W6(h:au P f [a'] v)(hk:L {v:=.p v})(b:Wk a a':=by first|exact Wk.refl _|simp[Wk,bw]):gL P f [.p a] H L:=.inl ⟨[a],v,rfl,h.cL (by simp only[bw];exact⟨b,trivial⟩) (Wk.refl _),hk⟩
theorem W7(h:au P f [a',b'] v)(hk:L {v:=.p v})(c:Wk a a':=by first|exact Wk.refl _|simp[Wk,bw])(d:Wk b b':=by first|exact Wk.refl _|simp[Wk,bw]):gL P f [.p a,.p b] H L:=
 .inl ⟨[a,b],v,rfl,h.cL (by simp only[bw];exact⟨c,d,trivial⟩) (Wk.refl _),hk⟩
theorem W8(h:au P f [a',b',c'] v)(hk:L {v:=.p v})(d:Wk a a':=by first|exact Wk.refl _|simp[Wk,bw])(e:Wk b b':=by first|exact Wk.refl _|simp[Wk,bw])(g:Wk c c':=by first|exact Wk.refl _|simp[Wk,bw]):gL P f [.p a,.p b,.p c] H L:=
 .inl ⟨[a,b,c],v,rfl,h.cL (by simp only[bw];exact⟨d,e,g,trivial⟩) (Wk.refl _),hk⟩
theorem W9(h:au P f [a',b',c',d'] v)(hk:L {v:=.p v})(e:Wk a a':=by first|exact Wk.refl _|simp[Wk,bw])(g:Wk b b':=by first|exact Wk.refl _|simp[Wk,bw])(i:Wk c c':=by first|exact Wk.refl _|simp[Wk,bw])(j:Wk d d':=by first|exact Wk.refl _|simp[Wk,bw]):gL P f [.p a,.p b,.p c,.p d] H L:=
 .inl ⟨[a,b,c,d],v,rfl,h.cL (by simp only[bw];exact⟨e,g,i,j,trivial⟩) (Wk.refl _),hk⟩
theorem Xa(h:au P f [a',b',c',d',e'] v)(hk:L {v:=.p v})(g:Wk a a':=by first|exact Wk.refl _|simp[Wk,bw])(i:Wk b b':=by first|exact Wk.refl _|simp[Wk,bw])(j:Wk c c':=by first|exact Wk.refl _|simp[Wk,bw])(k:Wk d d':=by first|exact Wk.refl _|simp[Wk,bw])(l:Wk e e':=by first|exact Wk.refl _|simp[Wk,bw]):gL P f [.p a,.p b,.p c,.p d,.p e] H L:=
 .inl ⟨[a,b,c,d,e],v,rfl,h.cL (by simp only[bw];exact⟨g,i,j,k,l,trivial⟩) (Wk.refl _),hk⟩
theorem Xs{args:List AV}{vs a:List PV}(h:au P f a v)(c:jH H args=some (vs,H1))(hk:K (.p v) H1)(b:bw vs a:=by first|exact bw.refl _|simp[Wk,bw]):gF P false f args H K:=
 .inr ⟨rfl,.inl ⟨vs,H1,v,c,h.cL b (Wk.refl _),hk⟩⟩
theorem Xc{args:List AV}{vs a:List PV}{bs:List Nat}{ak aI:List (Nat×Obj)}(h:au P f a v)(c:nv H args=some (vs,bs))(hf:kG H bs=some (ak,aI))(hk:L {v:=.p v,ak,aI})(b:bw vs a:=by first|exact bw.refl _|simp[Wk,bw]):gL P f args H L:=
 .inr (.inl ⟨vs,bs,ak,aI,v,c,hf,h.cL b (Wk.refl _),hk⟩)
end calls
def KV(T:aj)(a v:AV):Prop:=a=v\/Gh T a v
theorem Pz{T:aj}{v:AV}:KV T v v=True:=by simp[KV]
theorem Px{T:aj}{b ar ai off len:Nat}:KV T (.p .aL) (.sl b ar ai off len)=(ar=0/\off=0/\len=0/\∃k z,T[b]?=some (.arr k 0 z [])/\k.gr=true):=by simp[KV,Gh,fK]
theorem PA{T:aj}{u u':ay}{fs:List PV}{a:List AV}:KV T (.p (.st u fs)) (.st u' a)=(u=u'/\kr T fs a):=by simp[KV,Gh,fK]
def lC(T:aj)(e:Env):Env->Prop
 |[]=>True
 |(x,v)::r=>KV T (aN e x) v/\lC T e r
def KO(T:aj)(o:Obj):Obj->Prop
 | .hole=>True
 | .box false v'=>match o with
  | .box false v=>KV T v v'
  |_=>False
 | .arr k ar z es=>(o=.hole/\ar=0/\es=[]/\k.gr=true)\/o=.arr k ar z es
 |o'=>o=o'
def KN:Obj->Prop
 | .hole=>True
 | .arr k ar _ es=>ar=0/\es=[]/\k.gr=true
 |_=>False
def gH(T:aj):aj->aj->Prop
 |_,[]=>True
 |[],o'::t=>KN o'/\gH T [] t
 |o::h,o'::t=>KO T o o'/\gH T h t
theorem lC.get{T:aj}{e:Env}:∀{t:Env},lC T e t->∀x,aN t x=aN e x\/aN t x=.p .undef\/Gh T (aN e x) (aN t x)
 |[],_,x=>.inr (.inl rfl)
 |(y,v)::t,h,x=>by
  simp only[lC]at h;simp only[aN]
  split
  ·rename_i hx;subst hx;rcases h.1 with h|h
   ·exact .inl h.symm
   ·exact .inr (.inr h)
  ·exact lC.get h.2 x
theorem gH.get{T:aj}:∀{h t:aj},gH T h t->∀(b:Nat)(o:Obj),t[b]?=some o->
 o=.hole\/h[b]?=some o\/((h[b]?=none\/h[b]?=some .hole)/\∃k z,o=.arr k 0 z []/\k.gr=true)\/(∃v v',h[b]?=some (.box false v)/\o=.box false v'/\Gh T v v')
 |_,[],_,b,o,c=>by simp at c
 |[],o'::t,hk,b,o,c=>by
  simp only[gH]at hk;cases b with
  |zero=>
   simp at c;subst c;cases o'<;>have a:=hk.1<;>simp only[KN]at a
   ·exact .inl rfl
   ·obtain⟨rfl,rfl,d⟩:=a;exact .inr (.inr (.inl ⟨.inl rfl,_,_,rfl,d⟩))
  |succ b=>simpa using gH.get hk.2 b o (by simpa using c)
 |e::h,o'::t,hk,b,o,c=>by
  simp only[gH]at hk;cases b with
  |zero=>
   simp at c;subst c;have a:=hk.1;cases o' with
   |hole=>exact .inl rfl
   |dead=>simp only[KO]at a;subst a;exact .inr (.inl rfl)
   |map fz es=>simp only[KO]at a;subst a;exact .inr (.inl rfl)
   |dc s p=>simp only[KO]at a;subst a;exact .inr (.inl rfl)
   |loop L=>simp only[KO]at a;subst a;exact .inr (.inl rfl)
   |arr k ar z es=>
    simp only[KO]at a;rcases a with⟨rfl,rfl,rfl,d⟩|rfl
    ·exact .inr (.inr (.inl ⟨.inr rfl,_,_,rfl,d⟩))
    ·exact .inr (.inl rfl)
   |box fz v'=>
    cases fz with
    |true=>simp only[KO]at a;subst a;exact .inr (.inl rfl)
    |false=>
     simp only[KO]at a
     split at a
     ·rcases a with rfl|a
      ·exact .inr (.inl rfl)
      ·exact .inr (.inr (.inr ⟨_,_,rfl,rfl,a⟩))
     ·exact a.elim
  |succ b=>simpa using gH.get hk.2 b o (by simpa using c)
theorem dd.og{N:Nat}{s t:St}(d:t.heap.take N=s.heap.take N)(c:lC t.heap s.env t.env)(hh:gH t.heap s.heap t.heap)(e:gM t.heap t.env)(f:dv t.heap t.heap):dd N s t:=by
 refine .inr ⟨⟨c.get,hh.get,e.get,f.get⟩,fun b a=>?_⟩;have:=congrArg (fun l:aj=>l[b]?) d;simpa[List.getElem?_take,a]using this
theorem Kt{T:aj}{o:Obj}:KO T o o=True:=by
 cases o with
 |box fz v=>cases fz<;>simp[KO,KV]
 |_=>simp[KO]
theorem Pv{T:aj}{o:Obj}:KO T o .hole=True:=by simp[KO]
theorem Pu{T:aj}{v v':AV}:KO T (.box false v) (.box false v')=KV T v v':=(rfl)
theorem Pw{T:aj}{k:AK}{ar z:Nat}{a:List AV}:KO T .hole (.arr k ar z a)=(ar=0/\a=[]/\k.gr=true):=by simp[KO]
theorem Pt:KN .hole=True:=(rfl)
theorem Ps{k:AK}{ar z:Nat}{a:List AV}:KN (.arr k ar z a)=(ar=0/\a=[]/\k.gr=true):=(rfl)
theorem Py{T:aj}{x y:PV}:KV T (.p x) (.p y)=(x=y):=by
 have:Gh T (.p x) (.p y)↔x=y:=by cases x<;>simp[Gh,fK,eq_comm]
 simp[KV,this]
def tq{α:Type}(N:Nat)(mk:α->St)(ok:α->Prop)(m:α->Nat)(n:Nat)(s:St):Prop:=∃a',m a'<n/\ok a'/\dd N s (mk a')
def qq{α:Type}(N:Nat)(mk:α->St)(ok:α->Prop)(m:α->Nat)(n:Nat)(Q:bm->St->Prop)(e:bm)(s:St):Prop:=
 match e with
 | .normal=>tq N mk ok m n s
 |e=>Q e s
section
variable{α:Type}{N:Nat}{mk:α->St}{ok:α->Prop}{m:α->Nat}{n:Nat}{Q:bm->St->Prop}{s s':St}{q:Cx}
theorem Rc:qq N mk ok m n Q .normal s=tq N mk ok m n s:=(rfl)
theorem SD{id:Nat}:qq N mk ok m n Q (.exit id) s=Q (.exit id) s:=(rfl)
theorem TC:qq N mk ok m n Q .ret s=Q .ret s:=(rfl)
theorem wl{b:Code}(mk:α->St)(ok:α->Prop)(m:α->Nat)(c:α)(l:ok c)(gJ:∀a,ok a->cX P ag q b (qq q.2 mk ok m (m a) Q) (mk a))
 (k:(mk c).heap.take q.2=s.heap.take q.2:=by simp)(i:lC (mk c).heap s.env (mk c).env:=by simp)(j:gH (mk c).heap s.heap (mk c).heap:=by simp)(o:gM (mk c).heap (mk c).env:=by simp)(p:dv (mk c).heap (mk c).heap:=by simp):
 cX P ag q (.loop b) Q s:=by
 simp only[cX];refine⟨fun n t=>∃a,ok a/\t=mk a/\n=m a,⟨m c,mk c,dd.og k i j o p,c,l,rfl,rfl⟩,?_⟩;rintro n t ⟨a,h,rfl,rfl⟩;have:qq q.2 mk ok m (m a) Q=su q.2 (m a) (fun n t=>∃a,ok a/\t=mk a/\n=m a) Q:=by
  funext e s
  cases e with
  |normal=>
   simp only[qq,su,tq,eq_iff_iff];constructor
   ·rintro⟨a',d,f,g⟩;exact⟨m a',mk a',d,g,a',f,rfl,rfl⟩
   ·rintro⟨_,_,d,g,a',f,rfl,rfl⟩;exact⟨a',d,f,g⟩
  |exit id=>rfl
  |ret=>rfl
 rw[<-this];exact gJ a h
theorem rnd(a':α)(b:ok a')(a:m a'<n:=by omega)(e:(mk a').heap.take N=s.heap.take N:=by simp)(c:lC (mk a').heap s.env (mk a').env:=by simp)(d:gH (mk a').heap s.heap (mk a').heap:=by simp)(f:gM (mk a').heap (mk a').env:=by simp)(g:dv (mk a').heap (mk a').heap:=by simp):
 tq N mk ok m n s:=⟨a',a,b,dd.og e c d f g⟩
end
theorem aO(n:Int)(h:-9223372036854775808<=n)(a:n<=9223372036854775807):IntKind.i64.wrap n=n:=IntWalk.i64_in n ⟨h,a⟩
theorem zA(a b:Int):(a<b/\¬b<=a)\/(¬a<b/\b<=a):=by omega
theorem cQ{i:Nat}(h:i<4611686018427387904):IntKind.i64.wrap ((i:Int)+1)=(i:Int)+1:=aO _ (by omega) (by omega)
attribute [simp] Wk bw aF Obj.has F0 GG Fs FZ Ry GB Gb qp Rc SD TC lC gH Pz Py Px PA Kt Pv Pu Pw Pt Ps kr fK AK.gr gM dv aD Obj.refs
attribute [simp] TX RA Wk.refl bw.refl
end
end Go.az
namespace Go.az
variable[Gl]
mutual
def dT:PV->Prop
 | .str s=>∀c∈s,c<256
 | .bZ t=>dT t
 | .cE _ es| .seq es| .st _ es| .aA es=>lE es
 |_=>True
def lE:List PV->Prop
 |[]=>True
 |v::vs=>dT v/\lE vs
end
section
variable{P:a0}{w:a6}{aa:Nat->Prop}
theorem It(bs:ByteArray):∀c∈bs.data.toList.map (·.toNat),c<256:=by
 intro c hc;simp only[b0]at hc;obtain⟨b,_,rfl⟩:=hc;exact UInt8.toNat_lt b
mutual
theorem aV.dT:∀(v:PV)(cs:List a3),aV P w aa v cs->dT v
 | .str s,cs,h=>by simp only[aV]at h;obtain⟨bs,_,rfl⟩:=h;simp only[az.dT];exact It bs
 | .bZ t,cs,h=>by simp only[aV]at h;obtain⟨_,_,ts,a,_⟩:=h;simp only[az.dT];exact aV.dT t ts a
 | .cE f b,cs,h=>by simp only[aV]at h;obtain⟨_,_,_,_,d,a,_⟩:=h;simp only[az.dT];exact bg.dT _ b d a
 | .seq b,cs,h=>by
  simp only[aV]at h;simp only[az.dT];rcases h with⟨rfl,_⟩|⟨_,_,_,_,d,a,_⟩
  ·trivial
  ·exact bg.dT _ b d a
 | .st u b,cs,h=>by simp only[aV]at h;obtain⟨l,d,_,a,_⟩:=h;simp only[az.dT];exact bg.dT _ b d a
 | .aA b,cs,h=>by simp[aV]at h
 | .undef,_,_| .bool _,_,_| .int _ _,_,_| .dJ,_,_| .aL,_,_| .fq,_,_| .gW,_,_| .fZ,_,_| .eH _,_,_| .func _ _ _,_,_=>by simp[az.dT]
theorem bg.dT:∀(l:List Nat)(b:List PV)(d:List (List a3)),bg P w aa l b d->lE b
 |_,[],_,_=>by simp[az.lE]
 |[],_::_,_,h=>by simp[bg]at h
 |n::l,v::vs,d,h=>by
  simp only[bg]at h;obtain⟨c,cs,_,a,_,g⟩:=h;simp only[az.lE];exact⟨aV.dT v c a,bg.dT l vs cs g⟩
theorem aB.dT:∀(v:PV)(x:a3),aB P w aa v x->dT v
 | .str s,cs,h=>by simp only[aB]at h;obtain⟨bs,_,rfl⟩:=h;simp only[az.dT];exact It bs
 | .bZ t,cs,h=>by simp only[aB]at h;obtain⟨_,_,ts,a,_⟩:=h;simp only[az.dT];exact aV.dT t ts a
 | .cE f b,cs,h=>by simp only[aB]at h;obtain⟨_,_,_,_,d,a,_⟩:=h;simp only[az.dT];exact bg.dT _ b d a
 | .seq b,cs,h=>by
  simp only[aB]at h;simp only[az.dT];rcases h with⟨rfl,_⟩|⟨_,_,_,_,d,a,_⟩
  ·trivial
  ·exact bg.dT _ b d a
 | .st u b,cs,h=>by simp only[aB]at h;obtain⟨l,d,_,a,_⟩:=h;simp only[az.dT];exact bg.dT _ b d a
 | .aA b,cs,h=>by simp only[aB]at h;obtain⟨e,a,_⟩:=h;simp only[az.dT];exact bE.dT b e a
 | .undef,_,_| .bool _,_,_| .int _ _,_,_| .dJ,_,_| .aL,_,_| .fq,_,_| .gW,_,_| .fZ,_,_| .eH _,_,_| .func _ _ _,_,_=>by simp[az.dT]
theorem bE.dT:∀(b:List PV)(e:List a3),bE P w aa b e->lE b
 |[],_,_=>by simp[az.lE]
 |v::vs,e,h=>by
  simp only[bE]at h;obtain⟨y,i,_,a,g⟩:=h;simp only[az.lE];exact⟨aB.dT v y a,bE.dT vs i g⟩
end
theorem Qp{f:aT}{args:List PV}{v:PV}(h:lE args->au P f args v):au P f args v:=by
 by_cases hs:lE args
 ·exact h hs
 ·exact .inr fun w aa b a=>(hs (bE.dT _ _ a)).elim
end
end Go.az
