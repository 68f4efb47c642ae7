import Derived.Test.YtanjnahmbanmaaaGreatDoorThC
/- Parts of a proof. -/
set_option linter.unusedSimpArgs false
set_option linter.unusedVariables false
set_option linter.unusedSectionVars false
namespace Go.Abs
set_option linter.unusedSectionVars false
variable [Gl]
section
variable {P:Program} {frz:FuncId→Bool} {q:Cx}
theorem awW {Q:aan→St→Prop} {s:St}:aaV P frz q .skip Q s=Q .normal s:=(rfl)
theorem arv {l:Nat} {Q:aan→St→Prop} {s:St}:aaV P frz q (.label l) Q s=Q .normal s:=(rfl)
theorem awX {id:Nat} {Q:aan→St→Prop} {s:St}:aaV P frz q (.exit id) Q s=Q (.exit id) s:=(rfl)
theorem w_ret {Q:aan→St→Prop} {s:St}:aaV P frz q .ret Q s=Q .ret s:=(rfl)
theorem art {b:Code} {Q:aan→St→Prop} {s:St}:aaV P frz q (.scope b) Q s=aaV P frz q b Q s:=(rfl)
theorem awY {id:Nat} {l:List Oper} {Q:aan→St→Prop} {s:St}:aaV P frz q (.region id l.toArray true) Q s=acN P frz l.toArray l 0 [] (Q .normal) s:=by simp [aaV]
theorem aru {id:Nat} {l:List Oper} {Q:aan→St→Prop} {s:St}:aaV P frz q (.region id l.toArray false) Q s=opsW P frz l.toArray l (Q .normal) s:=by simp [aaV]
theorem w_seq {a b:Code} {Q:aan→St→Prop} {s:St}:aaV P frz q (.seq a b) Q s=aaV P frz q a (seqQ (aaV P frz q b Q) Q) s:=(rfl)
theorem arw {id:Nat} {b:Code} {Q:aan→St→Prop} {s:St}:aaV P frz q (.block id b) Q s=aaV P frz q b (afR id Q) s:=(rfl)
theorem awZ {c:Operand} {a b:Code} {Q:aan→St→Prop} {s:St}:aaV P frz q (.cond c a b) Q s=aq2 (ev s.env c) (aaV P frz q a Q) (aaV P frz q b Q) s:=(rfl)
theorem ahx {K:St→Prop} {Q:aan→St→Prop} {s:St}:seqQ K Q .normal s=K s:=(rfl)
theorem alh {id:Nat} {K:St→Prop} {Q:aan→St→Prop} {s:St}:seqQ K Q (.exit id) s=Q (.exit id) s:=(rfl)
theorem aoU {K:St→Prop} {Q:aan→St→Prop} {s:St}:seqQ K Q .ret s=Q .ret s:=(rfl)
theorem ajF {t:Bool} {a b:St→Prop} {s:St}:aq2 (.p (.bool t)) a b s=if t then a s else b s:=(rfl)
def at7 (P:Program) (frz:FuncId→Bool) (ops:Array Oper) (r:List Oper) (i:Nat) (acc:List Touch) (K:St→Prop) (dst:Option Tmp) (s:St) (e:Eff):Prop :=
 acN P frz ops r (i+1) (ac7 i s.heap.length e acc) K (e.app dst s)
theorem apT {ops : Array Oper} {r : List Oper} {i : Nat} {acc : List Touch} {K : St → Prop} {dst : Option Tmp} {env : Env} {heap : Heap} {v : AV} {hin hset : List (Nat × Obj)} {hnew : List Obj} :
    at7 P frz ops r i acc K dst ⟨env,heap⟩ ⟨v,hin,hset,hnew⟩=acN P frz ops r (i+1) (ac7 i heap.length ⟨v,hin,hset,hnew⟩ acc) K ⟨put dst v env,aaj heap hset ++ hnew⟩:=(rfl)
theorem auE {dst:Option Tmp} {env:Env} {heap:Heap} {K:St→Prop} {v:AV} {hin hset:List (Nat×Obj)} {hnew:List Obj}:appK dst ⟨env,heap⟩ K ⟨v,hin,hset,hnew⟩=K ⟨put dst v env,aaj heap hset ++ hnew⟩:=(rfl)
theorem asu {dst:Option Tmp} {env:Env} {heap H:Heap} {K:St→Prop} {v:AV}:putK dst ⟨env,heap⟩ K v H=K ⟨put dst v env,H⟩:=(rfl)
def aku (P:Program) (frz:FuncId→Bool) (ops:Array Oper) (o:Oper) (r:List Oper) (i:Nat) (acc:List Touch) (K:St→Prop) (want:Bool) (s:St) (g:AV):Prop :=
 match g with
 | .p (.bool t)=>if t=want then aaB P frz o s (at7 P frz ops r i acc K o.dst s) else acN P frz ops r (i+1) acc K ⟨put o.dst (.p (.tup [])) s.env,s.heap⟩
 | .p (.tup [])=>acN P frz ops r (i+1) acc K ⟨put o.dst (.p (.tup [])) s.env,s.heap⟩
 | _=>False
def apB (P:Program) (frz:FuncId→Bool) (ops:Array Oper) (o:Oper) (r:List Oper) (K:St→Prop) (want:Bool) (s:St) (g:AV):Prop :=
 match g with
 | .p (.bool t)=>if t=want then aaA P frz o (opsW P frz ops r K) s else opsW P frz ops r K ⟨put o.dst (.p (.tup [])) s.env,s.heap⟩
 | .p (.tup [])=>opsW P frz ops r K ⟨put o.dst (.p (.tup [])) s.env,s.heap⟩
 | _=>False
theorem awV {ops:Array Oper} {i:Nat} {acc:List Touch} {K:St→Prop} {s:St}:acN P frz ops [] i acc K s=(ab5 ops acc=true∧K s):=(rfl)
theorem ars {ops : Array Oper} {i ty : Nat} {pos : String} {acc : List Touch} {K : St → Prop} {s : St} {dst : Option Tmp} {op : Op} {af : Array Edge} {r : List Oper} :
    acN P frz ops ({ dst,op,type:=ty,pos,after:=af,guard:=none }::r) i acc K s=aaB P frz { dst,op,type:=ty,pos,after:=af,guard:=none } s (at7 P frz ops r i acc K dst s):=(rfl)
theorem aox {ops : Array Oper} {i ty j : Nat} {want : Bool} {pos : String} {acc : List Touch} {K : St → Prop} {s : St} {dst : Option Tmp} {op : Op} {af : Array Edge} {r : List Oper} :
    acN P frz ops ({ dst,op,type:=ty,pos,after:=af,guard:=some (j,want) }::r) i acc K s=aku P frz ops { dst,op,type:=ty,pos,after:=af,guard:=some (j,want) } r i acc K want s (guardOf ops j s.env):=(rfl)
theorem awT {ops:Array Oper} {K:St→Prop} {s:St}:opsW P frz ops [] K s=K s:=(rfl)
theorem arn {ops : Array Oper} {ty : Nat} {pos : String} {K : St → Prop} {s : St} {dst : Option Tmp} {op : Op} {af : Array Edge} {r : List Oper} :
    opsW P frz ops ({ dst,op,type:=ty,pos,after:=af,guard:=none }::r) K s=aaA P frz { dst,op,type:=ty,pos,after:=af,guard:=none } (opsW P frz ops r K) s:=(rfl)
theorem aow {ops : Array Oper} {ty j : Nat} {want : Bool} {pos : String} {K : St → Prop} {s : St} {dst : Option Tmp} {op : Op} {af : Array Edge} {r : List Oper} :
    opsW P frz ops ({ dst,op,type:=ty,pos,after:=af,guard:=some (j,want) }::r) K s=apB P frz ops { dst,op,type:=ty,pos,after:=af,guard:=some (j,want) } r K want s (guardOf ops j s.env):=(rfl)
end
section congrs
variable {P:Program} {frz:FuncId→Bool} {q:Cx}
end congrs
section ops
variable {P:Program} {frz:FuncId→Bool} {dst:Option Tmp} {ty:Nat} {pos:String} {af:Array Edge} {g:Option (Nat×Bool)} {env:Env} {heap:Heap} {K:Eff→Prop} {L:St→Prop}
theorem ayZ {x:Operand}:aaB P frz ⟨dst,.move x,ty,pos,af,g⟩ ⟨env,heap⟩ K=K { v:=ev env x }:=(rfl)
theorem apR {x:Operand}:aaB P frz ⟨dst,.assign x,ty,pos,af,g⟩ ⟨env,heap⟩ K=K { v:=ev env x }:=(rfl)
theorem ayX {c a b:Operand}:aaB P frz ⟨dst,.pick c a b,ty,pos,af,g⟩ ⟨env,heap⟩ K=runR (anf (ev env c) (ev env a) (ev env b)) K:=(rfl)
theorem atZ {T:TypeId}:aaB P frz ⟨dst,.alloc T,ty,pos,af,g⟩ ⟨env,heap⟩ K=runR (aiT P T heap.length) K:=(rfl)
theorem d_box {T:TypeId} {x:Operand}:aaB P frz ⟨dst,.box T x,ty,pos,af,g⟩ ⟨env,heap⟩ K=runR (boxV P T heap.length (ev env x)) K:=(rfl)
theorem atW {T:TypeId} {parts:Array (Nat×Operand)}:aaB P frz ⟨dst,.build T parts,ty,pos,af,g⟩ ⟨env,heap⟩ K=runR (aiP P T (parts.toList.map fun (i,x)=>(i,ev env x))) K:=(rfl)
theorem agN {T:TypeId} {n:Nat} {parts:Array (Nat×Operand)}:aaB P frz ⟨dst,.buildSlice T n parts,ty,pos,af,g⟩ ⟨env,heap⟩ K=runR (abR P T n (parts.toList.map fun (i,x)=>(i,ev env x)) heap.length) K:=(rfl)
theorem ay0 {T:TypeId} {a:Operand}:aaB P frz ⟨dst,.load T a,ty,pos,af,g⟩ ⟨env,heap⟩ K=runR (alY P T heap (ev env a)) K:=(rfl)
theorem atP {T:TypeId} {a x:Operand}:aaB P frz ⟨dst,.store T a x,ty,pos,af,g⟩ ⟨env,heap⟩ K=runR (agC P T heap (ev env a) (ev env x)) K:=(rfl)
theorem d_bin {op:BinOp} {T T':TypeId} {x y:Operand}:aaB P frz ⟨dst,.binOp op T x y T',ty,pos,af,g⟩ ⟨env,heap⟩ K=runR (binV P op T (isC y) heap (ev env x) (ev env y)) K:=(rfl)
theorem d_un {op:UnOp} {T:TypeId} {x:Operand}:aaB P frz ⟨dst,.unOp op T x,ty,pos,af,g⟩ ⟨env,heap⟩ K=runR (unV op (ev env x)) K:=(rfl)
theorem ay2 {S D:TypeId} {x:Operand}:aaB P frz ⟨dst,.convert S D x,ty,pos,af,g⟩ ⟨env,heap⟩ K=runR (an5 P S D heap (ev env x)) K:=(rfl)
theorem amx {t:Operand} {i:Nat}:aaB P frz ⟨dst,.extract t i,ty,pos,af,g⟩ ⟨env,heap⟩ K=runR (adV (ev env t) i) K:=(rfl)
theorem aiB {T:TypeId} {a:Operand} {f:Nat}:aaB P frz ⟨dst,.fieldAddr T a f,ty,pos,af,g⟩ ⟨env,heap⟩ K=runR (abU P T (ev env a) f) K:=(rfl)
theorem aiA {T:TypeId} {x i:Operand}:aaB P frz ⟨dst,.indexAddr T x i,ty,pos,af,g⟩ ⟨env,heap⟩ K=runR (abT P T heap (ev env x) (ev env i)) K:=(rfl)
theorem atV {T:TypeId} {x i:Operand}:aaB P frz ⟨dst,.index T x i,ty,pos,af,g⟩ ⟨env,heap⟩ K=runR (aid P T (ev env x) (ev env i)) K:=(rfl)
theorem d_len {x:Operand} {aT:Array TypeId}:aaB P frz ⟨dst,.call { callee:=.builtin .len,args:=#[x],argTypes:=aT },ty,pos,af,g⟩ ⟨env,heap⟩ K=runR (lenV P (aT.getD 0 0) aT.size heap (ev env x)) K:=(rfl)
theorem ay3 {f:Operand} {args:List Operand} {aT:Array TypeId}:aaB P frz ⟨dst,.call { callee:=.value f,args:=args.toArray,argTypes:=aT },ty,pos,af,g⟩ ⟨env,heap⟩ K=aiI P (ev env f) (args.map (ev env)) heap K:=(rfl)
theorem axc {x:Operand}:aaA P frz ⟨dst,.move x,ty,pos,af,g⟩ L ⟨env,heap⟩=appK dst ⟨env,heap⟩ L { v:=ev env x }:=(rfl)
theorem ao6 {x:Operand}:aaA P frz ⟨dst,.assign x,ty,pos,af,g⟩ L ⟨env,heap⟩=appK dst ⟨env,heap⟩ L { v:=ev env x }:=(rfl)
theorem axa {c a b:Operand}:aaA P frz ⟨dst,.pick c a b,ty,pos,af,g⟩ L ⟨env,heap⟩=runR (anf (ev env c) (ev env a) (ev env b)) (appK dst ⟨env,heap⟩ L):=(rfl)
theorem asI {T:TypeId}:aaA P frz ⟨dst,.alloc T,ty,pos,af,g⟩ L ⟨env,heap⟩=runR (aiT P T heap.length) (appK dst ⟨env,heap⟩ L):=(rfl)
theorem p_box {T:TypeId} {x:Operand}:aaA P frz ⟨dst,.box T x,ty,pos,af,g⟩ L ⟨env,heap⟩=runR (boxV P T heap.length (ev env x)) (appK dst ⟨env,heap⟩ L):=(rfl)
theorem asF {T:TypeId} {parts:Array (Nat×Operand)}:aaA P frz ⟨dst,.build T parts,ty,pos,af,g⟩ L ⟨env,heap⟩=runR (aiP P T (parts.toList.map fun (i,x)=>(i,ev env x))) (appK dst ⟨env,heap⟩ L):=(rfl)
theorem agH {T:TypeId} {n:Nat} {parts:Array (Nat×Operand)}:aaA P frz ⟨dst,.buildSlice T n parts,ty,pos,af,g⟩ L ⟨env,heap⟩=runR (abR P T n (parts.toList.map fun (i,x)=>(i,ev env x)) heap.length) (appK dst ⟨env,heap⟩ L):=(rfl)
theorem axd {T:TypeId} {a:Operand}:aaA P frz ⟨dst,.load T a,ty,pos,af,g⟩ L ⟨env,heap⟩=runR (alY P T heap (ev env a)) (appK dst ⟨env,heap⟩ L):=(rfl)
theorem asz {T:TypeId} {a x:Operand}:aaA P frz ⟨dst,.store T a x,ty,pos,af,g⟩ L ⟨env,heap⟩=runR (agC P T heap (ev env a) (ev env x)) (appK dst ⟨env,heap⟩ L):=(rfl)
theorem p_bin {op:BinOp} {T T':TypeId} {x y:Operand}:aaA P frz ⟨dst,.binOp op T x y T',ty,pos,af,g⟩ L ⟨env,heap⟩=runR (binV P op T (isC y) heap (ev env x) (ev env y)) (appK dst ⟨env,heap⟩ L):=(rfl)
theorem p_un {op:UnOp} {T:TypeId} {x:Operand}:aaA P frz ⟨dst,.unOp op T x,ty,pos,af,g⟩ L ⟨env,heap⟩=runR (unV op (ev env x)) (appK dst ⟨env,heap⟩ L):=(rfl)
theorem axf {S D:TypeId} {x:Operand}:aaA P frz ⟨dst,.convert S D x,ty,pos,af,g⟩ L ⟨env,heap⟩=runR (an5 P S D heap (ev env x)) (appK dst ⟨env,heap⟩ L):=(rfl)
theorem alB {t:Operand} {i:Nat}:aaA P frz ⟨dst,.extract t i,ty,pos,af,g⟩ L ⟨env,heap⟩=runR (adV (ev env t) i) (appK dst ⟨env,heap⟩ L):=(rfl)
theorem ahS {T:TypeId} {a:Operand} {f:Nat}:aaA P frz ⟨dst,.fieldAddr T a f,ty,pos,af,g⟩ L ⟨env,heap⟩=runR (abU P T (ev env a) f) (appK dst ⟨env,heap⟩ L):=(rfl)
theorem ahR {T:TypeId} {x i:Operand}:aaA P frz ⟨dst,.indexAddr T x i,ty,pos,af,g⟩ L ⟨env,heap⟩=runR (abT P T heap (ev env x) (ev env i)) (appK dst ⟨env,heap⟩ L):=(rfl)
theorem asE {T:TypeId} {x i:Operand}:aaA P frz ⟨dst,.index T x i,ty,pos,af,g⟩ L ⟨env,heap⟩=runR (aid P T (ev env x) (ev env i)) (appK dst ⟨env,heap⟩ L):=(rfl)
theorem p_len {x:Operand} {aT:Array TypeId}:aaA P frz ⟨dst,.call { callee:=.builtin .len,args:=#[x],argTypes:=aT },ty,pos,af,g⟩ L ⟨env,heap⟩=runR (lenV P (aT.getD 0 0) aT.size heap (ev env x)) (appK dst ⟨env,heap⟩ L):=(rfl)
theorem axg {f:Operand} {args:List Operand} {aT:Array TypeId}:aaA P frz ⟨dst,.call { callee:=.value f,args:=args.toArray,argTypes:=aT },ty,pos,af,g⟩ L ⟨env,heap⟩=an8 P (ev env f) (args.map (ev env)) heap (putK dst ⟨env,heap⟩ L):=(rfl)
theorem atQ {T:TypeId} {x:Operand} {lo hi:Option Operand}:aaB P frz ⟨dst,.slice T x lo hi none,ty,pos,af,g⟩ ⟨env,heap⟩ K=runR (agF P T heap (ev env x) (lo.map (ev env)) (hi.map (ev env))) K:=(rfl)
theorem asA {T:TypeId} {x:Operand} {lo hi:Option Operand}:aaA P frz ⟨dst,.slice T x lo hi none,ty,pos,af,g⟩ L ⟨env,heap⟩=runR (agF P T heap (ev env x) (lo.map (ev env)) (hi.map (ev env))) (appK dst ⟨env,heap⟩ L):=(rfl)
theorem apP {T:TypeId} {x i:Operand} {ok:Bool}:aaB P frz ⟨dst,.lookup T x i ok,ty,pos,af,g⟩ ⟨env,heap⟩ K=runR (anF P T heap (ev env x) (ev env i) ok) K:=(rfl)
theorem ao4 {T:TypeId} {x i:Operand} {ok:Bool}:aaA P frz ⟨dst,.lookup T x i ok,ty,pos,af,g⟩ L ⟨env,heap⟩=runR (anF P T heap (ev env x) (ev env i) ok) (appK dst ⟨env,heap⟩ L):=(rfl)
theorem aiy {T:TypeId} {m k x:Operand}:aaB P frz ⟨dst,.mapUpdate T m k x,ty,pos,af,g⟩ ⟨env,heap⟩ K=runR (insV P T heap (ev env m) (ev env k) (ev env x)) K:=(rfl)
theorem ahP {T:TypeId} {m k x:Operand}:aaA P frz ⟨dst,.mapUpdate T m k x,ty,pos,af,g⟩ L ⟨env,heap⟩=runR (insV P T heap (ev env m) (ev env k) (ev env x)) (appK dst ⟨env,heap⟩ L):=(rfl)
theorem apQ {T:TypeId} {m k x:Operand}:aaB P frz ⟨dst,.insert T m k x,ty,pos,af,g⟩ ⟨env,heap⟩ K=runR (insV P T heap (ev env m) (ev env k) (ev env x)) K:=(rfl)
theorem ao5 {T:TypeId} {m k x:Operand}:aaA P frz ⟨dst,.insert T m k x,ty,pos,af,g⟩ L ⟨env,heap⟩=runR (insV P T heap (ev env m) (ev env k) (ev env x)) (appK dst ⟨env,heap⟩ L):=(rfl)
theorem atS {T:TypeId} {x:Operand}:aaB P frz ⟨dst,.range T x,ty,pos,af,g⟩ ⟨env,heap⟩ K=runR (ahF P T heap.length (ev env x)) K:=(rfl)
theorem asB {T:TypeId} {x:Operand}:aaA P frz ⟨dst,.range T x,ty,pos,af,g⟩ L ⟨env,heap⟩=runR (ahF P T heap.length (ev env x)) (appK dst ⟨env,heap⟩ L):=(rfl)
theorem ayY {it:Operand}:aaB P frz ⟨dst,.next it true,ty,pos,af,g⟩ ⟨env,heap⟩ K=runR (anu heap (ev env it)) K:=(rfl)
theorem axb {it:Operand}:aaA P frz ⟨dst,.next it true,ty,pos,af,g⟩ L ⟨env,heap⟩=runR (anu heap (ev env it)) (appK dst ⟨env,heap⟩ L):=(rfl)
theorem aiz {T:TypeId} {l c:Operand}:aaB P frz ⟨dst,.makeSlice T l c,ty,pos,af,g⟩ ⟨env,heap⟩ K=runR (anw P T heap.length (ev env l) (ev env c)) K:=(rfl)
theorem ahQ {T:TypeId} {l c:Operand}:aaA P frz ⟨dst,.makeSlice T l c,ty,pos,af,g⟩ L ⟨env,heap⟩=runR (anw P T heap.length (ev env l) (ev env c)) (appK dst ⟨env,heap⟩ L):=(rfl)
theorem ajC {x:Operand}:aaB P frz ⟨dst,.nilCheck x,ty,pos,af,g⟩ ⟨env,heap⟩ K=runR (afa (ev env x)) K:=(rfl)
theorem ajq {x:Operand}:aaA P frz ⟨dst,.nilCheck x,ty,pos,af,g⟩ L ⟨env,heap⟩=runR (afa (ev env x)) (appK dst ⟨env,heap⟩ L):=(rfl)
theorem d_min {args:Array Operand} {aT:Array TypeId}:aaB P frz ⟨dst,.call { callee:=.builtin .min,args,argTypes:=aT },ty,pos,af,g⟩ ⟨env,heap⟩ K=runR (minV false (args.toList.map (ev env))) K:=(rfl)
theorem p_min {args:Array Operand} {aT:Array TypeId}:aaA P frz ⟨dst,.call { callee:=.builtin .min,args,argTypes:=aT },ty,pos,af,g⟩ L ⟨env,heap⟩=runR (minV false (args.toList.map (ev env))) (appK dst ⟨env,heap⟩ L):=(rfl)
theorem d_max {args:Array Operand} {aT:Array TypeId}:aaB P frz ⟨dst,.call { callee:=.builtin .max,args,argTypes:=aT },ty,pos,af,g⟩ ⟨env,heap⟩ K=runR (minV true (args.toList.map (ev env))) K:=(rfl)
theorem p_max {args:Array Operand} {aT:Array TypeId}:aaA P frz ⟨dst,.call { callee:=.builtin .max,args,argTypes:=aT },ty,pos,af,g⟩ L ⟨env,heap⟩=runR (minV true (args.toList.map (ev env))) (appK dst ⟨env,heap⟩ L):=(rfl)
theorem amu {T:TypeId}:aaB P frz ⟨dst,.makeMap T none,ty,pos,af,g⟩ ⟨env,heap⟩ K=K { v:=.map heap.length,hnew:=[.map false []] }:=(rfl)
theorem aly {T:TypeId}:aaA P frz ⟨dst,.makeMap T none,ty,pos,af,g⟩ L ⟨env,heap⟩=appK dst ⟨env,heap⟩ L { v:=.map heap.length,hnew:=[.map false []] }:=(rfl)
theorem apS {s x:Operand} {T X:TypeId}:aaB P frz ⟨dst,.call { callee:=.builtin .append,args:=#[s,x],argTypes:=#[T,X] },ty,pos,af,g⟩ ⟨env,heap⟩ K=runR (aex P T X heap (ev env s) (ev env x)) K:=by simp [aaB,opW]
theorem ao7 {s x:Operand} {T X:TypeId}:aaA P frz ⟨dst,.call { callee:=.builtin .append,args:=#[s,x],argTypes:=#[T,X] },ty,pos,af,g⟩ L ⟨env,heap⟩=runR (aex P T X heap (ev env s) (ev env x)) (appK dst ⟨env,heap⟩ L):=by simp [aaA,opW]
theorem ay1 {s x:Operand} {T X:TypeId}:aaB P frz ⟨dst,.call { callee:=.builtin .copy,args:=#[s,x],argTypes:=#[T,X] },ty,pos,af,g⟩ ⟨env,heap⟩ K=runR (copyV P T heap (ev env s) (ev env x)) K:=by simp [aaB,opW]
theorem axe {s x:Operand} {T X:TypeId}:aaA P frz ⟨dst,.call { callee:=.builtin .copy,args:=#[s,x],argTypes:=#[T,X] },ty,pos,af,g⟩ L ⟨env,heap⟩=runR (copyV P T heap (ev env s) (ev env x)) (appK dst ⟨env,heap⟩ L):=by simp [aaA,opW]
theorem cv_fn {f:FuncId} {fi ca:List AV} {args:List AV} {M:AV→Heap→Prop}:an8 P (.func f fi ca) args heap M=abM P false f (fi ++ args ++ ca) heap M:=(rfl)
theorem ay4 {f:FuncId} {fi ca:List AV} {args:List AV}:aiI P (.func f fi ca) args heap K=adj P f (fi ++ args ++ ca) heap K:=(rfl)
theorem cv_p {f:FuncId} {fi ca:List PV} {args:List AV} {M:AV→Heap→Prop}:an8 P (.p (.func f fi ca)) args heap M=abM P false f (fi.map .p ++ args ++ ca.map .p) heap M:=(rfl)
theorem cvd_p {f:FuncId} {fi ca:List PV} {args:List AV}:aiI P (.p (.func f fi ca)) args heap K=adj P f (fi.map .p ++ args ++ ca.map .p) heap K:=(rfl)
end ops
section
variable {P:Program}
@[simp] theorem shp_bool {b:Bool}:shp (.bool b)=.leaf:=(rfl)
@[simp] theorem shp_int {k:IntKind} {n:Int}:shp (.int k n)=.leaf:=(rfl)
@[simp] theorem shp_str {l:List Nat}:shp (.str l)=.leaf:=(rfl)
@[simp] theorem shp_nsl:shp .nsl=.leaf:=(rfl)
@[simp] theorem shp_seq {l:List PV}:shp (.seq l)=.leaf:=(rfl)
@[simp] theorem shp_st {u:TypeId} {fs:List PV}:shp (.st u fs)=.agg u:=(rfl)
@[simp] theorem shpA_p {v:PV}:shpA (.p v)=shp v:=(rfl)
@[simp] theorem shpA_sl {b v e o l:Nat}:shpA (.sl b v e o l)=.leaf:=(rfl)
@[simp] theorem flds_st {u:TypeId} {fs:List PV}:flds (.st u fs)=fs:=(rfl)
theorem atH {rs:List ResultVar} {Q:PV→Prop} {s:St}:awR P rs Q .ret s = ∃ vs,aaO P s rs=some vs∧∃ v,purR s.heap 9 (oneOf vs)=some v∧Q v:=by simp [awR]
theorem amq {rs:List ResultVar} {Q:PV→Prop} {s:St}:awR P rs Q .normal s = ∃ vs,aaO P s rs=some vs∧∃ v,purR s.heap 9 (oneOf vs)=some v∧Q v:=by simp [awR]
attribute [simp] atH amq aeR awW arv awX w_ret art awY aru w_seq arw awZ ahx alh aoU ajF apT auE asu awV ars awT arn aox aow
 ayZ apR ayX atZ d_box atW agN ay0 atP d_bin d_un ay2 amx aiB aiA atV d_len ay3
 axc ao6 axa asI p_box asF agH axd asz p_bin p_un axf alB ahS ahR asE p_len axg cv_p cvd_p atQ asA apP ao4 aiy ahP apQ ao5 atS asB ayY axb aiz ahQ ajC ajq d_min p_min d_max p_max amu aly apS ao7 ay1 axe cv_fn ay4 aex bndV agF anF insV ahF anu anw copyV afa minV aa4 aas abj abb agU eqK aeq age gk abY acO ar9 asa
 akU aol arc aj4 am9 aqw
 getE put ab3 ev ofConst aaj ac7 aa7 adR subA subP setA mkSt allP anf aiT boxV bxB aiP abR binV intV strV unV an5 adV aid lenV alY agC abU abT lenOf adb aaH acM aah
 isC aaO agG oneOf purR
end
section
variable {P:Program} {frz:FuncId→Bool}
def sE:Shp→Shp→Bool
 | .leaf,.leaf=>true
 | .agg u,.agg v=>Nat.beq u v
 | _,_=>false
theorem aeb {a b:Shp} (h:sE a b=true):a=b∧b≠.bad:=by
 cases a <;> cases b <;> simp_all [sE]
def kE:AK→AK→Bool
 | .exact,.exact | .grow,.grow | .frozen,.frozen | .bytes,.bytes=>true
 | _,_=>false
def nfz:AK→Bool
 | .frozen=>false
 | _=>true
theorem asY {k:AK} (h:nfz k=true):k≠.frozen:=by cases k <;> simp_all [nfz]
def nnl (k:AK) (es:List AV):Bool:=match k.gr,es with
 | true,[]=>false
 | _,_=>true
theorem alN {k:AK} {es:List AV} (h:nnl k es=true):¬ (k.gr=true∧es=[]):=by
 rintro ⟨h1,rfl⟩; simp [nnl,h1] at h
theorem beq2 {a b:Nat} (h:Nat.beq a b=true):a=b:=Nat.eq_of_beq_eq_true h
theorem ble2 {a b:Nat} (h:Nat.ble a b=true):a≤b:=Nat.le_of_ble_eq_true h
def ikE:IntKind→IntKind→Bool:=fun a b=>decide (a=b)
def als (P:Program) (l:List Nat):List (Nat×AV)→Bool
 | []=>true
 | (i,v)::r=>(match l[i]? with
  | some n=>Nat.beq (aah P (shpA v)) n && (match shpA v with
   | .bad=>false
   | _=>true)
  | none=>false) && als P l r
theorem ahO {l:List Nat}:∀ {r:List (Nat×AV)},als P l r=true→acM P l r
 | [],_=>trivial
 | (i,v)::r,h=>by
  simp only [als,Bool.and_eq_true] at h;refine ⟨?_,ahO h.2⟩;have h1:=h.1
  split at h1
  · rename_i n hn;simp only [Bool.and_eq_true] at h1;refine ⟨n,hn,beq2 h1.1,fun hb=>?_⟩;rw [hb] at h1; simp at h1
  · simp at h1
def allB (P:Program) (sz:Nat):List AV→Bool
 | []=>true
 | v::r=>(match shpA v with
  | .bad=>false
  | s=>Nat.beq (aah P s) sz) && allB P sz r
theorem agv {sz:Nat}:∀ {r:List AV},allB P sz r=true→abj P sz r
 | [],_=>trivial
 | v::r,h=>by
  simp only [allB,Bool.and_eq_true] at h;refine ⟨?_,agv h.2⟩;have h1:=h.1
  split at h1
  · simp at h1
  · rename_i hne;exact ⟨hne,beq2 h1⟩
def loadX (P:Program) (T:TypeId) (H:Heap) (a:AV):Option Eff :=
 match a with
 | .ptr b path=>match H[b]? with
  | some (.box fz t)=>match subA t path with
   | some s=>bif sE (kindOf P T) (shpA s) then some { v:=s,hin:=[(b,.box fz t)] } else none
   | none=>none
  | _=>none
 | .eptr b ver esz i path=>match H[b]? with
  | some (.arr k ver' esz' es)=>bif Nat.beq ver ver' && Nat.beq esz esz' then match es[i]? with
   | some x=>match subA x path with
    | some s=>bif sE (kindOf P T) (shpA s) then some { v:=s,hin:=[(b,.arr k ver' esz' es)] } else none
    | none=>none
   | none=>none
   else none
  | _=>none
 | .p (.fptr t)=>bif sE (kindOf P T) (shp t) then some { v:=.p t } else none
 | _=>none
theorem avQ {T:TypeId} {H:Heap} {a:AV} {e:Eff} {K:Eff→Prop} (h:loadX P T H a=some e) (hk:K e):afz P T H a K:=by
 unfold loadX at h;unfold afz
 split at h
 · split at h
   · split at h
     · rename_i hs;simp only [Bool.cond_eq_ite,Option.ite_none_right_eq_some,Option.some.injEq] at h;rename_i hH _ _;obtain ⟨h1,rfl⟩:=h;simp only [hH,hs]; exact ⟨(aeb h1).1,hk⟩
     · simp at h
   · simp at h
 · split at h
   · rename_i hH;simp only [Bool.cond_eq_ite,Option.ite_none_right_eq_some,Bool.and_eq_true] at h;obtain ⟨⟨h1,h2⟩,h⟩:=h
     split at h
     · rename_i hx
       split at h
       · rename_i hs;simp only [Option.ite_none_right_eq_some,Option.some.injEq] at h;obtain ⟨h3,rfl⟩:=h;obtain ⟨hi,rfl⟩:=List.getElem?_eq_some_iff.1 hx;simp only [hH];refine ⟨beq2 h1,beq2 h2,hi,?_⟩;simp only [hs]; exact ⟨(aeb h3).1,hk⟩
       · simp at h
     · simp at h
   · simp at h
 · simp only [Bool.cond_eq_ite,Option.ite_none_right_eq_some,Option.some.injEq] at h;obtain ⟨h1,rfl⟩:=h;exact ⟨(aeb h1).1,hk⟩
 · simp at h
def arP (P:Program) (T:TypeId) (H:Heap) (a x:AV):Option Eff :=
 bif sE (kindOf P T) (shpA x) then match a with
 | .ptr b path=>match H[b]? with
  | some (.box false t)=>match subA t path,setA t path x with
   | some s,some t'=>bif sE (shpA s) (shpA x) then some { v:=.p (.tup []),hin:=[(b,.box false t)],hset:=[(b,.box false t')] } else none
   | _,_=>none
  | _=>none
 | .eptr b ver esz i path=>match H[b]? with
  | some (.arr k ver' esz' es)=>bif Nat.beq ver ver' && (Nat.beq esz esz' && nfz k) then match es[i]? with
   | some y=>match subA y path,setA y path x with
    | some s,some t'=>bif sE (shpA s) (shpA x) then some { v:=.p (.tup []),hin:=[(b,.arr k ver' esz' es)],hset:=[(b,.arr k ver' esz' (es.set i t'))] } else none
    | _,_=>none
   | none=>none
   else none
  | _=>none
 | _=>none
 else none
theorem arO {T:TypeId} {H:Heap} {a x:AV} {e:Eff} {K:Eff→Prop} (h:arP P T H a x=some e) (hk:K e):adC P T H a x K:=by
 unfold arP at h;unfold adC;simp only [Bool.cond_eq_ite,Option.ite_none_right_eq_some] at h;obtain ⟨h0,h⟩:=h;refine ⟨(aeb h0).1,(aeb h0).2,?_⟩
 split at h
 · split at h
   · rename_i hH
     split at h
     · rename_i hs ht;simp only [Option.ite_none_right_eq_some,Option.some.injEq] at h;obtain ⟨h1,rfl⟩:=h;simp only [hH,hs,ht]; exact ⟨(aeb h1).1,hk⟩
     · simp at h
   · simp at h
 · split at h
   · rename_i hH;simp only [Option.ite_none_right_eq_some,Bool.and_eq_true] at h;obtain ⟨⟨h1,h2,h3⟩,h⟩:=h
     split at h
     · rename_i hy
       split at h
       · rename_i hs ht;simp only [Option.ite_none_right_eq_some,Option.some.injEq] at h;obtain ⟨h4,rfl⟩:=h;obtain ⟨hi,rfl⟩:=List.getElem?_eq_some_iff.1 hy;simp only [hH];refine ⟨beq2 h1,beq2 h2,asY h3,hi,?_⟩;simp only [hs,ht]; exact ⟨(aeb h4).1,hk⟩
       · simp at h
     · simp at h
   · simp at h
 · simp at h
def intX (op:BinOp) (k:IntKind) (a b:Int):Option PV :=
 match op with
 | .add=>some (.int k (k.wrap (a+b)))
 | .sub=>some (.int k (k.wrap (a - b)))
 | .mul=>some (.int k (k.wrap (a*b)))
 | .quo=>match b with
  | .ofNat 0=>none
  | b=>some (.int k (k.wrap (a.tdiv b)))
 | .rem=>match b with
  | .ofNat 0=>none
  | b=>some (.int k (a.tmod b))
 | .and=>some (.int k (k.wrap (BitVec.ofInt k.bits a &&& BitVec.ofInt k.bits b).toNat))
 | .or=>some (.int k (k.wrap (BitVec.ofInt k.bits a ||| BitVec.ofInt k.bits b).toNat))
 | .xor=>some (.int k (k.wrap (BitVec.ofInt k.bits a ^^^ BitVec.ofInt k.bits b).toNat))
 | .andNot=>some (.int k (k.wrap (BitVec.ofInt k.bits a &&& ~~~ BitVec.ofInt k.bits b).toNat))
 | .eql=>some (.bool (a == b))
 | .neq=>some (.bool (a != b))
 | .lss=>some (.bool (decide (a<b)))
 | .leq=>some (.bool (decide (a≤b)))
 | .gtr=>some (.bool (decide (a > b)))
 | .geq=>some (.bool (decide (a ≥ b)))
 | .shl=>match b with
  | .ofNat _=>some (.int k (k.wrap (a*2 ^ (min b.toNat k.bits))))
  | _=>none
 | .shr=>match b with
  | .ofNat _=>some (.int k (a.fdiv (2 ^ (min b.toNat k.bits))))
  | _=>none
theorem intX_ok {op:BinOp} {k:IntKind} {a b:Int} {v:PV} {K:PV→Prop} (h:intX op k a b=some v) (hk:K v):al8 op k a b K:=by
 cases op <;> simp only [intX] at h <;> simp only [al8]
 case quo | rem =>
  split at h
  · simp at h
  · rename_i hb;simp only [Option.some.injEq] at h; subst h;exact ⟨fun h0=>hb (by rw [h0]; rfl),hk⟩
 case shl | shr =>
  split at h
  · simp only [Option.some.injEq] at h; subst h;exact ⟨Int.natCast_nonneg _,hk⟩
  · simp at h
 all_goals (simp only [Option.some.injEq] at h; subst h; exact hk)
def binX (P:Program) (op:BinOp) (T:TypeId) (c:Bool) (H:Heap) (x y:AV):Option PV :=
 match x,y with
 | .p (.int k a),.p (.int k' b)=>bif ikE k k' || (match op with
  | .shl | .shr=>true
  | _=>false) then intX op k a b else none
 | .p (.str a),.p (.str b)=>match op with
  | .add=>bif Nat.ble (a.length+b.length) 9223372036854775807 then some (.str (a ++ b)) else none
  | .eql=>some (.bool (a == b))
  | .neq=>some (.bool (!(a == b)))
  | .lss=>some (.bool (abJ a b))
  | .leq=>some (.bool (abJ a b || a == b))
  | .gtr=>some (.bool (!(abJ a b || a == b)))
  | .geq=>some (.bool (!(abJ a b)))
  | _=>none
 | .p (.bool a),.p (.bool b)=>bif afe P T then match op with
  | .eql=>some (.bool (a == b))
  | .neq=>some (.bool (!(a == b)))
  | _=>none
  else none
 | .p (.st u fs),.p (.st u' gs)=>bif eqOk P T then match eqT P 9 T (.st u fs) (.st u' gs),op with
  | some r,.eql=>some (.bool r)
  | some r,.neq=>some (.bool !r)
  | _,_=>none
  else none
 | x,y=>match aa3 P T c y with
  | some k=>match aaQ H k x,op with
   | some r,.eql=>some (.bool r)
   | some r,.neq=>some (.bool !r)
   | _,_=>none
  | none=>none
theorem binX_ok {op:BinOp} {T:TypeId} {c:Bool} {H:Heap} {x y:AV} {v:PV} {K:PV→Prop} (h:binX P op T c H x y=some v) (hk:K v):agu P op T c H x y K:=by
 unfold binX at h;unfold agu
 split at h
 · simp only [Bool.cond_eq_ite,Option.ite_none_right_eq_some,Bool.or_eq_true,ikE,decide_eq_true_eq] at h;refine ⟨?_,intX_ok h.2 hk⟩;rcases h.1 with h1 | h1
   · exact .inl h1
   · cases op <;> simp at h1 <;> simp
 · split at h <;> simp only [ak8]
   · simp only [Bool.cond_eq_ite,Option.ite_none_right_eq_some,Option.some.injEq] at h;obtain ⟨h1,rfl⟩:=h;exact ⟨by have:=ble2 h1; omega,hk⟩
   · simp only [Option.some.injEq] at h; subst h; exact hk
   · simp only [Option.some.injEq] at h; subst h; exact hk
   · simp only [Option.some.injEq] at h; subst h; exact hk
   · simp only [Option.some.injEq] at h; subst h; exact hk
   · simp only [Option.some.injEq] at h; subst h; exact hk
   · simp only [Option.some.injEq] at h; subst h; exact hk
   · simp at h
 · simp only [Bool.cond_eq_ite,Option.ite_none_right_eq_some] at h;refine ⟨h.1,?_⟩;have h2:=h.2
   split at h2
   · simp only [Option.some.injEq] at h2; subst h2; exact hk
   · simp only [Option.some.injEq] at h2; subst h2; exact hk
   · simp at h2
 · simp only [Bool.cond_eq_ite,Option.ite_none_right_eq_some] at h;refine ⟨h.1,?_⟩;have h2:=h.2
   split at h2
   · rename_i hr; simp only [Option.some.injEq] at h2; subst h2; simp only [hr]; exact hk
   · rename_i hr; simp only [Option.some.injEq] at h2; subst h2; simp only [hr]; exact hk
   · simp at h2
 · split at h
   case h_2=>simp at h
   rename_i k hk';show agu P op T c H x y _;rw [amI hk'];obtain ⟨r,e,hr⟩:∃ r,aaQ H k x=some r∧((op=.eql∧v=.bool r)∨(op=.neq∧v=.bool !r)):=by
    revert h;generalize aaQ H k x=q;intro h;cases q with
    | none=>simp at h
    | some r=>cases op <;> simp at h <;> exact ⟨r,rfl,by simp [h]⟩
   rw [e];rcases hr with ⟨rfl,rfl⟩ | ⟨rfl,rfl⟩ <;> exact hk
def agn (P:Program) (T:TypeId) (a:AV) (f:Nat):Option Eff :=
 match abt P T with
 | some (u,n)=>bif Nat.ble (f+1) n then match a with
  | .ptr b path=>some { v:=.ptr b (path ++ [(u,f)]) }
  | .eptr b ver esz i path=>some { v:=.eptr b ver esz i (path ++ [(u,f)]) }
  | .p (.fptr t)=>bif sE (shp t) (.agg u) then match (flds t)[f]? with
   | some g=>some { v:=.p (.fptr g) }
   | none=>none
   else none
  | _=>none
  else none
 | _=>none
theorem akA {T:TypeId} {a:AV} {f:Nat} {e:Eff} {K:Eff→Prop} (h:agn P T a f=some e) (hk:K e):abo P T a f K:=by
 unfold agn at h;unfold abo
 split at h
 · rename_i hs;simp only [Bool.cond_eq_ite,Option.ite_none_right_eq_some] at h;obtain ⟨h1,h⟩:=h;simp only [hs];refine ⟨by have:=ble2 h1; omega,?_⟩
   split at h
   · simp only [Option.some.injEq] at h; subst h; exact hk
   · simp only [Option.some.injEq] at h; subst h; exact hk
   · simp only [Option.ite_none_right_eq_some] at h;obtain ⟨h2,h⟩:=h
     split at h
     · rename_i hg;simp only [Option.some.injEq] at h; subst h;simp only [hg]; exact ⟨(aeb h2).1,hk⟩
     · simp at h
   · simp at h
 · simp at h
def oE (a:Option Nat) (b:Nat):Bool:=match a with
 | some x=>Nat.beq x b
 | none=>false
theorem asV {a:Option Nat} {b:Nat} (h:oE a b=true):a=some b:=by
 unfold oE at h; split at h
 · rw [beq2 h]
 · simp at h
def agk (P:Program) (T:TypeId) (H:Heap) (x i:AV):Option Eff :=
 match i with
 | .p (.int _ (.ofNat i))=>match x with
  | .p (.lst _ es)=>match es[i]? with
   | some y=>bif oE (aax P T) (aah P (shp y)) then some { v:=.p (.fptr y) } else none
   | none=>none
  | .p (.seq es)=>match es[i]? with
   | some y=>bif oE (aax P T) (aah P (shp y)) then some { v:=.p (.fptr y) } else none
   | none=>none
  | .sl b ver esz off len=>bif oE (aax P T) esz && Nat.ble (i+1) len then match H[b]? with
   | some (.arr k ver' esz' es)=>bif Nat.beq ver ver' && (Nat.beq esz esz' && nnl k es) then some { v:=.eptr b ver esz (off+i) [],hin:=[(b,.arr k ver' esz' es)] } else none
   | _=>none
   else none
  | .ptr b path=>match arrT P T with
   | some (u,n)=>bif Nat.ble (i+1) n then some { v:=.ptr b (path ++ [(u,i)]) } else none
   | _=>none
  | .eptr b ver esz j path=>match arrT P T with
   | some (u,n)=>bif Nat.ble (i+1) n then some { v:=.eptr b ver esz j (path ++ [(u,i)]) } else none
   | _=>none
  | .p (.fptr t)=>match arrT P T with
   | some (u,n)=>bif sE (shp t) (.agg u) && Nat.ble (i+1) n then match (flds t)[i]? with
    | some g=>some { v:=.p (.fptr g) }
    | none=>none
    else none
   | _=>none
  | _=>none
 | _=>none
theorem aks {T:TypeId} {H:Heap} {x i:AV} {e:Eff} {K:Eff→Prop} (h:agk P T H x i=some e) (hk:K e):abm P T H x i K:=by
 unfold agk at h;unfold abm
 split at h
 case h_2=>simp at h
 rename_i i;refine ⟨Int.natCast_nonneg _,?_⟩;simp only [Int.ofNat_eq_natCast,Int.toNat_natCast]
 split at h
 · split at h
   · rename_i y hy;simp only [Bool.cond_eq_ite,Option.ite_none_right_eq_some,Option.some.injEq] at h;obtain ⟨h1,rfl⟩:=h;obtain ⟨hi,rfl⟩:=List.getElem?_eq_some_iff.1 hy;exact ⟨hi,asV h1,hk⟩
   · simp at h
 · split at h
   · rename_i y hy;simp only [Bool.cond_eq_ite,Option.ite_none_right_eq_some,Option.some.injEq] at h;obtain ⟨h1,rfl⟩:=h;obtain ⟨hi,rfl⟩:=List.getElem?_eq_some_iff.1 hy;exact ⟨hi,asV h1,hk⟩
   · simp at h
 · simp only [Bool.cond_eq_ite,Option.ite_none_right_eq_some,Bool.and_eq_true] at h;obtain ⟨⟨h1,h2⟩,h⟩:=h;refine ⟨asV h1,by have:=ble2 h2; omega,?_⟩
   split at h
   · rename_i hH;simp only [Option.ite_none_right_eq_some,Option.some.injEq] at h;obtain ⟨⟨h3,h4,h5⟩,rfl⟩:=h;simp only [hH];exact ⟨beq2 h3,beq2 h4,alN h5,hk⟩
   · simp at h
 · split at h
   · rename_i hT;simp only [Bool.cond_eq_ite,Option.ite_none_right_eq_some,Option.some.injEq] at h;obtain ⟨h1,rfl⟩:=h;simp only [hT]; exact ⟨by have:=ble2 h1; omega,hk⟩
   · simp at h
 · split at h
   · rename_i hT;simp only [Bool.cond_eq_ite,Option.ite_none_right_eq_some,Option.some.injEq] at h;obtain ⟨h1,rfl⟩:=h;simp only [hT]; exact ⟨by have:=ble2 h1; omega,hk⟩
   · simp at h
 · split at h
   · rename_i hT;simp only [Bool.cond_eq_ite,Option.ite_none_right_eq_some,Bool.and_eq_true] at h;obtain ⟨⟨h1,h2⟩,h⟩:=h
     split at h
     · rename_i hg;simp only [Option.some.injEq] at h; subst h;simp only [hT,hg]; exact ⟨(aeb h1).1,by have:=ble2 h2; omega,hk⟩
     · simp at h
   · simp at h
 · simp at h
def aon (P:Program) (T X:TypeId) (H:Heap) (s x:AV):Option Eff :=
 match aax P T,aa4 H x with
 | some sz,some xs=>bif afU P X && ((aaT P (aay P T)).isSome && allB P sz xs) then
  match s with
  | .p .nsl=>match xs with
   | []=>some { v:=s,hin:=aas H x }
   | y::r=>bif Nat.ble (y::r).length maxL then some { v:=.sl H.length 0 sz 0 (y::r).length,hin:=aas H x,hnew:=[.arr (gk P T) 0 sz (y::r)] } else none
  | .p (.lst full es)=>bif allB P sz (es.map .p) then match xs with
   | []=>some { v:=s,hin:=aas H x }
   | y::r=>bif full && Nat.ble (es.length+(y::r).length) maxL then
    some { v:=.sl H.length 0 sz 0 (es.length+(y::r).length),hin:=aas H x,hnew:=[.arr (gk P T) 0 sz (es.map .p ++ (y::r))] } else none
   else none
  | .sl b ver esz off len=>match H[b]? with
   | some (.arr k ver' esz' es)=>bif Nat.beq ver ver' && (Nat.beq esz esz' && (Nat.beq esz sz && Nat.ble (off+len) es.length)) then
    match xs with
    | []=>some { v:=s,hin:=(b,.arr k ver' esz' es)::aas H x }
    | y::r=>bif Nat.ble (es.length+(y::r).length) maxL then match k with
     | .frozen=>none
     | .exact => bif Nat.ble (off + len + (y :: r).length) es.length then
         some { v:=.sl b ver esz off (len+(y::r).length),hin:=(b,.arr .exact ver' esz' es)::aas H x,hset:=[(b,.arr .exact ver esz (es.take (off+len) ++ (y::r) ++ es.drop (off+len+(y::r).length)))] }
      else some { v:=.sl H.length 0 sz 0 (len+(y::r).length),hin:=(b,.arr .exact ver' esz' es)::aas H x,hnew:=[.arr (gk P T) 0 sz ((es.drop off).take len ++ (y::r))] }
     | .grow=>bif Nat.beq off 0 then some { v:=.sl b (ver+1) esz 0 (len+(y::r).length),hin:=(b,.arr .grow ver' esz' es)::aas H x,hset:=[(b,.arr .grow (ver+1) esz (es.take len ++ (y::r)))] } else none
     | .bytes=>bif Nat.beq off 0 && Nat.beq (aay P T) Gl.u8 then some { v:=.sl b (ver+1) esz 0 (len+(y::r).length),hin:=(b,.arr .bytes ver' esz' es)::aas H x,hset:=[(b,.arr .bytes (ver+1) esz (es.take len ++ (y::r)))] } else none
     else none
    else none
   | _=>none
  | _=>none
  else none
 | _,_=>none
theorem are {T X:TypeId} {H:Heap} {s x:AV} {e:Eff} {K:Eff→Prop} (h:aon P T X H s x=some e) (hk:K e):acC P T X H s x K:=by
 unfold aon at h;unfold acC
 split at h
 case h_2=>simp at h
 rename_i sz xs hE hX;simp only [Bool.cond_eq_ite,Option.ite_none_right_eq_some,Bool.and_eq_true] at h;obtain ⟨⟨h1,h2,h3⟩,h⟩:=h;simp only [hE,hX];refine ⟨h1,h2,agv h3,?_⟩
 split at h
 · split at h
   · simp only [Option.some.injEq] at h; subst h; simpa using hk
   · simp only [Option.ite_none_right_eq_some,Option.some.injEq] at h;obtain ⟨h4,rfl⟩:=h;simp only [List.isEmpty_cons,Bool.false_eq_true,if_false];exact ⟨ble2 h4,hk⟩
 · simp only [Option.ite_none_right_eq_some] at h;obtain ⟨h4,h⟩:=h;refine ⟨agv h4,?_⟩
   split at h
   · simp only [Option.some.injEq] at h; subst h; simpa using hk
   · simp only [Option.ite_none_right_eq_some,Option.some.injEq] at h;obtain ⟨⟨h5,h6⟩,rfl⟩:=h;simp only [List.isEmpty_cons,Bool.false_eq_true,if_false];exact ⟨h5,ble2 h6,hk⟩
 · split at h
   case h_2=>simp at h
   rename_i hH;simp only [Option.ite_none_right_eq_some] at h;obtain ⟨⟨h4,h5,h6,h7⟩,h⟩:=h;simp only [hH];refine ⟨beq2 h4,beq2 h5,beq2 h6,ble2 h7,?_⟩
   split at h
   · simp only [Option.some.injEq] at h; subst h; simpa using hk
   · simp only [Option.ite_none_right_eq_some] at h;obtain ⟨h8,h⟩:=h;simp only [List.isEmpty_cons,Bool.false_eq_true,if_false];refine ⟨ble2 h8,?_⟩
     split at h
     · simp at h
     · split at h
       · rename_i hr;simp only [Option.some.injEq] at h; subst h;simp only [ble2 hr,if_true]; exact hk
       · rename_i hr;simp only [Option.some.injEq] at h; subst h;rw [if_neg (fun hle=>hr (Nat.ble_eq_true_of_le hle))]; exact hk
     · simp only [Option.ite_none_right_eq_some,Option.some.injEq] at h;obtain ⟨h9,rfl⟩:=h;exact ⟨beq2 h9,(fun h=>by cases h),hk⟩
     · simp only [Option.ite_none_right_eq_some,Option.some.injEq] at h;obtain ⟨⟨h9,h10⟩,rfl⟩:=h;exact ⟨beq2 h9,fun _=>beq2 h10,hk⟩
 · simp at h
end
section
variable {P:Program} {frz:FuncId→Bool}
def bndX (x:Option AV) (d:Nat):Option Nat :=
 match x with
 | none=>some d
 | some (.p (.int _ (.ofNat i)))=>some i
 | _=>none
theorem acf {x:Option AV} {d n:Nat} {K:Nat→Prop} (h:bndX x d=some n) (hk:K n):aaK x d K:=by
 unfold bndX at h;unfold aaK
 split at h
 · simp only [Option.some.injEq] at h; subst h; exact hk
 · simp only [Option.some.injEq] at h; subst h;exact ⟨Int.natCast_nonneg _,hk⟩
 · simp at h
def arW (P:Program) (T:TypeId) (H:Heap) (x:AV) (lo hi mx:Option AV):Option Eff :=
 match mx with
 | some _=>none
 | none=>match x with
  | .p (.str s)=>match bndX hi s.length,bndX lo 0 with
   | some h,some l=>bif abY P T && (Nat.ble h s.length && Nat.ble l h) then some { v:=.p (.str ((s.take h).drop l)) } else none
   | _,_=>none
  | .p .nsl=>match bndX hi 0,bndX lo 0 with
   | some h,some l=>bif (aax P T).isSome && (Nat.ble h 0 && Nat.ble l h) then some { v:=x } else none
   | _,_=>none
  | .p (.lst full es)=>match bndX hi es.length,bndX lo 0,aax P T with
   | some h,some l,some sz=>bif Nat.ble h es.length && (Nat.ble l h && allB P sz (es.map .p)) then some { v:=.p (.lst (full && h == es.length) ((es.take h).drop l)) } else none
   | _,_,_=>none
  | .p (.seq es)=>match bndX hi es.length,bndX lo 0,aax P T with
   | some h,some l,some sz=>bif Nat.ble h es.length && (Nat.ble l h && allB P sz (es.map .p)) then some { v:=.p (.seq ((es.take h).drop l)) } else none
   | _,_,_=>none
  | .sl b ver esz off len=>match H[b]? with
   | some (.arr k ver' esz' es)=>match bndX hi len,bndX lo 0 with
    | some h, some l => bif Nat.beq ver ver' && (Nat.beq esz esz' && (oE (aax P T) esz && (nnl k es && (Nat.ble (off + len) es.length && (Nat.ble (off + h) es.length && Nat.ble l h))))) then
        match l with
        | 0=>some { v:=.sl b ver esz off h,hin:=[(b,.arr k ver' esz' es)] }
        | l'+1=>bif Nat.beq (l'+1) h then some { v:=.p (.lst false []),hin:=[(b,.arr k ver' esz' es)] } else some { v:=.sl b ver esz (off+(l'+1)) (h - (l'+1)),hin:=[(b,.arr k ver' esz' es)] }
     else none
    | _,_=>none
   | _=>none
  | _=>none
theorem arV {T:TypeId} {H:Heap} {x:AV} {lo hi mx:Option AV} {e:Eff} {K:Eff→Prop} (h:arW P T H x lo hi mx=some e) (hk:K e):adD P T H x lo hi mx K:=by
 unfold arW at h;unfold adD
 split at h
 · simp at h
 refine ⟨rfl,?_⟩
 split at h
 · split at h
   case h_2=>simp at h
   rename_i h1 h2;simp only [Bool.cond_eq_ite,Option.ite_none_right_eq_some,Bool.and_eq_true,Option.some.injEq] at h;obtain ⟨⟨h3,h4,h5⟩,rfl⟩:=h;exact ⟨h3,acf h1 (acf h2 ⟨ble2 h4,ble2 h5,hk⟩)⟩
 · split at h
   case h_2=>simp at h
   rename_i h1 h2;simp only [Bool.cond_eq_ite,Option.ite_none_right_eq_some,Bool.and_eq_true,Option.some.injEq] at h;obtain ⟨⟨h3,h4,h5⟩,rfl⟩:=h;exact ⟨h3,acf h1 (acf h2 ⟨ble2 h4,ble2 h5,hk⟩)⟩
 · split at h
   case h_2=>simp at h
   rename_i h1 h2 h3;simp only [Bool.cond_eq_ite,Option.ite_none_right_eq_some,Bool.and_eq_true,Option.some.injEq] at h;obtain ⟨⟨h4,h5,h6⟩,rfl⟩:=h;refine acf h1 (acf h2 ⟨ble2 h4,ble2 h5,?_⟩);simp only [h3]; exact ⟨agv h6,hk⟩
 · split at h
   case h_2=>simp at h
   rename_i h1 h2 h3;simp only [Bool.cond_eq_ite,Option.ite_none_right_eq_some,Bool.and_eq_true,Option.some.injEq] at h;obtain ⟨⟨h4,h5,h6⟩,rfl⟩:=h;refine acf h1 (acf h2 ⟨ble2 h4,ble2 h5,?_⟩);simp only [h3]; exact ⟨agv h6,hk⟩
 · split at h
   case h_2=>simp at h
   rename_i hH
   split at h
   case h_2=>simp at h
   rename_i h1 h2;simp only [Bool.cond_eq_ite,Option.ite_none_right_eq_some,Bool.and_eq_true] at h;obtain ⟨⟨h3,h4,h5,h6,h7,h8,h9⟩,h⟩:=h;simp only [hH];refine ⟨beq2 h3,beq2 h4,asV h5,alN h6,ble2 h7,acf h1 (acf h2 ⟨ble2 h8,ble2 h9,?_⟩)⟩
   split at h
   · simp only [Option.some.injEq] at h; subst h; simpa using hk
   · rw [if_neg (by omega)]
     split at h
     · rename_i hl;simp only [Option.some.injEq] at h; subst h;rw [if_pos (beq2 hl)]; exact hk
     · rename_i hl;simp only [Option.some.injEq] at h; subst h;rw [if_neg (fun e=>hl (by rw [← e]; exact Nat.beq_refl _))]; exact hk
 · simp at h
def am0 (P:Program) (T:TypeId) (H:Heap) (x:AV) (lo hi:Option AV) (m:AV):Option Eff :=
 match x with
 | .sl b ver esz off len=>match H[b]? with
  | some (.arr k ver' esz' es)=>match bndX hi len,bndX lo 0,bndX (some m) 0 with
   | some h, some l, some m => bif Nat.beq ver ver' && (Nat.beq esz esz' && ((aax P T).isSome && (nnl k es && (Nat.ble (off + len) es.length && (hi.isSome && (Nat.ble (off + m) es.length && (Nat.ble h m && Nat.ble l h))))))) then
       some { v:=.p .undef,hin:=[(b,.arr k ver' esz' es)] } else none
   | _,_,_=>none
  | _=>none
 | _=>none
theorem aqr {T:TypeId} {H:Heap} {x:AV} {lo hi:Option AV} {m:AV} {e:Eff} {K:Eff→Prop} (h:am0 P T H x lo hi m=some e) (hk:K e):adE P T H x lo hi m K:=by
 unfold am0 at h;unfold adE
 split at h
 case h_2=>simp at h
 split at h
 case h_2=>simp at h
 rename_i hH
 split at h
 case h_2=>simp at h
 rename_i h1 h2 h3;simp only [Bool.cond_eq_ite,Option.ite_none_right_eq_some,Bool.and_eq_true,Option.some.injEq] at h;obtain ⟨⟨g1,g2,g3,g4,g5,g6,g7,g8,g9⟩,rfl⟩:=h;simp only [hH];exact ⟨beq2 g1,beq2 g2,g3,alN g4,ble2 g5,g6,acf h1 (acf h2 (acf h3 ⟨ble2 g7,ble2 g8,ble2 g9,hk⟩))⟩
def avP (ok:Bool) (z:PV) (r:Option PV):PV :=
 match r with
 | some v=>bif ok then .tup [v,.bool true] else v
 | none=>bif ok then .tup [z,.bool false] else z
def as9 (P:Program) (T:TypeId) (H:Heap) (x i:AV) (ok:Bool):Option Eff :=
 match agU P T,i with
 | some (KT,E),.p key=>match aaT P E with
  | some z=>bif abb P KT key then match x with
   | .p .nmap=>some { v:=.p (avP ok z none) }
   | .p (.fmap es)=>match aaY P KT es key with
    | some r=>some { v:=.p (avP ok z r) }
    | none=>none
   | .map b=>match H[b]? with
    | some (.map fz es)=>match aaY P KT es key with
     | some r=>some { v:=.p (avP ok z r),hin:=[(b,.map fz es)] }
     | none=>none
    | _=>none
   | _=>none
   else none
  | none=>none
 | _,_=>none
def arz (P:Program) (T:TypeId) (H:Heap) (m k x:AV):Option Eff :=
 match agU P T,m,k,x with
 | some (KT,_),.map b,.p key,.p v=>bif abb P KT key then match H[b]? with
  | some (.map false es)=>match aeq P KT es key with
   | some _=>some { v:=.p (.tup []),hin:=[(b,.map false es)],hset:=[(b,.map false (aa6 es key v))] }
   | none=>none
  | _=>none
  else none
 | _,_,_,_=>none
def nextX (H:Heap) (it:AV):Option Eff :=
 match it with
 | .ptr b []=>match H[b]? with
  | some (.siter s pos) => bif Nat.ble (pos + 1) s.length then
      some { v:=.p (.tup [.bool true,.int .i64 pos,.int .i32 (Utf8.decode (toBA s) pos).1]),hin:=[(b,.siter s pos)],hset:=[(b,.siter s (pos+(Utf8.decode (toBA s) pos).2))] }
   else some { v:=.p (.tup [.bool false]),hin:=[(b,.siter s pos)] }
  | _=>none
 | _=>none
def ap6 (P:Program) (H:Heap) (b:Builtin) (Ts:Array TypeId) (args:List AV):Option Eff :=
 match b,args with
 | .len,[x]=>match lenOf H x with
  | some (n,hin)=>bif adb P (Ts.getD 0 0) x && Nat.ble 1 Ts.size then some { v:=.p (.int .i64 n),hin } else none
  | none=>none
 | .append,[s,x]=>bif Nat.beq Ts.size 2 then aon P (Ts.getD 0 0) (Ts.getD 1 0) H s x else none
 | .min,.p (.int k a)::r=>match acO k false r a with
  | some n=>some { v:=.p (.int k n) }
  | none=>none
 | .max,.p (.int k a)::r=>match acO k true r a with
  | some n=>some { v:=.p (.int k n) }
  | none=>none
 | .copy,[d,x]=>match aax P (Ts.getD 0 0),d,aa4 H x with
  | some sz,.sl b ver esz off len,some xs=>bif Nat.beq esz sz && (allB P sz xs && Nat.beq Ts.size 2) then match H[b]? with
   | some (.arr k ver' esz' es) => bif Nat.beq ver ver' && (Nat.beq esz esz' && (nfz k && (Nat.ble (off + len) es.length && nnl k es))) then
       some { v:=.p (.int .i64 (min xs.length len:Nat)),hin:=(b,.arr k ver' esz' es)::aas H x,hset:=[(b,.arr k ver' esz' (es.take off ++ xs.take (min xs.length len) ++ es.drop (off+min xs.length len)))] }
    else none
   | _=>none
   else none
  | _,_,_=>none
 | .cap,[x]=>match awn H x with
  | some (n,hin)=>bif adb P (Ts.getD 0 0) x && Nat.ble 1 Ts.size then some { v:=.p (.int .i64 n),hin } else none
  | none=>none
 | .clear,[x]=>match x with
  | .p .nsl=>bif adb P (Ts.getD 0 0) x && Nat.ble 1 Ts.size then some { v:=.p (.tup []) } else none
  | .sl b ver esz off len=>match aax P (Ts.getD 0 0),aaT P (aay P (Ts.getD 0 0)),H[b]? with
   | some sz, some z, some (.arr k ver' esz' es) => bif Nat.beq ver ver' && (Nat.beq esz esz' && (Nat.beq esz sz && (Nat.beq (aah P (shp z)) sz && (nfz k && (Nat.ble (off + len) es.length && (nnl k es && (Nat.ble 1 Ts.size && Nat.ble 1 len))))))) then
       some { v:=.p (.tup []),hin:=[(b,.arr k ver' esz' es)],hset:=[(b,.arr k ver' esz' (es.take off ++ List.replicate len (.p z) ++ es.drop (off+len)))] } else none
   | _,_,_=>none
  | _=>none
 | .unsafeSliceData,[x]=>match x with
  | .p .nsl=>some { v:=.p .nptr }
  | .sl b ver esz off len=>match H[b]? with
   | some (.arr k ver' esz' es) => bif Nat.beq ver ver' && Nat.beq esz esz' then
       bif nnl k es then (bif Nat.ble 1 len && Nat.ble (off+len) es.length then some { v:=.eptr b ver esz off [],hin:=[(b,.arr k ver' esz' es)] } else none)
       else some { v:=.p .nptr,hin:=[(b,.arr k ver' esz' es)] }
    else none
   | _=>none
  | _=>none
 | .unsafeString,[x,.p (.int .i64 (.ofNat n))]=>match x with
  | .p .nptr=>bif Nat.beq n 0 && Nat.beq Ts.size 2 then some { v:=.p (.str []) } else none
  | .eptr b ver esz i []=>match H[b]? with
   | some (.arr .bytes ver' esz' es) => bif Nat.beq ver ver' && (Nat.beq esz esz' && (Nat.beq esz 1 && (Nat.beq i 0 && (Nat.ble 1 n && (Nat.ble n es.length && (Nat.ble n 9223372036854775807 && (Nat.beq Ts.size 2 && (oE (ptrTo P (Ts.getD 0 0)) Gl.u8 && Nat.beq (P.cellsOf Gl.u8) 1)))))))) then
       match bytesOf (es.take n) with
       | some l=>some { v:=.p (.str l),hin:=[(b,.arr .bytes ver' esz' es)],hset:=[(b,.dead)] }
       | none=>none
    else none
   | _=>none
  | _=>none
 | _,_=>none
def opX (P:Program) (frz:FuncId→Bool) (o:Oper) (ρ:Operand→AV) (H:Heap):Option Eff :=
 match o.op with
 | .move x | .assign x=>some { v:=ρ x }
 | .pick c a b=>match ρ c with
  | .p (.bool t)=>some { v:=bif t then ρ a else ρ b }
  | _=>none
 | .alloc T=>match aaT P T with
  | some z=>bif sE (kindOf P T) (shp z) && bxB T (shp z) then some { v:=.ptr H.length [],hnew:=[.box false (.p z)] } else none
  | none=>none
 | .box T x=>bif sE (kindOf P T) (shpA (ρ x)) && bxB T (shpA (ρ x)) then some { v:=.ptr H.length [],hnew:=[.box false (ρ x)] } else none
 | .build T parts=>match kindOf P T,aaT P T with
  | .agg u,some z=>match szs P u with
   | some l=>bif sE (shp z) (.agg u) && als P l (parts.toList.map fun (i,x)=>(i,ρ x)) then some { v:=mkSt u (aaH ((flds z).map .p) (parts.toList.map fun (i,x)=>(i,ρ x))) } else none
   | none=>none
  | _,_=>none
 | .buildSlice T n parts=>match aax P T,aaT P (aay P T) with
  | some sz, some z => bif Nat.beq (aah P (shp z)) sz && (Nat.ble (n * sz) 1000000 && als P (List.replicate n sz) (parts.toList.map fun (i, x) => (i, ρ x))) then
      some { v:=.sl H.length 0 sz 0 n,hnew:=[.arr .exact 0 sz (aaH (List.replicate n (.p z)) (parts.toList.map fun (i,x)=>(i,ρ x)))] } else none
  | _,_=>none
 | .load T a=>loadX P T H (ρ a)
 | .store T a x=>arP P T H (ρ a) (ρ x)
 | .binOp op T x y _=>match binX P op T (isC y) H (ρ x) (ρ y) with
  | some v=>some { v:=.p v,hin:=aas H (ρ x) }
  | none=>none
 | .unOp op _ x=>match op,ρ x with
  | .not,.p (.bool b)=>some { v:=.p (.bool (!b)) }
  | .neg,.p (.int k n)=>some { v:=.p (.int k (k.wrap (0 - n))) }
  | .xor,.p (.int k n)=>some { v:=.p (.int k (k.wrap (BitVec.ofInt k.bits (if k.signed then -1 else k.max) ^^^ BitVec.ofInt k.bits n).toNat)) }
  | _,_=>none
 | .convert S D x=>match P.underlying S,P.underlying D,ρ x with
  | some _,some (.int k),.p (.int _ n)=>some { v:=.p (.int k (k.wrap n)) }
  | some _,some .string,.p (.str s)=>some { v:=.p (.str s) }
  | _,_,_=>none
 | .extract t i=>match ρ t with
  | .p (.tup vs)=>match vs[i]? with
   | some v=>some { v:=.p v }
   | none=>none
  | .tup vs=>match vs[i]? with
   | some v=>some { v }
   | none=>none
  | _=>none
 | .fieldAddr T a f=>agn P T (ρ a) f
 | .indexAddr T x i=>agk P T H (ρ x) (ρ i)
 | .field T x f=>match kindOf P T,P.underlying T,ρ x with
  | .agg u,some (.struct _),.p t=>match (flds t)[f]?,(aaX P u)[f]? with
   | some g,some F=>bif sE (shp t) (.agg u) && sE (kindOf P F) (shp g) then some { v:=.p g } else none
   | _,_=>none
  | _,_,_=>none
 | .index T x i=>match ρ x,ρ i with
  | .p (.str s),.p (.int _ (.ofNat i))=>match s[i]? with
   | some c=>bif abY P T then some { v:=.p (.int .u8 c) } else none
   | none=>none
  | .p (.st u es),.p (.int _ (.ofNat i))=>match arrT P T,(aaX P u)[i]?,es[i]? with
   | some (u',n),some F,some g=>bif Nat.beq u' u && (Nat.ble (i+1) n && sE (kindOf P F) (shp g)) then some { v:=.p g } else none
   | _,_,_=>none
  | _,_=>none
 | .makeFunc (.func f) fi ca => bif frz f then match aaR H (fi.toList.map ρ), aaR H (ca.toList.map ρ) with
     | some (a,[],[]),some (b,hin,hset)=>some { v:=.p (.func f a b),hin,hset }
     | _,_=>none
  else match allP (fi.toList.map ρ),allP (ca.toList.map ρ) with
   | some a,some b=>some { v:=.p (.func f a b) }
   | _,_=>some { v:=.func f (fi.toList.map ρ) (ca.toList.map ρ) }
 | .makeSlice T l c=>match aax P T,aaT P (aay P T),ρ l,ρ c with
  | some sz, some z, .p (.int .i64 (.ofNat l)), .p (.int .i64 (.ofNat c)) => bif Nat.beq (aah P (shp z)) sz && (Nat.beq l c && Nat.ble l maxL) then
      some { v:=.sl H.length 0 sz 0 l,hnew:=[.arr .exact 0 sz (List.replicate l (.p z))] } else none
  | _,_,_,_=>none
 | .slice T x lo hi mx=>match mx with
  | none=>arW P T H (ρ x) (lo.map ρ) (hi.map ρ) none
  | some m=>am0 P T H (ρ x) (lo.map ρ) (hi.map ρ) (ρ m)
 | .makeMap _ none=>some { v:=.map H.length,hnew:=[.map false []] }
 | .lookup T x i ok=>as9 P T H (ρ x) (ρ i) ok
 | .mapUpdate T m k x | .insert T m k x=>arz P T H (ρ m) (ρ k) (ρ x)
 | .range T x=>match ρ x with
  | .p (.str s)=>bif abY P T then some { v:=.ptr H.length [],hnew:=[.siter s 0] } else none
  | _=>none
 | .next it true=>nextX H (ρ it)
 | .nilCheck x=>match ρ x with
  | .ptr _ _ | .eptr _ _ _ _ _ | .p (.fptr _)=>some { v:=ρ x }
  | _=>none
 | .call c=>match c.callee with
  | .builtin b=>ap6 P H b c.argTypes (c.args.toList.map ρ)
  | _=>none
 | _=>none
theorem axi {o:Oper} {ρ:Operand→AV} {H:Heap} {e:Eff} {K:Eff→Prop} (h:opX P frz o ρ H=some e) (hk:K e):ab7 P frz o ρ H K:=by
 unfold opX at h;unfold ab7;cases hop:o.op <;> simp only [hop] at h <;> simp only
 case move | assign=>simp only [Option.some.injEq] at h; subst h; exact hk
 case pick c a b =>
  split at h
  · rename_i t hc;simp only [Option.some.injEq] at h; subst h;simp only [hc]; cases t <;> exact hk
  · simp at h
 case alloc T =>
  split at h
  · rename_i z hz;simp only [Bool.cond_eq_ite,Option.ite_none_right_eq_some,Option.some.injEq,Bool.and_eq_true] at h;obtain ⟨⟨h1,h2⟩,rfl⟩:=h;simp only [hz]; exact ⟨(aeb h1).1,(aeb h1).2,h2,hk⟩
  · simp at h
 case box T x =>
  simp only [Bool.cond_eq_ite,Option.ite_none_right_eq_some,Option.some.injEq,Bool.and_eq_true] at h;obtain ⟨⟨h1,h2⟩,rfl⟩:=h;exact ⟨(aeb h1).1,(aeb h1).2,h2,hk⟩
 case build T parts =>
  split at h
  · rename_i u z hu hz
    split at h
    · rename_i l hl;simp only [Bool.cond_eq_ite,Option.ite_none_right_eq_some,Option.some.injEq,Bool.and_eq_true] at h;obtain ⟨⟨h1,h2⟩,rfl⟩:=h;simp only [hu,hz,hl]; exact ⟨(aeb h1).1,ahO h2,hk⟩
    · simp at h
  · simp at h
 case buildSlice T n parts =>
  split at h
  · rename_i sz z hE hz;simp only [Bool.cond_eq_ite,Option.ite_none_right_eq_some,Option.some.injEq,Bool.and_eq_true] at h;obtain ⟨⟨h1,h2,h3⟩,rfl⟩:=h;simp only [hE,hz]; exact ⟨beq2 h1,ble2 h2,ahO h3,hk⟩
  · simp at h
 case load T a=>exact avQ h hk
 case store T a x=>exact arO h hk
 case binOp op T x y T' =>
  split at h
  · rename_i v hv;simp only [Option.some.injEq] at h; subst h;exact binX_ok (K:=fun v=>K { v:=.p v,hin:=aas H (ρ x) }) hv hk
  · simp at h
 case unOp op T x =>
  split at h
  all_goals first
   | (rename_i hx; simp only [Option.some.injEq] at h; subst h; simp only [hx]; exact hk)
   | simp at h
 case convert S D x =>
  split at h
  · rename_i h1 h2 h3; simp only [Option.some.injEq] at h; subst h; simp only [h1,h2,h3]; exact hk
  · rename_i h1 h2 h3; simp only [Option.some.injEq] at h; subst h; simp only [h1,h2,h3]; exact hk
  · simp at h
 case extract t i =>
  split at h
  · rename_i ht
    split at h
    · rename_i hv; simp only [Option.some.injEq] at h; subst h; simp only [ht,hv]; exact hk
    · simp at h
  · rename_i ht
    split at h
    · rename_i hv; simp only [Option.some.injEq] at h; subst h; simp only [ht,hv]; exact hk
    · simp at h
  · simp at h
 case fieldAddr T a f=>exact akA h hk
 case indexAddr T x i=>exact aks h hk
 case field T x f =>
  split at h
  · rename_i h1 h2 h3
    split at h
    · rename_i h4 h5;simp only [Bool.cond_eq_ite,Option.ite_none_right_eq_some,Option.some.injEq,Bool.and_eq_true] at h;obtain ⟨⟨h6,h7⟩,rfl⟩:=h;simp only [h1,h2,h3,h4,h5]; exact ⟨(aeb h6).1,(aeb h7).1,hk⟩
    · simp at h
  · simp at h
 case index T x i =>
  split at h
  · rename_i h1 h2
    split at h
    · rename_i c hc;simp only [Bool.cond_eq_ite,Option.ite_none_right_eq_some,Option.some.injEq] at h;obtain ⟨h3,rfl⟩:=h;obtain ⟨hi,rfl⟩:=List.getElem?_eq_some_iff.1 hc;simp only [h1,h2];exact ⟨h3,Int.natCast_nonneg _,hi,hk⟩
    · simp at h
  · rename_i u es kk i h1 h2
    split at h
    · rename_i u' n F g h3 h4 h5;simp only [Bool.cond_eq_ite,Option.ite_none_right_eq_some,Option.some.injEq,Bool.and_eq_true] at h;obtain ⟨⟨g1,g2,g3⟩,rfl⟩:=h;have e:(Int.ofNat i).toNat=i:=rfl;simp only [h1,h2,e,h3,h4,h5];exact ⟨beq2 g1,Int.natCast_nonneg _,ble2 g2,(aeb g3).1,hk⟩
    · simp at h
  · simp at h
 case makeFunc fn fi ca =>
  cases fn <;> simp only at h <;> try (simp at h; done)
  rename_i f;simp only;simp only [Bool.cond_eq_ite] at h
  split at h
  · rename_i hf;rw [if_pos hf]
    split at h
    · rename_i h1 h2; simp only [Option.some.injEq] at h; subst h; simp only [h1,h2]; exact hk
    · simp at h
  · rename_i hf;rw [if_neg hf]
    split at h
    · rename_i h1 h2; simp only [Option.some.injEq] at h; subst h; simp only [h1,h2]; exact hk
    · rename_i hne;simp only [Option.some.injEq] at h; subst h
      split
      · rename_i h1 h2; exact (hne _ _ h1 h2).elim
      · exact hk
 case makeSlice T l c =>
  split at h
  · rename_i h1 h2 h3 h4;simp only [Bool.cond_eq_ite,Option.ite_none_right_eq_some,Option.some.injEq,Bool.and_eq_true] at h;obtain ⟨⟨h5,h6,h7⟩,rfl⟩:=h;have e:=beq2 h6;simp only [h1,h2,h3,h4];refine ⟨beq2 h5,Int.natCast_nonneg _,by rw [e],?_,hk⟩;have:=ble2 h7;show ((_:Nat):Int)≤_
    exact_mod_cast this
  · simp at h
 case slice T x lo hi mx =>
  cases mx with
  | none=>exact arV h hk
  | some m=>exact aqr h hk
 case makeMap T r =>
  cases r <;> simp only at h
  · simp only [Option.some.injEq] at h; subst h; exact hk
  · simp at h
 case lookup T x i ok =>
  unfold as9 at h
  split at h
  case h_2=>simp at h
  rename_i h1 h2
  split at h
  case h_2=>simp at h
  rename_i z hz;simp only [Bool.cond_eq_ite,Option.ite_none_right_eq_some] at h;obtain ⟨h3,h⟩:=h;simp only [h1,h2,hz];refine ⟨h3,?_⟩
  have eq : ∀ r : Option PV, avP ok z r = match r with
      | some v=>if ok=true then .tup [v,.bool true] else v
      | none=>if ok=true then .tup [z,.bool false] else z:=by
   intro r; cases r <;> cases ok <;> rfl
  split at h
  · rename_i hx; simp only [Option.some.injEq] at h; subst h; simp only [hx]; rw [eq] at hk; exact hk
  · rename_i hx
    split at h
    · rename_i r hr;simp only [Option.some.injEq] at h; subst h; rw [eq] at hk;simp only [hx,hr];cases r <;> exact hk
    · simp at h
  · rename_i hx
    split at h
    · rename_i hH
      split at h
      · rename_i r hr;simp only [Option.some.injEq] at h; subst h; rw [eq] at hk;simp only [hx,hH,hr];cases r <;> exact hk
      · simp at h
    · simp at h
  · simp at h
 case mapUpdate T m k x | insert T m k x =>
  unfold arz at h
  split at h
  case h_2=>simp at h
  rename_i h1 h2 h3 h4;simp only [Bool.cond_eq_ite,Option.ite_none_right_eq_some] at h;obtain ⟨h5,h⟩:=h;simp only [h1,h2,h3,h4];refine ⟨h5,?_⟩
  split at h
  · rename_i hH
    split at h
    · rename_i hl; simp only [Option.some.injEq] at h; subst h; simp only [hH,hl]; exact hk
    · simp at h
  · simp at h
 case range T x =>
  split at h
  · rename_i hx;simp only [Bool.cond_eq_ite,Option.ite_none_right_eq_some,Option.some.injEq] at h;obtain ⟨h1,rfl⟩:=h;simp only [hx]; exact ⟨h1,hk⟩
  · simp at h
 case next it isStr =>
  cases isStr <;> simp only at h
  · simp at h
  unfold nextX at h
  split at h
  · rename_i hx
    split at h
    · rename_i hH;simp only [hx,hH];simp only [Bool.cond_eq_ite] at h
      split at h
      · rename_i hp; simp only [Option.some.injEq] at h; subst h; rw [if_pos (by have:=ble2 hp; omega)]; exact hk
      · rename_i hp; simp only [Option.some.injEq] at h; subst h; rw [if_neg (fun hlt=>hp (Nat.ble_eq_true_of_le (Nat.succ_le_of_lt hlt)))]; exact hk
    · simp at h
  · simp at h
 case nilCheck x =>
  split at h
  all_goals first
   | (rename_i hx; simp only [Option.some.injEq] at h; subst h; simp only [hx] at hk ⊢; exact hk)
   | simp at h
 case call c =>
  split at h
  case h_2=>simp at h
  rename_i b hc;simp only [hc];generalize c.args.toList.map ρ=args at *;generalize c.argTypes=Ts at *;unfold ap6 at h
  split at h
  · split at h
    · rename_i hl;simp only [Bool.cond_eq_ite,Option.ite_none_right_eq_some,Option.some.injEq,Bool.and_eq_true] at h;obtain ⟨⟨h1,h2⟩,rfl⟩:=h;simp only [hl]; exact ⟨h1,ble2 h2,hk⟩
    · simp at h
  · simp only [Bool.cond_eq_ite,Option.ite_none_right_eq_some] at h;exact ⟨beq2 h.1,are h.2 hk⟩
  · split at h
    · rename_i hm; simp only [Option.some.injEq] at h; subst h; simp only [hm]; exact hk
    · simp at h
  · split at h
    · rename_i hm; simp only [Option.some.injEq] at h; subst h; simp only [hm]; exact hk
    · simp at h
  · split at h
    · rename_i hE hX;simp only [Bool.cond_eq_ite,Option.ite_none_right_eq_some,Bool.and_eq_true] at h;obtain ⟨⟨h1,h2,h3⟩,h⟩:=h;simp only [hE,hX];refine ⟨beq2 h1,agv h2,beq2 h3,?_⟩
      split at h
      · rename_i hH;simp only [Option.ite_none_right_eq_some,Option.some.injEq] at h;obtain ⟨⟨h4,h5,h6,h7,h8⟩,rfl⟩:=h;simp only [hH];exact ⟨beq2 h4,beq2 h5,asY h6,ble2 h7,alN h8,hk⟩
      · simp at h
    · simp at h
  · split at h
    · rename_i hl;simp only [Bool.cond_eq_ite,Option.ite_none_right_eq_some,Option.some.injEq,Bool.and_eq_true] at h;obtain ⟨⟨h1,h2⟩,rfl⟩:=h;simp only [hl]; exact ⟨h1,ble2 h2,hk⟩
    · simp at h
  · split at h
    · simp only [Bool.cond_eq_ite,Option.ite_none_right_eq_some,Option.some.injEq,Bool.and_eq_true] at h;obtain ⟨⟨h1,h2⟩,rfl⟩:=h;exact ⟨h1,ble2 h2,hk⟩
    · split at h
      · rename_i hE hz hH;simp only [Bool.cond_eq_ite,Option.ite_none_right_eq_some,Option.some.injEq,Bool.and_eq_true] at h;obtain ⟨⟨h1,h2,h3,h4,h5,h6,h7,h8,h9⟩,rfl⟩:=h;simp only [hE,hz,hH];exact ⟨beq2 h1,beq2 h2,beq2 h3,beq2 h4,asY h5,ble2 h6,alN h7,ble2 h8,ble2 h9,hk⟩
      · simp at h
    · simp at h
  · split at h
    · simp only [Option.some.injEq] at h; subst h; exact hk
    · split at h
      · rename_i hH;simp only [Bool.cond_eq_ite,Option.ite_none_right_eq_some,Bool.and_eq_true] at h;obtain ⟨⟨h1,h2⟩,h⟩:=h;simp only [hH];refine ⟨beq2 h1,beq2 h2,?_⟩
        split at h
        · simp only [Option.ite_none_right_eq_some,Option.some.injEq] at h;obtain ⟨⟨h4,h5⟩,rfl⟩:=h;exact .inr ⟨ble2 h4,ble2 h5,hk⟩
        · rename_i hn;simp only [Option.some.injEq] at h; subst h;rename_i k _ _ es _ _;refine .inl ⟨?_,?_,hk⟩ <;> (unfold nnl at hn; split at hn <;> simp_all)
      · simp at h
    · simp at h
  · split at h
    · simp only [Bool.cond_eq_ite,Option.ite_none_right_eq_some,Option.some.injEq,Bool.and_eq_true] at h;obtain ⟨⟨h1,h2⟩,rfl⟩:=h;exact ⟨by rw [beq2 h1]; rfl,beq2 h2,hk⟩
    · split at h
      · rename_i hH;simp only [Bool.cond_eq_ite,Option.ite_none_right_eq_some,Bool.and_eq_true] at h;obtain ⟨⟨h1,h2,h3,h4,h5,h6,h7,h8,h9,h10⟩,h⟩:=h;have h5':=ble2 h5;have h7':=ble2 h7;simp only [hH];refine ⟨beq2 h1,beq2 h2,beq2 h3,beq2 h4,by simp; omega,by simpa using ble2 h6,by simp; omega,beq2 h8,asV h9,beq2 h10,?_⟩;simp only [Int.ofNat_eq_natCast,Int.toNat_natCast]
        split at h
        · rename_i hl; simp only [Option.some.injEq] at h; subst h; simp only [hl]; exact hk
        · simp at h
      · simp at h
    · simp at h
  · simp at h
 all_goals simp at h
end
end Go.Abs
namespace Go.Abs
variable [Gl]
section
variable (σ:Nat→Nat)
mutual
def ren:AV→AV
 | .p v=>.p v
 | .ptr b path=>.ptr (σ b) path
 | .eptr b ver esz i path=>.eptr (σ b) ver esz i path
 | .sl b ver esz off len=>.sl (σ b) ver esz off len
 | .map b=>.map (σ b)
 | .func f fi ca=>.func f (renL fi) (renL ca)
 | .st u fs=>.st u (renL fs)
 | .tup vs=>.tup (renL vs)
def renL:List AV→List AV
 | []=>[]
 | v::vs=>ren v::renL vs
end
def ajn:Env→Env
 | []=>[]
 | (x,v)::r=>(x,ren σ v)::ajn r
def renO:Obj→Obj
 | .box fz t=>.box fz (ren σ t)
 | .arr k ver esz es=>.arr k ver esz (renL σ es)
 | .loop L=>.loop { L with env:=ajn σ L.env }
 | o=>o
end
section
variable {σ:Nat→Nat}
theorem akv:∀ (e:Env) (x:Nat),getE (ajn σ e) x=ren σ (getE e x)
 | [],_=>rfl
 | (y,v)::r,x=>by
  simp only [ajn,getE]
  split
  · rfl
  · exact akv r x
theorem ab6:∀ l:List AV,(renL σ l).length=l.length
 | []=>rfl
 | _::r=>by simp [renL,ab6 r]
theorem avh {l:List AV}:renL σ l=[]↔l=[]:=by cases l <;> simp [renL]
theorem adM {k:AK} {es:List AV}:aam k (renL σ es)↔aam k es:=by simp [aam,avh]
theorem ath {v:AV}:(ren σ v).isP↔v.isP:=by cases v <;> simp [ren,AV.isP]
theorem au5 {v:AV}:shpA (ren σ v)=shpA v:=by cases v <;> rfl
theorem aps:∀ {l:List AV},(∀ e∈renL σ l,e.isP)↔∀ e∈l,e.isP
 | []=>by simp [renL]
 | v::r=>by simp [renL,ath,aps (l:=r)]
theorem adO {o:Obj}:(renO σ o).live↔o.live:=by cases o <;> simp [renO,Obj.live,adM]
theorem ats {o:Obj} {v:Nat}:(renO σ o).has v↔o.has v:=by cases o <;> simp [renO,Obj.has]
theorem av1 {o:Obj}:renO σ o=.hole↔o=.hole:=by cases o <;> simp [renO]
mutual
theorem aj7 {S:Nat×Nat→Prop}:∀ (v:AV),aaa S (ren σ v)↔aaa (fun x=>S (σ x.1,x.2)) v
 | .p _=>by simp [ren,aaa]
 | .ptr _ _ | .eptr _ _ _ _ _ | .sl _ _ _ _ _ | .map _=>by simp [ren,aaa]
 | .func _ fi ca=>by simp only [ren,aaa]; rw [adp fi,adp ca]
 | .st _ fs=>by simp only [ren,aaa]; exact adp fs
 | .tup vs=>by simp only [ren,aaa]; exact adp vs
theorem adp {S:Nat×Nat→Prop}:∀ (l:List AV),aac S (renL σ l)↔aac (fun x=>S (σ x.1,x.2)) l
 | []=>by simp [renL,aac]
 | v::r=>by simp only [renL,aac]; rw [aj7 v,adp r]
end
theorem asJ {S:Nat×Nat→Prop} {o:Obj}:(renO σ o).refs S↔o.refs (fun x=>S (σ x.1,x.2)):=by
 cases o <;> simp only [renO,Obj.refs,aj7,adp,akv]
theorem Obj.refs.mono {S T:Nat×Nat→Prop} (h:∀ x,S x→T x) {o:Obj} (hr:o.refs S):o.refs T:=by
 cases o with
 | box fz t=>exact aaa.mono h _ hr
 | arr k ver esz es=>exact aac.mono h _ hr
 | loop L=>exact fun x=>aaa.mono h _ (hr x)
 | _=>trivial
structure Emb (σ:Nat→Nat) (β0:Bd) (H0:Heap) (β:Bd) (H:Heap):Prop where
 obj:∀ (b:Nat) (o:Obj),H0[b]?=some o→H[σ b]?=some (renO σ o)
 blk:∀ b,b<H0.length→β.blk (σ b) = β0.blk b∧β.cap (σ b) = β0.cap b
section
variable {P:Program} {w:World} {Imm:Nat→Prop} {β0 β:Bd} {H0 H:Heap}
theorem Emb.box (h:Emb σ β0 H0 β H) {b:Nat} (hb:b<H0.length):adi H (σ b)↔adi H0 b:=by
 have h1:=h.obj b _ (List.getElem?_eq_getElem hb);have h2:=List.getElem?_eq_getElem hb;unfold adi; rw [h1,h2];cases H0[b] <;> simp [renO]
theorem Emb.it (h:Emb σ β0 H0 β H) {b:Nat} (hb:b<H0.length):aeW H (σ b)↔aeW H0 b:=by
 have h1:=h.obj b _ (List.getElem?_eq_getElem hb);have h2:=List.getElem?_eq_getElem hb;unfold aeW; rw [h1,h2];cases H0[b] <;> simp [renO]
theorem Emb.map (h:Emb σ β0 H0 β H) {b:Nat} (hb:b<H0.length):adh H (σ b)↔adh H0 b:=by
 have h1:=h.obj b _ (List.getElem?_eq_getElem hb);have h2:=List.getElem?_eq_getElem hb;unfold adh; rw [h1,h2];cases H0[b] <;> simp [renO]
theorem Emb.loop (h:Emb σ β0 H0 β H) {b:Nat} (hb:b<H0.length):aaN H (σ b)↔aaN H0 b:=by
 have h1:=h.obj b _ (List.getElem?_eq_getElem hb);have h2:=List.getElem?_eq_getElem hb;unfold aaN; rw [h1,h2];cases H0[b] <;> simp [renO]
theorem Emb.arr (h:Emb σ β0 H0 β H) {b ver esz:Nat} {k:AK} {es:List AV} (hb:b<H0.length):aaI H (σ b) ver esz k es↔∃ es0,aaI H0 b ver esz k es0∧es=renL σ es0:=by
 have h1:=h.obj b _ (List.getElem?_eq_getElem hb);have h2:=List.getElem?_eq_getElem hb;unfold aaI; rw [h1,h2];cases H0[b] <;> simp [renO];constructor
 · rintro ⟨rfl,rfl,rfl,rfl⟩; exact ⟨_,⟨rfl,rfl,rfl,rfl⟩,rfl⟩
 · rintro ⟨_,⟨rfl,rfl,rfl,rfl⟩,rfl⟩; exact ⟨rfl,rfl,rfl,rfl⟩
theorem Emb.inH (h:Emb σ β0 H0 β H) {x:Nat×Nat} (hb:x.1<H0.length):InH H (σ x.1,x.2)↔InH H0 x:=by
 have h1:=h.obj x.1 _ (List.getElem?_eq_getElem hb);have h2:=List.getElem?_eq_getElem hb;unfold InH; rw [h1,h2];simp [ats]
def Small (n:Nat):Nat×Nat→Prop:=fun x=>x.1<n
theorem Emb.refC (h:Emb σ β0 H0 β H):∀ {a:AV} {v:Value},aaa (Small H0.length) a→(RefC P β H (ren σ a) v↔RefC P β0 H0 a v)
 | .p _,_,_ | .func _ _ _,_,_ | .st _ _,_,_ | .tup _,_,_=>by simp [ren,RefC]
 | .ptr b path,v,hb=>by
  simp only [aaa,Small] at hb;simp only [ren,RefC,h.box hb,h.it hb,(h.blk b hb).1]
 | .eptr b ver esz i path,v,hb=>by
  simp only [aaa,Small] at hb;simp only [ren,RefC,h.arr hb,(h.blk b hb).1];constructor
  · rintro ⟨blk,off,o,h1,h2,h3⟩;exact ⟨blk,off,o,h1,h2,fun k es hl hn=>h3 k _ ⟨es,hl,rfl⟩ (by rwa [adM])⟩
  · rintro ⟨blk,off,o,h1,h2,h3⟩;refine ⟨blk,off,o,h1,h2,?_⟩;rintro k _ ⟨es,hl,rfl⟩ hn;exact h3 k es hl (by rwa [adM] at hn)
 | .sl b ver esz off len,v,hb=>by
  simp only [aaa,Small] at hb;simp only [ren,RefC,h.arr hb,(h.blk b hb).1,(h.blk b hb).2];constructor
  · intro hh k es hl;have:=hh k _ ⟨es,hl,rfl⟩;simpa only [ab6,adM] using this
  · rintro hh k _ ⟨es,hl,rfl⟩;have:=hh k es hl;simpa only [ab6,adM] using this
 | .map b,v,hb=>by
  simp only [aaa,Small] at hb;simp only [ren,RefC,h.map hb,h.loop hb,(h.blk b hb).1]
mutual
theorem Emb.avc (h:Emb σ β0 H0 β H):∀ (a:AV) (cs:List Value),aaa (Small H0.length) a→(AVC P w Imm β H (ren σ a) cs↔AVC P w Imm β0 H0 a cs)
 | .p _,_,_=>by simp [ren,AVC]
 | .tup _,_,_=>by simp [ren,AVC]
 | .st u fs,cs,hr=>by
  simp only [aaa] at hr;simp only [ren,AVC];exact exists_congr fun l=>exists_congr fun css=>and_congr_right fun _=>and_congr_left fun _=>Emb.avcl h l fs css hr
 | .func f fi ca,cs,hr=>by
  simp only [aaa] at hr;simp only [ren,AVC];exact exists_congr fun l=>exists_congr fun css=>and_congr (Emb.avvl h fi l hr.1) (and_congr_left fun _=>Emb.avvl h ca css hr.2)
 | .ptr b path,cs,hr=>by
  have:=fun v=>h.refC (P:=P) (a:=.ptr b path) (v:=v) hr;simp only [ren,AVC,RefV] at this ⊢;simp only [this]
 | .eptr b ver esz i path,cs,hr=>by
  have:=fun v=>h.refC (P:=P) (a:=.eptr b ver esz i path) (v:=v) hr;simp only [ren,AVC,RefV] at this ⊢;simp only [this]
 | .sl b ver esz off len,cs,hr=>by
  have:=fun v=>h.refC (P:=P) (a:=.sl b ver esz off len) (v:=v) hr;simp only [ren,AVC,RefV] at this ⊢;simp only [this]
 | .map b,cs,hr=>by
  have:=fun v=>h.refC (P:=P) (a:=.map b) (v:=v) hr;simp only [ren,AVC,RefV] at this ⊢;simp only [this]
theorem Emb.avcl (h:Emb σ β0 H0 β H):∀ (ns:List Nat) (l:List AV) (css:List (List Value)),aac (Small H0.length) l→(AVCl P w Imm β H ns (renL σ l) css↔AVCl P w Imm β0 H0 ns l css)
 | [],[],css,_=>by simp [renL,AVCl]
 | [],_::_,css,_=>by simp [renL,AVCl]
 | _::_,[],css,_=>by simp [renL,AVCl]
 | n::ns,v::vs,css,hr=>by
  simp only [aac] at hr;simp only [renL,AVCl];exact exists_congr fun c=>exists_congr fun cs=>and_congr_right fun _=>and_congr (Emb.avc h v c hr.1) (and_congr_right fun _=>Emb.avcl h ns vs cs hr.2)
theorem Emb.avv (h:Emb σ β0 H0 β H):∀ (a:AV) (v:Value),aaa (Small H0.length) a→(AVV P w Imm β H (ren σ a) v↔AVV P w Imm β0 H0 a v)
 | .p _,_,_=>by simp [ren,AVV]
 | .tup vs,_,hr=>by
  simp only [aaa] at hr;simp only [ren,AVV];exact exists_congr fun l=>and_congr_left fun _=>Emb.avvl h vs l hr
 | .st u fs,cs,hr=>by
  simp only [aaa] at hr;simp only [ren,AVV];exact exists_congr fun l=>exists_congr fun css=>and_congr_right fun _=>and_congr_left fun _=>Emb.avcl h l fs css hr
 | .func f fi ca,cs,hr=>by
  simp only [aaa] at hr;simp only [ren,AVV];exact exists_congr fun l=>exists_congr fun css=>and_congr (Emb.avvl h fi l hr.1) (and_congr_left fun _=>Emb.avvl h ca css hr.2)
 | .ptr b path,v,hr=>by
  have:=h.refC (P:=P) (a:=.ptr b path) (v:=v) hr;simp only [ren,AVV,RefV] at this ⊢;simp only [this]
 | .eptr b ver esz i path,v,hr=>by
  have:=h.refC (P:=P) (a:=.eptr b ver esz i path) (v:=v) hr;simp only [ren,AVV,RefV] at this ⊢;simp only [this]
 | .sl b ver esz off len,v,hr=>by
  have:=h.refC (P:=P) (a:=.sl b ver esz off len) (v:=v) hr;simp only [ren,AVV,RefV] at this ⊢;simp only [this]
 | .map b,v,hr=>by
  have:=h.refC (P:=P) (a:=.map b) (v:=v) hr;simp only [ren,AVV,RefV] at this ⊢;simp only [this]
theorem Emb.avvl (h:Emb σ β0 H0 β H):∀ (l:List AV) (vs:List Value),aac (Small H0.length) l→(AVVl P w Imm β H (renL σ l) vs↔AVVl P w Imm β0 H0 l vs)
 | [],vs,_=>by simp [renL,AVVl]
 | a::l,vs,hr=>by
  simp only [aac] at hr;simp only [renL,AVVl];exact exists_congr fun y=>exists_congr fun ys=>and_congr_right fun _=>and_congr (Emb.avv h a y hr.1) (Emb.avvl h l ys hr.2)
end
theorem Emb.orel (h : Emb σ β0 H0 β H) {Prot Prot0 : Nat → Prop} {b : Nat} {o : Obj} (hb : H0[b]? = some o) (hre : o.refs (Small H0.length)) (hh : o.live → ∀ fz, Held Imm β0 Prot0 fz b ↔ Held Imm β Prot fz (σ b)) :
    ORel P w Imm β H Prot (σ b) (renO σ o)↔ORel P w Imm β0 H0 Prot0 b o:=by
 have hbl:b<H0.length:=(List.getElem?_eq_some_iff.1 hb).1;obtain ⟨k1,k2⟩:=h.blk b hbl;cases o with
 | hole=>simp [renO,ORel]
 | dead=>simp [renO,ORel]
 | box fz t =>
  simp only [renO,ORel,k1,← hh trivial,h.avc t _ hre,ath,au5]
 | arr k ver esz es =>
  simp only [renO,ORel,k1,k2,adM,ab6,aps]
  by_cases hn:aam k es
  · simp [hn]
  · simp only [hn,false_or,← hh hn,h.avcl _ es _ hre]
 | map fz es =>
  simp only [renO,ORel,k1,← hh trivial]
 | siter s pos =>
  simp only [renO,ORel,k1,← hh trivial]
 | loop L =>
  simp only [renO,ORel,k1,← hh trivial,akv];exact exists_congr fun t=>exists_congr fun d=>exists_congr fun fn=>and_congr_right fun _=>and_congr_right fun _=>and_congr_left fun _=>forall_congr' fun x=>h.avv _ _ (hre x)
end
end
end Go.Abs
namespace Go.Abs
variable [Gl]
def sig (bs:List Nat) (base i:Nat):Nat:=match bs[i]? with
 | some b=>b
 | none=>base+(i - bs.length)
theorem af2 {bs:List Nat} {base i:Nat} (h:i<bs.length):sig bs base i=bs[i]:=by simp [sig,h]
theorem af3 {bs:List Nat} {base i:Nat} (h:bs.length≤i):sig bs base i=base+(i - bs.length):=by simp [sig,h]
theorem sig_inj {bs:List Nat} {base:Nat} (hnd:bs.Nodup) (hlt:∀ b∈bs,b<base) {i j:Nat} (h:sig bs base i=sig bs base j):i=j:=by
 by_cases hi:i < bs.length <;> by_cases hj:j < bs.length
 · rw [af2 hi,af2 hj] at h;exact (List.getElem_inj hnd).1 h
 · rw [af2 hi,af3 (by omega)] at h;have:=hlt _ (List.getElem_mem hi); omega
 · rw [af3 (by omega),af2 hj] at h;have:=hlt _ (List.getElem_mem hj); omega
 · rw [af3 (by omega),af3 (by omega)] at h; omega
theorem af4:∀ {l:List (Nat×Obj)} {H:Heap} {x:Nat},(∀ p∈l,p.1≠x)→(aaj H l)[x]?=H[x]?
 | [],_,_,_=>rfl
 | (b,o)::r,H,x,h=>by
  simp only [aaj];rw [af4 (fun p hp=>h p (by simp [hp])),List.getElem?_set_ne (h (b,o) (by simp))]
theorem ahw:∀ {l:List (Nat×Obj)} {H:Heap},(l.map (·.1)).Nodup→∀ p∈l,p.1<H.length→(aaj H l)[p.1]?=some p.2
 | [],_,_,_,h,_=>by simp at h
 | (b,o)::r,H,hn,p,hp,hl=>by
  simp only [List.map_cons,List.nodup_cons] at hn;simp only [aaj];rcases List.mem_cons.1 hp with rfl | hp
  · rw [af4 (fun q hq he=>hn.1 (List.mem_map.2 ⟨q,hq,he⟩)),List.getElem?_set_self hl]
  · exact ahw hn.2 p hp (by simpa using hl)
theorem ahX (base:Nat):∀ (l:List Obj),(newAt base l).map (·.1)=List.range' base l.length
 | []=>rfl
 | o::r=>by simp [newAt,ahX (base+1) r,List.range'_succ]
theorem alQ:∀ (l:List Obj) (base j:Nat) (h:j<l.length),(base+j,l[j])∈newAt base l
 | [],_,_,h=>by simp at h
 | o::r,base,0,h=>by simp [newAt]
 | o::r,base,j+1,h=>by
  have:=alQ r (base+1) j (by simpa using h);simp only [newAt,List.getElem_cons_succ,List.mem_cons];right;have e:base+(j+1)=base+1+j:=by omega
  rw [e]; exact this
section
variable {P:Program} {w w':World} {Imm Imm' Prot:Nat→Prop} {β β':Bd} {H H':Heap}
theorem ORel.mut {b:Nat} {o:Obj} (h:ORel P w Imm β H Prot b o) (hl:o.live) (hn:¬ Imm (β.blk b)):¬ Prot (β.blk b):=by
 have held:∀ {fz},Held Imm β Prot fz b→¬ Prot (β.blk b):=by
  intro fz hh;cases fz with
  | true=>exact (hn (by simpa [Held] using hh)).elim
  | false =>
   have:¬ Imm (β.blk b)∧¬ Prot (β.blk b):=by simpa [Held] using hh
   exact this.2
 cases o with
 | hole=>exact hl.elim
 | dead=>exact hl.elim
 | box fz t =>
  obtain ⟨cs,T,h1,h2,h3,h4⟩:=h;exact held h3
 | arr k ver esz es =>
  rcases h with h | ⟨cs,T,css,rest,h1,h2,h3,h4,h5,h6,h7,h8⟩
  · exact (hl h).elim
  · exact held h7
 | map fz es =>
  obtain ⟨ents,clock,h1,h2,h3⟩:=h;exact held h3
 | siter s pos =>
  obtain ⟨bs,h1,h2,h3⟩:=h;exact held h3
 | loop L =>
  obtain ⟨tmps,defers,fn,h1,h2,h3,h4⟩:=h;exact held h4
theorem ORel.carry (hi : ∀ k, Imm k → Imm' k) (hs : ∀ k, Imm k → w'.heap[k]? = w.heap[k]?) (hst : aaG β H β' H') {b : Nat} {o : Obj} (hre : o.refs (InH H))
    (hb:o.live→w'.heap[β.blk b]?=w.heap[β.blk b]?∧β'.blk b = β.blk b∧β'.cap b = β.cap b) (held:o.live→∀ fz,Held Imm β Prot fz b→Held Imm' β' Prot fz b) (h:ORel P w Imm β H Prot b o):ORel P w' Imm' β' H' Prot b o:=by
 cases o with
 | hole=>trivial
 | dead=>trivial
 | box fz t =>
  obtain ⟨cs,T,h1,h2,h3,h4⟩:=h;obtain ⟨b1,b2,b3⟩:=hb trivial;exact ⟨cs,T,by rw [b2,b1]; exact h1,AVC.mono hi hs hst _ _ hre h2,held trivial _ h3,h4⟩
 | arr k ver esz es =>
  rcases h with h | ⟨cs,T,css,rest,h1,h2,h3,h4,h5,h6,h7,h8⟩
  · exact .inl h
  · by_cases hl:aam k es
    · exact .inl hl
    · obtain ⟨b1,b2,b3⟩:=hb hl;exact .inr ⟨cs,T,css,rest,by rw [b2,b1]; exact h1,AVCl.mono hi hs hst _ _ _ hre h2,h3,by rw [b3]; exact h4,by rw [b3]; exact h5,by rw [b3]; exact h6,held hl _ h7,h8⟩
 | map fz es =>
  obtain ⟨ents,clock,h1,h2,h3⟩:=h;obtain ⟨b1,b2,b3⟩:=hb trivial;exact ⟨ents,clock,by rw [b2,b1]; exact h1,PVM.mono hi hs _ _ h2,held trivial _ h3⟩
 | siter s pos =>
  obtain ⟨bs,h1,h2,h3⟩:=h;obtain ⟨b1,b2,b3⟩:=hb trivial;exact ⟨bs,by rw [b2,b1]; exact h1,h2,held trivial _ h3⟩
 | loop L =>
  obtain ⟨tmps,defers,fn,h1,h2,h3,h4⟩:=h;obtain ⟨b1,b2,b3⟩:=hb trivial;exact ⟨tmps,defers,fn,by rw [b2,b1]; exact h1,h2,fun x=>AVV.mono hi hs hst _ _ (hre x) (h3 x),held trivial _ h4⟩
def effF (bs:List Nat) (base:Nat) (H0 H0':Heap) (v0:AV):Eff :=
 { v:=ren (sig bs base) v0,hin:=bs.zip (H0.map (renO (sig bs base))),hset:=bs.zip ((H0'.take H0.length).map (renO (sig bs base))),hnew:=(H0'.drop H0.length).map (renO (sig bs base)) }
open Classical in
theorem ajx {H0 H0' : Heap} {args0 : List AV} {v0 : AV} (bs : List Nat) (base : Nat) (hlen : bs.length = H0.length) (hnd : bs.Nodup) (hlt : ∀ b ∈ bs, b < base)
    (hl:H0.length≤H0'.length) (ha:aac (InH H0) args0) (ho:∀ (b:Nat) (o:Obj),H0[b]?=some o→o.refs (InH H0))
    {H:Heap} {w:World} {Imm Prot:Nat→Prop} {β:Bd} {cargs:List Value} (hr:HRel P w Imm β H Prot) (hargs:AVVl P w Imm β H (renL (sig bs base) args0) cargs)
    (hin:∀ p∈(effF bs base H0 H0' v0).hin,H[p.1]?=some p.2) (hnew:∀ i,i<(effF bs base H0 H0' v0).hnew.length→H[base+i]?=some .hole) :
    ∃ (β0:Bd) (Prot0:Nat→Prop),(∀ b,β0.blk b = β.blk (sig bs base b))∧HRel P w Imm β0 H0 Prot0∧AVVl P w Imm β0 H0 args0 cargs∧(∀ b,b<H0.length→(aaN H (sig bs base b)↔aaN H0 b)) ∧
     ∀ (cv:Value) (w':World) (β0':Bd) (Imm':Nat→Prop),Post P Prot0 Imm w β0 H0 Imm' w' β0' H0'→AVV P w' Imm' β0' H0' v0 cv→aaa (InH H0') v0 →
      ∃ β',Post P Prot Imm w β H Imm' w' β' (aaj H ((effF bs base H0 H0' v0).hset ++ newAt base (effF bs base H0 H0' v0).hnew)) ∧
       AVV P w' Imm' β' (aaj H ((effF bs base H0 H0' v0).hset ++ newAt base (effF bs base H0 H0' v0).hnew)) (effF bs base H0 H0' v0).v cv ∧
       aaa (InH (aaj H ((effF bs base H0 H0' v0).hset ++ newAt base (effF bs base H0 H0' v0).hnew))) (effF bs base H0 H0' v0).v:=by
 obtain ⟨σ,hσ⟩:∃ σ,σ=sig bs base:=⟨_,rfl⟩
 have hinj:∀ {i j},σ i = σ j→i=j:=fun {i j} h=>sig_inj hnd hlt (by rw [hσ] at h; exact h);have hold:∀ {i} (hi:i<H0.length),σ i=bs[i]'(by omega):=fun hi=>by rw [hσ]; exact af2 _
 have hnw:∀ {i},H0.length≤i→σ i=base+(i - H0.length):=fun hi=>by rw [hσ,af3 (by omega),hlen]
 have hget:∀ (b:Nat) (o:Obj),H0[b]?=some o→H[σ b]?=some (renO σ o):=by
  intro b o hb;obtain ⟨hbl,rfl⟩:=List.getElem?_eq_some_iff.1 hb;have:=hin (bs[b]'(by omega),renO (sig bs base) H0[b]) (by
   simp only [effF];rw [List.mem_iff_getElem];exact ⟨b,by simp; omega,by simp⟩)
  rw [hold hbl,hσ]; exact this
 have hnewH:∀ i,H0.length≤i→i<H0'.length→H[σ i]?=some .hole:=by
  intro i h1 h2;rw [hnw h1];exact hnew (i - H0.length) (by simp [effF]; omega)
 obtain ⟨H2,hH2⟩:∃ H2,H2=aaj H ((effF bs base H0 H0' v0).hset ++ newAt base (effF bs base H0 H0' v0).hnew):=⟨_,rfl⟩
 have hkeys:∀ p∈(effF bs base H0 H0' v0).hset ++ newAt base (effF bs base H0 H0' v0).hnew,∃ i,i<H0'.length∧p.1 = σ i:=by
  intro p hp;rcases List.mem_append.1 hp with hp | hp
  · simp only [effF] at hp;have hm:=(List.of_mem_zip hp).1;obtain ⟨i,hi,he⟩:=List.mem_iff_getElem.1 hm;exact ⟨i,by omega,by rw [hold (by omega)]; exact he.symm⟩
  · have hm:p.1∈(newAt base (effF bs base H0 H0' v0).hnew).map (·.1):=List.mem_map_of_mem hp
    rw [ahX,List.mem_range'_1] at hm;simp only [effF,List.length_map,List.length_drop] at hm;exact ⟨H0.length+(p.1 - base),by omega,by rw [hnw (by omega)]; omega⟩
 have hndk:(((effF bs base H0 H0' v0).hset ++ newAt base (effF bs base H0 H0' v0).hnew).map (·.1)).Nodup:=by
  rw [List.map_append,ahX];have e:(effF bs base H0 H0' v0).hset.map (·.1)=bs:=by
   simp only [effF];rw [List.map_fst_zip];simp; omega
  rw [e,List.nodup_append];refine ⟨hnd,List.nodup_range',fun a h1 b h2 he=>?_⟩;subst he;have:=hlt _ h1;rw [List.mem_range'_1] at h2; omega
 have hA:∀ (i:Nat) (o:Obj),H0'[i]?=some o→H2[σ i]?=some (renO σ o):=by
  intro i o hi;obtain ⟨hil,rfl⟩:=List.getElem?_eq_some_iff.1 hi
  by_cases hi0:i<H0.length
  · have hm:(bs[i]'(by omega),renO (sig bs base) H0'[i])∈(effF bs base H0 H0' v0).hset ++ newAt base (effF bs base H0 H0' v0).hnew:=by
     refine List.mem_append_left _ ?_;simp only [effF];rw [List.mem_iff_getElem];exact ⟨i,by simp; omega,by simp⟩
    have:=ahw (H:=H) hndk _ hm (by
     have:=hget i _ (List.getElem?_eq_getElem hi0);rw [hold hi0] at this;exact (List.getElem?_eq_some_iff.1 this).1)
    rw [hH2,hold hi0,this,hσ]
  · have hm:(base+(i - H0.length),renO (sig bs base) H0'[i])∈(effF bs base H0 H0' v0).hset ++ newAt base (effF bs base H0 H0' v0).hnew:=by
     refine List.mem_append_right _ ?_;have:=alQ (effF bs base H0 H0' v0).hnew base (i - H0.length) (by simp [effF]; omega);have e:(effF bs base H0 H0' v0).hnew[i - H0.length]'(by simp [effF]; omega)=renO (sig bs base) H0'[i]:=by
      simp only [effF,List.getElem_map,List.getElem_drop];congr 2; omega
     rw [e] at this; exact this
    have:=ahw (H:=H) hndk _ hm (by
     have:=hnewH i (by omega) hil;rw [hnw (by omega)] at this;exact (List.getElem?_eq_some_iff.1 this).1)
    rw [hH2,hnw (by omega),this,hσ]
 have hB:∀ x,(∀ i,i<H0'.length→σ i≠x)→H2[x]?=H[x]?:=by
  intro x hx;rw [hH2];refine af4 fun p hp=>?_;obtain ⟨i,h1,h2⟩:=hkeys p hp;rw [h2]; exact hx i h1
 let β0:Bd:=⟨fun b=>β.blk (σ b),fun b=>β.cap (σ b)⟩
 let Prot0:Nat→Prop:=fun k=>Prot k∨∃ x o,H[x]?=some o∧o.live∧(∀ i,i<H0.length→σ i≠x)∧β.blk x=k
 have hemb:Emb σ β0 H0 β H:=⟨hget,fun b _=>⟨rfl,rfl⟩⟩
 have small:∀ x:Nat×Nat,InH H0 x→Small H0.length x:=fun x ⟨o,ho,_⟩=>(List.getElem?_eq_some_iff.1 ho).1;have held0:∀ {b:Nat} {o:Obj},H0[b]?=some o→o.live→∀ fz,Held Imm β0 Prot0 fz b↔Held Imm β Prot fz (σ b):=by
  intro b o hb hlv fz;cases fz with
  | true=>simp [Held,β0]
  | false =>
   simp only [Held,Bool.false_eq_true,if_false];refine and_congr_right fun hni=>⟨fun h hp=>h (.inl hp),fun h hp=>?_⟩
   rcases hp with hp | ⟨x,o',h1,h2,h3,h4⟩
   · exact h hp
   · exact h3 b (List.getElem?_eq_some_iff.1 hb).1 (hr.inj _ _ _ _ (hget b o hb) h1 (adO.2 hlv) h2 hni h4.symm)
 have hr0:HRel P w Imm β0 H0 Prot0:=by
  refine ⟨fun b o hb=>?_,fun b b' o o' h1 h2 l1 l2 hni he=>?_,ho,hr.imm,fun k hk=>?_,hr.glob⟩
  · exact (hemb.orel hb ((ho b o hb).mono small) (held0 hb)).1 (hr.objs _ _ (hget b o hb))
  · exact hinj (hr.inj _ _ _ _ (hget b o h1) (hget b' o' h2) (adO.2 l1) (adO.2 l2) hni he)
  · rcases hk with hk | ⟨x,o,h1,h2,_,rfl⟩
    · exact hr.prot k hk
    · exact hr.ada h1 h2
 have hargs0:AVVl P w Imm β0 H0 args0 cargs:=by
  rw [← hσ] at hargs;exact (hemb.avvl _ _ (aac.mono small _ ha)).1 hargs
 refine ⟨β0,Prot0,fun b=>by rw [← hσ],hr0,hargs0,fun b hb=>by rw [← hσ]; exact hemb.loop hb,fun cv w' β0' Imm' hp hv hvr=>?_⟩
 let β':Bd:=⟨fun x=>if h:∃ i,i<H0'.length∧σ i=x then β0'.blk h.choose else β.blk x,fun x=>if h:∃ i,i<H0'.length∧σ i=x then β0'.cap h.choose else β.cap x⟩
 have hβ:∀ i,i<H0'.length→β'.blk (σ i) = β0'.blk i∧β'.cap (σ i) = β0'.cap i:=by
  intro i hi;have hex:∃ j,j<H0'.length∧σ j = σ i:=⟨i,hi,rfl⟩
  have hc:hex.choose=i:=hinj hex.choose_spec.2;simp only [β',dif_pos hex,hc,and_self]
 have hβn:∀ x,(∀ i,i<H0'.length→σ i≠x)→β'.blk x = β.blk x∧β'.cap x = β.cap x:=by
  intro x hx;have hnex:¬ ∃ i,i<H0'.length∧σ i=x:=fun ⟨i,h1,h2⟩=>hx i h1 h2;simp only [β',dif_neg hnex,and_self]
 have hemb':Emb σ β0' H0' β' H2:=⟨hA,fun b hb=>hβ b hb⟩
 have small':∀ x:Nat×Nat,InH H0' x→Small H0'.length x:=fun x ⟨o,ho,_⟩=>(List.getElem?_eq_some_iff.1 ho).1;have split:∀ x,(∃ i,i<H0'.length∧σ i=x)∨∀ i,i<H0'.length→σ i≠x:=by
  intro x
  by_cases hx:∃ i,i<H0'.length∧σ i=x
  · exact .inl hx
  · exact .inr fun i h1 h2=>hx ⟨i,h1,h2⟩
 have inOld:∀ {i v},i<H0'.length→InH H (σ i,v)→InH H0 (i,v)∧i<H0.length:=by
  intro i v hi ⟨o,h1,h2⟩
  by_cases hi0:i<H0.length
  · refine ⟨?_,hi0⟩;have:=hget i _ (List.getElem?_eq_getElem hi0);simp only at h1;rw [this] at h1; cases h1;exact ⟨_,List.getElem?_eq_getElem hi0,ats.1 h2⟩
  · have:=hnewH i (by omega) hi;simp only at h1;rw [this] at h1; cases h1;exact h2.elim
 have ade:aaG β H β' H2:=by
  refine ⟨?_,?_,?_,?_,?_⟩
  · intro b hb hlv;rcases split b with ⟨i,hi,rfl⟩ | hx
    · obtain ⟨k1,k2⟩:=inOld hi hb;obtain ⟨g1,g2⟩:=hp.step.box i k1 ((hemb'.box hi).1 hlv);exact ⟨(hemb.box k2).2 g1,(hβ i hi).1.trans g2⟩
    · unfold adi at hlv ⊢;rw [hB b hx] at hlv;exact ⟨hlv,(hβn b hx).1⟩
  · intro b hb hlv;rcases split b with ⟨i,hi,rfl⟩ | hx
    · obtain ⟨k1,k2⟩:=inOld hi hb;obtain ⟨g1,g2⟩:=hp.step.it i k1 ((hemb'.it hi).1 hlv);exact ⟨(hemb.it k2).2 g1,(hβ i hi).1.trans g2⟩
    · unfold aeW at hlv ⊢;rw [hB b hx] at hlv;exact ⟨hlv,(hβn b hx).1⟩
  · intro b hb hlv;rcases split b with ⟨i,hi,rfl⟩ | hx
    · obtain ⟨k1,k2⟩:=inOld hi hb;obtain ⟨g1,g2⟩:=hp.step.map i k1 ((hemb'.map hi).1 hlv);exact ⟨(hemb.map k2).2 g1,(hβ i hi).1.trans g2⟩
    · unfold adh at hlv ⊢;rw [hB b hx] at hlv;exact ⟨hlv,(hβn b hx).1⟩
  · intro b ver esz k es hb hlv;rcases split b with ⟨i,hi,rfl⟩ | hx
    · obtain ⟨k1,k2⟩:=inOld hi hb;obtain ⟨es0,g0,rfl⟩:=(hemb'.arr hi).1 hlv;obtain ⟨k0,es1,g1,g2,g3,g4⟩:=hp.step.arr i ver esz k es0 k1 g0;refine ⟨k0,renL σ es1,(hemb.arr k2).2 ⟨_,g1,rfl⟩,by rw [ab6,ab6]; exact g2,by rw [adM,adM]; exact g3,fun hn=>?_⟩;rw [adM] at hn;rw [(hβ i hi).1,(hβ i hi).2]; exact g4 hn
    · unfold aaI at hlv ⊢;rw [hB b hx] at hlv;exact ⟨k,es,hlv,Nat.le_refl _,Iff.rfl,fun _=>hβn b hx⟩
  · intro b hb hlv;rcases split b with ⟨i,hi,rfl⟩ | hx
    · obtain ⟨k1,k2⟩:=inOld hi hb;obtain ⟨g1,g2⟩:=hp.step.loop i k1 ((hemb'.loop hi).1 hlv);exact ⟨(hemb.loop k2).2 g1,(hβ i hi).1.trans g2⟩
    · unfold aaN at hlv ⊢;rw [hB b hx] at hlv;exact ⟨hlv,(hβn b hx).1⟩
 have hinn:∀ x,InH H x→InH H2 x:=by
  rintro ⟨b,v⟩ hb;rcases split b with ⟨i,hi,rfl⟩ | hx
  · obtain ⟨k1,_⟩:=inOld hi hb;exact (hemb'.inH (x:=(i,v)) hi).2 (hp.inn _ k1)
  · obtain ⟨o,h1,h2⟩:=hb;exact ⟨o,by simp only; rw [hB b hx]; exact h1,h2⟩
 have prot0:∀ {x:Nat} {o:Obj},(∀ i,i<H0'.length→σ i≠x)→H[x]?=some o→o.live→Prot0 (β.blk x):=by
  intro x o hx h1 h2;exact .inr ⟨x,o,h1,h2,fun i hi=>hx i (by omega),rfl⟩
 have mut':∀ {i:Nat} {o:Obj},H0'[i]?=some o→o.live→¬ Imm' (β0'.blk i)→¬ Prot0 (β0'.blk i):=by
  intro i o h1 h2 h3;exact (hp.rel.objs i o h1).mut h2 h3
 have hrel:HRel P w' Imm' β' H2 Prot:=by
  refine ⟨fun x o hx=>?_,fun x x' o o' h1 h2 l1 l2 hni he=>?_,fun x o hx=>?_,hp.rel.imm,fun k hk=>hp.rel.prot k (.inl hk),hp.rel.glob⟩
  · rcases split x with ⟨i,hi,rfl⟩ | hn
    · have hg:=hA i _ (List.getElem?_eq_getElem hi);rw [hg] at hx; cases hx;refine (hemb'.orel (Prot0:=Prot0) (List.getElem?_eq_getElem hi) ((hp.rel.refs i _ (List.getElem?_eq_getElem hi)).mono small') (fun hlv fz=>?_)).2 (hp.rel.objs i _ (List.getElem?_eq_getElem hi));cases fz with
      | true=>simp [Held,(hβ i hi).1]
      | false =>
       simp only [Held,Bool.false_eq_true,if_false,(hβ i hi).1];exact ⟨fun h=>⟨h.1,fun hp=>h.2 (.inl hp)⟩,fun h=>⟨h.1,mut' (List.getElem?_eq_getElem hi) hlv h.1⟩⟩
    · rw [hB x hn] at hx;refine ORel.carry hp.imm (fun k hk=>hp.ext.same k (.inr hk)) ade (hr.refs x o hx) (fun hlv=>⟨hp.ext.same _ (.inl (prot0 hn hx hlv)),hβn x hn⟩) (fun hlv fz hh=>?_) (hr.objs x o hx);have hp0:=prot0 hn hx hlv;cases fz with
      | true =>
       simp only [Held,if_true] at hh ⊢;rw [(hβn x hn).1]; exact hp.imm _ hh
      | false =>
       simp only [Held,Bool.false_eq_true,if_false] at hh ⊢;rw [(hβn x hn).1];exact ⟨fun hi=>(hp.fresh _ hi).elim hh.1 (fun h=>h hp0),hh.2⟩
  · rcases split x with ⟨i,hi,rfl⟩ | hn <;> rcases split x' with ⟨j,hj,rfl⟩ | hn'
    · have g1:=hA i _ (List.getElem?_eq_getElem hi);have g2:=hA j _ (List.getElem?_eq_getElem hj);rw [g1] at h1; cases h1;rw [g2] at h2; cases h2;rw [(hβ i hi).1,(hβ j hj).1] at he;rw [(hβ i hi).1] at hni;rw [hp.rel.inj i j _ _ (List.getElem?_eq_getElem hi) (List.getElem?_eq_getElem hj) (adO.1 l1) (adO.1 l2) hni he]
    · have g1:=hA i _ (List.getElem?_eq_getElem hi);rw [g1] at h1; cases h1;rw [hB x' hn'] at h2;rw [(hβ i hi).1,(hβn x' hn').1] at he;rw [(hβ i hi).1] at hni;exact (mut' (List.getElem?_eq_getElem hi) (adO.1 l1) hni (he▸prot0 hn' h2 l2)).elim
    · have g2:=hA j _ (List.getElem?_eq_getElem hj);rw [g2] at h2; cases h2;rw [hB x hn] at h1;rw [(hβ j hj).1,(hβn x hn).1] at he;rw [(hβn x hn).1] at hni;exact (mut' (List.getElem?_eq_getElem hj) (adO.1 l2) (he▸hni) (he▸prot0 hn h1 l1)).elim
    · rw [hB x hn] at h1;rw [hB x' hn'] at h2;rw [(hβn x hn).1,(hβn x' hn').1] at he;rw [(hβn x hn).1] at hni;exact hr.inj _ _ _ _ h1 h2 l1 l2 (fun hi=>hni (hp.imm _ hi)) he
  · rcases split x with ⟨i,hi,rfl⟩ | hn
    · have hg:=hA i _ (List.getElem?_eq_getElem hi);rw [hg] at hx; cases hx;rw [asJ];exact (hp.rel.refs i _ (List.getElem?_eq_getElem hi)).mono (fun y hy=>(hemb'.inH (small' y hy)).2 hy)
    · rw [hB x hn] at hx;exact (hr.refs x o hx).mono hinn
 refine ⟨β',?_,?_,?_⟩
 · rw [← hH2];refine ⟨hp.imm,fun k hk=>(hp.fresh k hk).imp id (fun h h'=>h (.inl h')),⟨hp.ext.size,fun k hk=>hp.ext.same k (hk.imp .inl id),hp.ext.io⟩,ade,hrel,hinn,fun b hb=>?_⟩;rcases split b with ⟨i,hi,rfl⟩ | hx
   · by_cases hi0:i<H0.length
     · exact (hemb'.loop hi).2 (hp.loop i ((hemb.loop hi0).1 hb))
     · obtain ⟨L,hL⟩:=hb;rw [hnewH i (by omega) hi] at hL; cases hL
   · unfold aaN at hb ⊢;rw [hB b hx]; exact hb
 · rw [← hH2];show AVV P w' Imm' β' H2 (ren (sig bs base) v0) cv;rw [← hσ];exact (hemb'.avv _ _ (aaa.mono small' _ hvr)).2 hv
 · rw [← hH2];show aaa (InH H2) (ren (sig bs base) v0);rw [← hσ,aj7];exact aaa.mono (fun y hy=>(hemb'.inH (small' y hy)).2 hy) _ hvr
theorem abp.frame {f : FuncId} {H0 H0' : Heap} {args0 : List AV} {v0 : AV} (h : abp P f H0 args0 H0' v0) (bs : List Nat) (base : Nat) (hlen : bs.length = H0.length) (hnd : bs.Nodup) (hlt : ∀ b ∈ bs, b < base)
    (hl:H0.length≤H0'.length) (ha:aac (InH H0) args0) (ho:∀ (b:Nat) (o:Obj),H0[b]?=some o→o.refs (InH H0)) :
    aou P f (renL (sig bs base) args0) base (effF bs base H0 H0' v0):=by
 refine ⟨h.1,fun H w Imm Prot β cargs hr hargs _ hin hnew=>?_⟩;obtain ⟨β0,Prot0,-,hr0,hargs0,-,back⟩:=ajx bs base hlen hnd hlt hl ha ho hr hargs hin hnew;refine (h.2 w Imm Prot0 β0 cargs hr0 hargs0 ha).mono ?_;rintro e w' ⟨cv,β0',Imm',rfl,hp,hv,hvr⟩;obtain ⟨β',b1,b2,b3⟩:=back cv w' β0' Imm' hp hv hvr;exact ⟨cv,β',Imm',rfl,b1,b2,b3⟩
theorem ad5.frame {b : Nat} {H0 H0' : Heap} {args0 : List AV} {v0 : AV} (h : ad5 P b H0 args0 H0' v0) (bs : List Nat) (base : Nat) (hlen : bs.length = H0.length) (hnd : bs.Nodup) (hlt : ∀ b ∈ bs, b < base)
    (hl:H0.length≤H0'.length) (ha:aac (InH H0) args0) (ho:∀ (b:Nat) (o:Obj),H0[b]?=some o→o.refs (InH H0)) :
    ajR P (sig bs base b) (renL (sig bs base) args0) base (effF bs base H0 H0' v0):=by
 intro H w Imm Prot β cargs hr hargs _ hin hnew;obtain ⟨β0,Prot0,hb0,hr0,hargs0,hlp,back⟩:=ajx bs base hlen hnd hlt hl ha ho hr hargs hin hnew;have hbl:b<H0.length:=by
  obtain ⟨L,hL⟩:=h.1;exact (List.getElem?_eq_some_iff.1 hL).1
 refine ⟨(hlp b hbl).2 h.1,?_⟩;obtain ⟨f,tmps,assign,body,h1,h2⟩:=h.2 w Imm Prot0 β0 cargs hr0 hargs0 ha;rw [hb0] at h1 h2;refine ⟨f,tmps,assign,body,h1,fun caller rest=>?_⟩;obtain ⟨cv,w',β0',Imm',g1,hp,hv,hvr⟩:=h2 caller rest;obtain ⟨β',b1,b2,b3⟩:=back cv w' β0' Imm' hp hv hvr;exact ⟨cv,w',β',Imm',g1,b1,b2,b3⟩
end
end Go.Abs
namespace Go.Abs
variable [Gl]
def idxN (b:Nat):List Nat→Nat→Option Nat
 | [],_=>none
 | x::r,i=>bif Nat.beq x b then some i else idxN b r (i+1)
theorem apv {b:Nat}:∀ {l:List Nat} {i j:Nat},idxN b l i=some j→i≤j∧l[j - i]?=some b
 | [],_,_,h=>by simp [idxN] at h
 | x::r,i,j,h=>by
  simp only [idxN] at h;cases hb:Nat.beq x b
  · simp only [hb,cond_false] at h;obtain ⟨h1,h2⟩:=apv h;refine ⟨by omega,?_⟩;have e:j - i=(j - (i+1))+1:=by omega
    rw [e,List.getElem?_cons_succ]; exact h2
  · simp only [hb,cond_true,Option.some.injEq] at h;subst h;simp [beq2 hb]
section
variable (bs:List Nat)
mutual
def ahi:AV→Option AV
 | .p v=>some (.p v)
 | .ptr b path=>match idxN b bs 0 with
  | some i=>some (.ptr i path)
  | none=>none
 | .eptr b ver esz i path=>match idxN b bs 0 with
  | some j=>some (.eptr j ver esz i path)
  | none=>none
 | .sl b ver esz off len=>match idxN b bs 0 with
  | some j=>some (.sl j ver esz off len)
  | none=>none
 | .map b=>match idxN b bs 0 with
  | some j=>some (.map j)
  | none=>none
 | .func f fi ca=>match aeS fi,aeS ca with
  | some a,some b=>some (.func f a b)
  | _,_=>none
 | .st u fs=>match aeS fs with
  | some a=>some (.st u a)
  | none=>none
 | .tup vs=>match aeS vs with
  | some a=>some (.tup a)
  | none=>none
def aeS:List AV→Option (List AV)
 | []=>some []
 | v::r=>match ahi v,aeS r with
  | some a,some b=>some (a::b)
  | _,_=>none
end
def arC:Obj→Option Obj
 | .box fz t=>match ahi bs t with
  | some a=>some (.box fz a)
  | none=>none
 | .arr k ver esz es=>match aeS bs es with
  | some a=>some (.arr k ver esz a)
  | none=>none
 | .map fz es=>some (.map fz es)
 | .siter s n=>some (.siter s n)
 | .dead=>some .dead
 | _=>none
def ak2 (H:Heap):List Nat→Option Heap
 | []=>some []
 | b::r=>match H[b]? with
  | some o=>match arC bs o,ak2 H r with
   | some a,some t=>some (a::t)
   | _,_=>none
  | none=>none
end
section
variable {bs:List Nat} {base:Nat}
theorem ajZ {b i:Nat} (h:idxN b bs 0=some i):sig bs base i=b:=by
 have:=(apv h).2;simp only [Nat.sub_zero] at this;simp [sig,this]
mutual
theorem aoE:∀ {a a0:AV},ahi bs a=some a0→ren (sig bs base) a0=a
 | .p v,a0,h=>by simp only [ahi,Option.some.injEq] at h; subst h; rfl
 | .ptr b path,a0,h=>by
  simp only [ahi] at h
  split at h
  · rename_i i hi;simp only [Option.some.injEq] at h; subst h;simp only [ren,ajZ hi]
  · simp at h
 | .eptr b ver esz i path,a0,h=>by
  simp only [ahi] at h
  split at h
  · rename_i i hi;simp only [Option.some.injEq] at h; subst h;simp only [ren,ajZ hi]
  · simp at h
 | .sl b ver esz off len,a0,h=>by
  simp only [ahi] at h
  split at h
  · rename_i i hi;simp only [Option.some.injEq] at h; subst h;simp only [ren,ajZ hi]
  · simp at h
 | .map b,a0,h=>by
  simp only [ahi] at h
  split at h
  · rename_i i hi;simp only [Option.some.injEq] at h; subst h;simp only [ren,ajZ hi]
  · simp at h
 | .func f fi ca,a0,h=>by
  simp only [ahi] at h
  split at h
  · rename_i a b h1 h2;simp only [Option.some.injEq] at h; subst h;simp only [ren,acJ h1,acJ h2]
  · simp at h
 | .st u fs,a0,h=>by
  simp only [ahi] at h
  split at h
  · rename_i a h1;simp only [Option.some.injEq] at h; subst h;simp only [ren,acJ h1]
  · simp at h
 | .tup vs,a0,h=>by
  simp only [ahi] at h
  split at h
  · rename_i a h1;simp only [Option.some.injEq] at h; subst h;simp only [ren,acJ h1]
  · simp at h
theorem acJ:∀ {l l0:List AV},aeS bs l=some l0→renL (sig bs base) l0=l
 | [],l0,h=>by simp only [aeS,Option.some.injEq] at h; subst h; rfl
 | v::r,l0,h=>by
  simp only [aeS] at h
  split at h
  · rename_i a b h1 h2;simp only [Option.some.injEq] at h; subst h;simp only [renL,aoE h1,acJ h2]
  · simp at h
end
theorem arB {o o0:Obj} (h:arC bs o=some o0):renO (sig bs base) o0=o:=by
 cases o <;> simp only [arC] at h
 case box fz t =>
  split at h
  · rename_i a h1;simp only [Option.some.injEq] at h; subst h;simp only [renO,aoE h1]
  · simp at h
 case arr k ver esz es =>
  split at h
  · rename_i a h1;simp only [Option.some.injEq] at h; subst h;simp only [renO,acJ h1]
  · simp at h
 case hole=>simp at h
 case loop=>simp at h
 all_goals (simp only [Option.some.injEq] at h; subst h; rfl)
theorem ak1 {H:Heap}:∀ {l:List Nat} {H0:Heap},ak2 bs H l=some H0→H0.length=l.length∧∀ p∈l.zip (H0.map (renO (sig bs base))),H[p.1]?=some p.2
 | [],H0,h=>by simp only [ak2,Option.some.injEq] at h; subst h; simp
 | b::r,H0,h=>by
  simp only [ak2] at h
  split at h
  case h_2=>simp at h
  rename_i o hb
  split at h
  case h_2=>simp at h
  rename_i a t h1 h2;simp only [Option.some.injEq] at h; subst h;obtain ⟨i1,i2⟩:=ak1 h2;refine ⟨by simp [i1],fun p hp=>?_⟩;simp only [List.map_cons,List.zip_cons_cons,List.mem_cons] at hp;rcases hp with rfl | hp
  · simp only [arB h1]; exact hb
  · exact i2 p hp
end
mutual
def idsA:AV→List Nat→List Nat
 | .p _,acc=>acc
 | .ptr b _,acc | .eptr b _ _ _ _,acc | .sl b _ _ _ _,acc | .map b,acc=>b::acc
 | .func _ fi ca,acc=>idsL fi (idsL ca acc)
 | .st _ fs,acc | .tup fs,acc=>idsL fs acc
def idsL:List AV→List Nat→List Nat
 | [],acc=>acc
 | v::r,acc=>idsA v (idsL r acc)
end
def idsO:Obj→List Nat
 | .box _ t=>idsA t []
 | .arr _ _ _ es=>idsL es []
 | _=>[]
def asm (H:Heap):Nat→List Nat→List Nat→List Nat
 | 0,_,acc=>acc
 | _,[],acc=>acc
 | n+1,b::r,acc=>match idxN b acc 0 with
  | some _=>asm H n r acc
  | none=>asm H n (match H[b]? with
   | some o=>idsO o ++ r
   | none=>r) (b::acc)
def nodupB:List Nat→Bool
 | []=>true
 | x::r=>(match idxN x r 0 with
  | some _=>false
  | none=>true) && nodupB r
theorem al9 {b:Nat}:∀ {l:List Nat} {i:Nat},idxN b l i=none→b ∉ l
 | [],_,_=>by simp
 | x::r,i,h=>by
  simp only [idxN] at h;cases hb:Nat.beq x b
  · simp only [hb,cond_false] at h;have:=al9 h;simp only [List.mem_cons,not_or];refine ⟨fun e=>?_,this⟩;subst e; rw [Nat.beq_refl] at hb; cases hb
  · simp [hb] at h
theorem alM:∀ {l:List Nat},nodupB l=true→l.Nodup
 | [],_=>List.nodup_nil
 | x::r,h=>by
  simp only [nodupB,Bool.and_eq_true] at h;rw [List.nodup_cons];refine ⟨?_,alM h.2⟩;have h1:=h.1
  split at h1
  · simp at h1
  · rename_i hn; exact al9 hn
def inB (H:Heap) (b v:Nat):Bool:=match H[b]? with
 | some .hole | none=>false
 | some (.arr _ ver _ _)=>Nat.ble v ver
 | some _=>true
theorem inB_ok {H:Heap} {b v:Nat} (h:inB H b v=true):InH H (b,v):=by
 unfold inB at h
 split at h
 · simp at h
 · simp at h
 · rename_i k ver esz es ho; exact ⟨_,ho,ble2 h⟩
 · rename_i o hn1 hn2 ho;refine ⟨o,ho,?_⟩;cases o with
   | hole=>exact (hn1 rfl).elim
   | arr k ver esz es=>exact (hn2 _ _ _ _ rfl).elim
   | _=>trivial
mutual
def ana (H:Heap):AV→Bool
 | .p _=>true
 | .ptr b _ | .map b=>inB H b 0
 | .eptr b ver _ _ _ | .sl b ver _ _ _=>inB H b ver
 | .func _ fi ca=>afv H fi && afv H ca
 | .st _ fs | .tup fs=>afv H fs
def afv (H:Heap):List AV→Bool
 | []=>true
 | v::r=>ana H v && afv H r
end
mutual
theorem aj8 {H:Heap}:∀ {a:AV},ana H a=true→aaa (InH H) a
 | .p _,_=>by simp [aaa]
 | .ptr _ _,h | .map _,h | .eptr _ _ _ _ _,h | .sl _ _ _ _ _,h=>by
  simp only [ana] at h; simp only [aaa]; exact inB_ok h
 | .func _ fi ca,h=>by
  simp only [ana,Bool.and_eq_true] at h;simp only [aaa]; exact ⟨acL h.1,acL h.2⟩
 | .st _ _,h | .tup _,h=>by
  simp only [ana] at h;simp only [aaa]; exact acL h
theorem acL {H:Heap}:∀ {l:List AV},afv H l=true→aac (InH H) l
 | [],_=>by simp [aac]
 | v::r,h=>by
  simp only [afv,Bool.and_eq_true] at h;simp only [aac]; exact ⟨aj8 h.1,acL h.2⟩
end
def ao8 (H:Heap):Obj→Bool
 | .box _ t=>ana H t
 | .arr _ _ _ es=>afv H es
 | .loop _=>false
 | _=>true
theorem alD {H:Heap} {o:Obj} (h:ao8 H o=true):o.refs (InH H):=by
 cases o <;> simp only [ao8] at h <;> simp only [Obj.refs]
 · exact aj8 h
 · exact acL h
 · simp at h
def allO (p:Obj→Bool):List Obj→Bool
 | []=>true
 | o::r=>p o && allO p r
theorem aiU {p:Obj→Bool}:∀ {l:List Obj},allO p l=true→∀ o∈l,p o=true
 | [],_,o,h=>by simp at h
 | a::r,h,o,ho=>by
  simp only [allO,Bool.and_eq_true] at h;rcases List.mem_cons.1 ho with rfl | ho
  · exact h.1
  · exact aiU h.2 o ho
def allN (n:Nat):List Nat→Bool
 | []=>true
 | x::r=>Nat.ble (x+1) n && allN n r
theorem aoo {n:Nat}:∀ {l:List Nat},allN n l=true→∀ x∈l,x<n
 | [],_,o,h=>by simp at h
 | a::r,h,o,ho=>by
  simp only [allN,Bool.and_eq_true] at h;rcases List.mem_cons.1 ho with rfl | ho
  · exact ble2 h.1
  · exact aoo h.2 o ho
def akj:Obj→Bool
 | .hole=>false
 | _=>true
def aml (run:List AV→Heap→Option (AV×Heap)) (args:List AV) (H:Heap):Option Eff :=
 let bs:=asm H 1000 (idsL args []) []
 match aeS bs args,ak2 bs H bs with
 | some args0,some H0=>bif nodupB bs && (allN H.length bs && (afv H0 args0 && allO (ao8 H0) H0)) then
  match run args0 H0 with
  | some (v0,H1)=>bif Nat.ble H0.length H1.length && (allO akj (H1.take H0.length)) then some (effF bs H.length H0 H1 v0) else none
  | none=>none
  else none
 | _,_=>none
theorem ail {P : Program} {f : FuncId} {run : List AV → Heap → Option (AV × Heap)} (hrun : ∀ args H v H', run args H = some (v, H') → abp P f H args H' v) {args : List AV} {H : Heap} {e : Eff} (h : aml run args H = some e) :
    aou P f args H.length e∧amO H e:=by
 unfold aml at h;dsimp only at h
 split at h
 case h_2=>simp at h
 rename_i args0 H0 h1 h2;simp only [Bool.cond_eq_ite,Option.ite_none_right_eq_some,Bool.and_eq_true] at h;obtain ⟨⟨g1,g2,g3,g4⟩,h⟩:=h
 split at h
 case h_2=>simp at h
 rename_i v0 H1 h3;simp only [Option.ite_none_right_eq_some,Option.some.injEq] at h;obtain ⟨⟨g5,g7⟩,rfl⟩:=h;obtain ⟨k1,k2⟩:=ak1 (base:=H.length) h2;have hf:=(hrun _ _ _ _ h3).frame _ H.length k1.symm (alM g1) (aoo g2) (ble2 g5) (acL g3) (fun b o hb=>alD (aiU g4 o (List.mem_of_getElem? hb)));rw [acJ h1] at hf;refine ⟨hf,k2,fun p hp=>?_⟩;simp only [effF] at hp;have hm:=List.of_mem_zip hp;refine ⟨aoo g2 _ hm.1,fun he=>?_⟩;obtain ⟨o,ho,he2⟩:=List.mem_map.1 hm.2;rw [he] at he2;have:=aiU g7 o ho;rw [av1.1 he2] at this;simp [akj] at this
mutual
theorem ao0:∀ v:AV,ren (fun i=>i) v=v
 | .p _ | .sl .. | .eptr .. | .ptr .. | .map _=>rfl
 | .st u vs=>by simp only [ren,ae3 vs]
 | .tup vs=>by simp only [ren,ae3 vs]
 | .func f a b=>by simp only [ren,ae3 a,ae3 b]
theorem ae3:∀ l:List AV,renL (fun i=>i) l=l
 | []=>rfl
 | v::l=>by simp only [renL,ao0 v,ae3 l]
end
theorem alk:∀ e:Env,ajn (fun i=>i) e=e
 | []=>rfl
 | (x,v)::r=>by simp only [ajn,ao0 v,alk r]
theorem azE (o:Obj):renO (fun i=>i) o=o:=by
 cases o <;> simp only [renO,ao0,ae3,alk]
theorem aw5 (n:Nat):sig (List.range n) n=fun i=>i:=by
 funext i
 by_cases h:i<n
 · rw [af2 (by simpa using h)]; simp
 · rw [af3 (by simpa using h)]; simp; omega
def idz (H:Heap):List (Nat×Obj):=(List.range H.length).zip H
theorem azx {H:Heap} {p:Nat×Obj} (h:p∈idz H):H[p.1]?=some p.2:=by
 rw [idz,List.mem_iff_getElem] at h;obtain ⟨i,hi,he⟩:=h;rw [List.getElem_zip] at he;subst he;simp
def envB (H:Heap):Env→Bool
 | []=>true
 | (_,v)::r=>ana H v && envB H r
theorem atD {H:Heap}:∀ {e:Env},envB H e=true→∀ x,aaa (InH H) (getE e x)
 | [],_,x=>by simp [getE,aaa]
 | (y,v)::r,h,x=>by
  simp only [envB,Bool.and_eq_true] at h;simp only [getE]
  split
  · exact aj8 h.1
  · exact atD h.2 x
def axh (H:Heap):Obj→Bool
 | .loop L=>envB H L.env
 | o=>ao8 H o
theorem asK {H:Heap} {o:Obj} (h:axh H o=true):o.refs (InH H):=by
 cases o <;> first
  | exact alD h
  | exact atD h
def anW (run:Nat→Heap→List AV→Option (Heap×AV)) (b:Nat) (args:List AV) (H:Heap):Option Eff :=
 bif afv H args && allO (axh H) H then
  match run b H args with
  | some (H1,v)=>bif Nat.ble H.length H1.length && (allO akj (H1.take H.length)) then some { v,hin:=idz H,hset:=(List.range H.length).zip (H1.take H.length),hnew:=H1.drop H.length } else none
  | none=>none
 else none
theorem aqU {P : Program} {run : Nat → Heap → List AV → Option (Heap × AV)} (hrun : ∀ b H args H' v, run b H args = some (H', v) → ad5 P b H args H' v) {b : Nat} {args : List AV} {H : Heap} {e : Eff} (h : anW run b args H = some e) :
    ajR P b args H.length e∧amO H e:=by
 unfold anW at h;simp only [Bool.cond_eq_ite,Option.ite_none_right_eq_some,Bool.and_eq_true] at h;obtain ⟨⟨g3,g4⟩,h⟩:=h
 split at h
 case h_2=>simp at h
 rename_i H1 v0 h3;simp only [Option.ite_none_right_eq_some,Option.some.injEq] at h;obtain ⟨⟨g5,g7⟩,rfl⟩:=h;have hf:=(hrun _ _ _ _ _ h3).frame (List.range H.length) H.length (by simp) List.nodup_range (fun b hb=>by simpa using hb) (ble2 g5) (acL g3) (fun b o hb=>asK (aiU g4 o (List.mem_of_getElem? hb)));have e:effF (List.range H.length) H.length H H1 v0 = { v:=v0,hin:=idz H,hset:=(List.range H.length).zip (H1.take H.length),hnew:=H1.drop H.length }:=by
  simp only [effF,aw5,ao0];rw [show (renO fun i=>i)=id from funext azE,List.map_id,List.map_id,List.map_id,idz]
 rw [e,aw5,ae3] at hf;refine ⟨hf,fun p hp=>azx hp,fun p hp=>?_⟩;have hm:=List.of_mem_zip hp;refine ⟨by simpa using hm.1,fun he=>?_⟩;have:=aiU g7 p.2 hm.2;rw [he] at this;simp [akj] at this
end Go.Abs
namespace Go.Abs
variable [Gl]
inductive RT where
 | lf
 | vl (v:AV)
 | nd (a b c d:RT)
inductive Q4 where | a | b | c | d
def q4 (n:Nat):Q4:=match n with
 | 0=>.a
 | 1=>.b
 | 2=>.c
 | _=>.d
def pathOf:Nat→Nat→List Q4
 | 0,_=>[]
 | k+1,n=>q4 (n % 4)::pathOf k (n / 4)
noncomputable def asi (p:List Q4):RT→AV :=
 List.rec (motive:=fun _=>RT→AV) (fun R=>RT.rec (motive:=fun _=>AV) (.p .undef) (fun v=>v) (fun _ _ _ _ _ _ _ _=>.p .undef) R)
  (fun q _ ih R=>RT.rec (motive:=fun _=>AV) (.p .undef) (fun _=>.p .undef) (fun a b c d _ _ _ _=>Q4.rec (motive:=fun _=>AV) (ih a) (ih b) (ih c) (ih d) q) R) p
noncomputable def rsetP (v:AV) (p:List Q4):RT→RT :=
 List.rec (motive:=fun _=>RT→RT) (fun _=>.vl v)
  (fun q _ ih R=>RT.rec (motive:=fun _=>RT)
   (Q4.rec (motive:=fun _=>RT) (.nd (ih .lf) .lf .lf .lf) (.nd .lf (ih .lf) .lf .lf) (.nd .lf .lf (ih .lf) .lf) (.nd .lf .lf .lf (ih .lf)) q)
   (fun _=>Q4.rec (motive:=fun _=>RT) (.nd (ih .lf) .lf .lf .lf) (.nd .lf (ih .lf) .lf .lf) (.nd .lf .lf (ih .lf) .lf) (.nd .lf .lf .lf (ih .lf)) q)
   (fun a b c d _ _ _ _=>Q4.rec (motive:=fun _=>RT) (.nd (ih a) b c d) (.nd a (ih b) c d) (.nd a b (ih c) d) (.nd a b c (ih d)) q) R) p
noncomputable def rget (k:Nat) (R:RT) (n:Nat):AV:=bif Nat.ble (n+1) (4 ^ k) then asi (pathOf k n) R else .p .undef
noncomputable def rset (k:Nat) (R:RT) (n:Nat) (v:AV):RT:=rsetP v (pathOf k n) R
theorem aoY:∀ (p:List Q4),asi p .lf=.p .undef
 | []=>rfl
 | _::_=>rfl
theorem ajm (v:AV):∀ (p:List Q4) (R:RT),asi p (rsetP v p R)=v
 | [],_=>rfl
 | x::p,R=>by
  cases R <;> cases x <;> exact ajm v p _
theorem ahD (v:AV):∀ (p q:List Q4) (R:RT),p.length=q.length→p≠q→asi p (rsetP v q R)=asi p R
 | [],[],R,_,h=>(h rfl).elim
 | [],_::_,R,h,_=>by simp at h
 | _::_,[],R,h,_=>by simp at h
 | x::p,y::q,R,h,hne=>by
  have ih:=fun R (hne:p≠q)=>ahD v p q R (by simpa using h) hne;have l0:=aoY p;cases R with
  | nd a b c d =>
   cases x <;> cases y <;> first
    | rfl
    | exact ih _ (fun e=>hne (by rw [e]))
  | _ =>
   cases x <;> cases y <;> first
    | exact l0
    | exact (ih _ (fun e=>hne (by rw [e]))).trans l0
theorem adK:∀ k n,(pathOf k n).length=k
 | 0,_=>rfl
 | k+1,n=>by simp [pathOf,adK k]
theorem q4_inj {m n:Nat} (hm:m<4) (hn:n<4) (h:q4 m=q4 n):m=n:=by
 have hc:∀ n,n<4→n=0∨n=1∨n=2∨n=3:=by omega
 rcases hc m hm with rfl | rfl | rfl | rfl <;> rcases hc n hn with rfl | rfl | rfl | rfl <;> simp [q4] at h <;> rfl
theorem ajp:∀ (k m n:Nat),m<4 ^ k→n<4 ^ k→pathOf k m=pathOf k n→m=n
 | 0,m,n,hm,hn,_=>by simp at hm hn; omega
 | k+1,m,n,hm,hn,h=>by
  simp only [pathOf,List.cons.injEq] at h;have h1:=q4_inj (Nat.mod_lt _ (by omega)) (Nat.mod_lt _ (by omega)) h.1;have h2:=ajp k (m / 4) (n / 4) (by rw [Nat.pow_succ] at hm; omega) (by rw [Nat.pow_succ] at hn; omega) h.2;omega
theorem ash (k n:Nat):rget k .lf n=.p .undef:=by
 simp [rget,aoY]
theorem ble_of {a b:Nat} (h:a≤b):Nat.ble a b=true:=Nat.ble_eq_true_of_le h
theorem auD {a b:Nat} (h:¬ a≤b):Nat.ble a b=false:=by
 cases hb:Nat.ble a b
 · rfl
 · exact (h (ble2 hb)).elim
theorem ahC (k:Nat) (R:RT) (d x:Nat) (v:AV) (h:d<4 ^ k):rget k (rset k R d v) x=if x=d then v else rget k R x:=by
 unfold rget rset
 by_cases hx:x+1≤4 ^ k
 · simp only [ble_of hx,cond_true]
   by_cases hxd:x=d
   · subst hxd; rw [ajm,if_pos rfl]
   · rw [if_neg hxd,ahD _ _ _ _ (by rw [adK,adK]) (fun e=>hxd (ajp k x d (by omega) h e))]
 · have:x≠d:=by omega
   simp only [auD hx,cond_false,this,if_false]
def Rel (k:Nat) (e:Env) (R:RT):Prop:=∀ x,getE e x=rget k R x
noncomputable def rput (k:Nat) (d:Option Nat) (v:AV) (R:RT):Option RT :=
 match d with
 | none=>some R
 | some d=>bif Nat.ble (d+1) (4 ^ k) then some (rset k R d v) else none
theorem aft {k:Nat} {d:Option Nat} {v:AV} {R R':RT} {e:Env} (h:rput k d v R=some R') (hr:Rel k e R):Rel k (put d v e) R':=by
 unfold rput at h
 split at h
 · simp only [Option.some.injEq] at h; subst h; exact hr
 · simp only [Bool.cond_eq_ite,Option.ite_none_right_eq_some,Option.some.injEq] at h;obtain ⟨h1,rfl⟩:=h;intro x;rw [ahC _ _ _ _ _ (by have:=ble2 h1; omega)];simp only [put,getE]
   split
   · rfl
   · exact hr x
noncomputable def evR (k:Nat) (R:RT):Operand→AV
 | .tmp t=>rget k R t
 | .const v=>.p (ofConst v)
 | .global g=>.p (Gl.g g)
 | .func f=>.p (.func f [] [])
theorem apI {k:Nat} {R:RT} {e:Env} (hr:Rel k e R):evR k R=ev e:=by
 funext o; cases o <;> simp [evR,ev,hr _]
def amd (H:Heap) (e:Eff):Heap :=
 match e.hset,e.hnew with
 | [],[]=>H
 | _,_=>aaj H e.hset ++ e.hnew
theorem apA (H:Heap) (e:Eff):amd H e=aaj H e.hset ++ e.hnew:=by
 unfold amd; split
 · rename_i h1 h2; simp [h1,h2,aaj]
 · rfl
structure ac6 where
 cP:FuncId→List AV→Heap→Option (AV×Heap)
 cD:FuncId→List AV→Heap→Option Eff
 cY:Nat→Heap→List AV→Option (Heap×AV)
 cI:AV→Nat→Heap→Option Heap
 cYD:Nat→List AV→Heap→Option Eff
structure COk (P:Program) (B:ac6):Prop where
 cP:∀ f args H v H',B.cP f args H=some (v,H')→∀ K:AV→Heap→Prop,K v H'→abM P false f args H K
 cD:∀ f args H e,B.cD f args H=some e→∀ K:Eff→Prop,K e→adj P f args H K
 cY:∀ b H args H' v,B.cY b H args=some (H',v)→ad5 P b H args H' v
 cI:∀ it b H H',B.cI it b H=some H'→∀ K:Heap→Prop,K H'→acZ P it b H K
 cYD:∀ b args H e,B.cYD b args H=some e→ajR P b args H.length e∧amO H e
section
variable (P:Program) (frz:FuncId→Bool) (B:ac6) (k:Nat)
noncomputable def opR (o:Oper) (R:RT) (H:Heap):Option (RT×Heap) :=
 match o.op with
 | .call { callee:=.value f,args,.. }=>match (match evR k R f with
  | .p (.func g fi ca)=>B.cP g (fi.map .p ++ args.toList.map (evR k R) ++ ca.map .p) H
  | .func g fi ca=>B.cP g (fi ++ args.toList.map (evR k R) ++ ca) H
  | .map b=>match B.cY b H (args.toList.map (evR k R)) with
   | some (H',v)=>some (v,H')
   | none=>none
  | _=>none) with
  | some (v,H')=>match rput k o.dst v R with
   | some R'=>some (R',H')
   | none=>none
  | none=>none
 | _=>match opX P frz o (evR k R) H with
  | some e=>match rput k o.dst e.v R with
   | some R'=>some (R',amd H e)
   | none=>none
  | none=>none
noncomputable def apC (ops:Array Oper) (j:Nat) (R:RT):AV :=
 match (ops[j]?).bind (·.dst) with
 | some d=>rget k R d
 | none=>.p (.tup [])
noncomputable def opsR (ops:Array Oper):List Oper→RT→Heap→Option (RT×Heap)
 | [],R,H=>some (R,H)
 | o::r,R,H=>match o.guard with
  | none=>match opR P frz B k o R H with
   | some (R',H')=>opsR ops r R' H'
   | none=>none
  | some (j,want)=>match apC k ops j R with
   | .p (.bool t)=>match t,want with
    | true,true | false,false=>match opR P frz B k o R H with
     | some (R',H')=>opsR ops r R' H'
     | none=>none
    | _,_=>match rput k o.dst (.p (.tup [])) R with
     | some R'=>opsR ops r R' H
     | none=>none
   | .p (.tup [])=>match rput k o.dst (.p (.tup [])) R with
    | some R'=>opsR ops r R' H
    | none=>none
   | _=>none
noncomputable def effR (o:Oper) (R:RT) (H:Heap):Option Eff :=
 match o.op with
 | .call { callee:=.value f,args,.. }=>match evR k R f with
  | .p (.func g fi ca)=>B.cD g (fi.map .p ++ args.toList.map (evR k R) ++ ca.map .p) H
  | .func g fi ca=>B.cD g (fi ++ args.toList.map (evR k R) ++ ca) H
  | .map b=>B.cYD b (args.toList.map (evR k R)) H
  | _=>none
 | _=>opX P frz o (evR k R) H
noncomputable def ai5 (ops:Array Oper):List Oper→Nat→List Touch→RT→Heap→Option (RT×Heap)
 | [],_,acc,R,H=>bif ab5 ops acc then some (R,H) else none
 | o::r,i,acc,R,H=>match o.guard with
  | none=>match effR P frz B k o R H with
   | some e=>match rput k o.dst e.v R with
    | some R'=>ai5 ops r (i+1) (ac7 i H.length e acc) R' (amd H e)
    | none=>none
   | none=>none
  | some (j,want)=>match apC k ops j R with
   | .p (.bool t)=>match t,want with
    | true,true | false,false=>match effR P frz B k o R H with
     | some e=>match rput k o.dst e.v R with
      | some R'=>ai5 ops r (i+1) (ac7 i H.length e acc) R' (amd H e)
      | none=>none
     | none=>none
    | _,_=>match rput k o.dst (.p (.tup [])) R with
     | some R'=>ai5 ops r (i+1) acc R' H
     | none=>none
   | .p (.tup [])=>match rput k o.dst (.p (.tup [])) R with
    | some R'=>ai5 ops r (i+1) acc R' H
    | none=>none
   | _=>none
abbrev Out:=Option (aan×RT×Heap)
def as7 (f:RT→Heap→Out):Nat→RT→Heap→Out
 | 0,_,_=>none
 | n+1,R,H=>match f R H with
  | some (.normal,R',H')=>as7 f n R' H'
  | r=>r
noncomputable def envR (k:Nat) (R:RT):Nat→Env
 | 0=>[]
 | n+1=>(n,rget k R n)::envR k R n
def avO:Nat:=100000
def avX (j:Option Code):Option aan :=
 match j with
 | none=>some .normal
 | some (.exit id)=>some (.exit id)
 | some .ret=>some .ret
 | _=>none
def overR (b:Nat) (R:RT) (H:Heap):Out :=
 match H[b]? with
 | some (.loop L)=>match L.st with
  | .busy=>none
  | _=>match avX L.pending with
   | some e=>some (e,R,H.set b (.loop { L with st:=.exhausted }))
   | none=>none
 | _=>none
noncomputable def adf (q:Cx):Code→RT→Heap→Out
 | .skip,R,H | .label _,R,H=>some (.normal,R,H)
 | .region _ ops draw, R, H => bif draw then match ai5 P frz B k ops ops.toList 0 [] R H with
     | some (R',H')=>some (.normal,R',H')
     | none=>none
  else match opsR P frz B k ops ops.toList R H with
   | some (R',H')=>some (.normal,R',H')
   | none=>none
 | .seq a b,R,H=>match adf q a R H with
  | some (.normal,R',H')=>adf q b R' H'
  | r=>r
 | .cond c a b,R,H=>match evR k R c with
  | .p (.bool t)=>match t with
   | true=>adf q a R H
   | false=>adf q b R H
  | _=>none
 | .block id b,R,H=>match adf q b R H with
  | some (.exit i,R',H')=>bif Nat.beq i id then some (.normal,R',H') else some (.exit i,R',H')
  | r=>r
 | .scope b,R,H=>adf q b R H
 | .loop b,R,H=>as7 (fun R H=>adf q b R H) avO R H
 | .rangeFunc f ps a b, R, H => bif Nat.ble q.2 H.length && Nat.ble q.1 (4 ^ k) then match B.cI (evR k R f) H.length (H ++ [.loop ⟨.ready, none, q.1, ps.toList, a, b, envR k R (4 ^ k)⟩]) with
     | some H'=>overR H.length R H'
     | none=>none
  else none
 | .exit id,R,H=>some (.exit id,R,H)
 | .ret,R,H=>some (.ret,R,H)
 | _,_,_=>none
end
section
variable {P:Program} {frz:FuncId→Bool} {B:ac6} {k:Nat}
theorem amc (e:Eff) (dst:Option Tmp) (env:Env) (H:Heap):e.app dst ⟨env,H⟩=⟨put dst e.v env,amd H e⟩:=by
 simp [Eff.app,apA]
theorem opR_ok (hB : COk P B) {o : Oper} {R R' : RT} {H H' : Heap} {env : Env} (h : opR P frz B k o R H = some (R', H')) (hr : Rel k env R) :
    ∃ env',Rel k env' R'∧∀ K:St→Prop,K ⟨env',H'⟩→opWP P frz false o K ⟨env,H⟩:=by
 unfold opR at h;unfold opWP;rw [apI hr] at h
 split at h
 · rename_i f args aT hop
   split at h
   case h_2=>simp at h
   rename_i v H2 hc
   split at h
   case h_2=>simp at h
   rename_i R2 hp;simp only [Option.some.injEq,Prod.mk.injEq] at h;obtain ⟨rfl,rfl⟩:=h;refine ⟨_,aft hp hr,fun K hK=>?_⟩;simp only [hop]
   split at hc
   · rename_i hf; simp only [hf]; exact hB.cP _ _ _ _ _ hc _ hK
   · rename_i hf; simp only [hf]; exact hB.cP _ _ _ _ _ hc _ hK
   · rename_i hf
     split at hc
     · rename_i H2 v2 hy;simp only [Option.some.injEq,Prod.mk.injEq] at hc;obtain ⟨rfl,rfl⟩:=hc;simp only [hf]; exact ⟨_,_,hB.cY _ _ _ _ _ hy,hK⟩
     · simp at hc
   · simp at hc
 · rename_i hne
   split at h
   case h_2=>simp at h
   rename_i e he
   split at h
   case h_2=>simp at h
   rename_i R2 hp;simp only [Option.some.injEq,Prod.mk.injEq] at h;obtain ⟨rfl,rfl⟩:=h;refine ⟨_,aft hp hr,fun K hK=>?_⟩
   split
   · rename_i f args aT hop; exact (hne _ _ _ hop).elim
   · exact axi he (by rw [amc]; exact hK)
theorem amg {ops:Array Oper} {j:Nat} {R:RT} {env:Env} (hr:Rel k env R):apC k ops j R=guardOf ops j env:=by
 unfold apC guardOf; split
 · rename_i h; simp only [h]; exact (hr _).symm
 · rename_i h; simp only [h]
theorem anm (hB : COk P B) {ops : Array Oper} : ∀ {l : List Oper} {R R' : RT} {H H' : Heap} {env : Env}, opsR P frz B k ops l R H = some (R', H') → Rel k env R →
    ∃ env',Rel k env' R'∧∀ K:St→Prop,K ⟨env',H'⟩→ac8 P frz false ops l K ⟨env,H⟩
 | [],R,R',H,H',env,h,hr=>by
  simp only [opsR,Option.some.injEq,Prod.mk.injEq] at h;obtain ⟨rfl,rfl⟩:=h;exact ⟨env,hr,fun K hK=>hK⟩
 | o::l,R,R',H,H',env,h,hr=>by
  have run : (match opR P frz B k o R H with
        | some (R',H')=>opsR P frz B k ops l R' H'
        | none=>none)=some (R',H')→∃ env',Rel k env' R'∧∀ K:St→Prop,K ⟨env',H'⟩→opWP P frz false o (ac8 P frz false ops l K) ⟨env,H⟩:=by
   intro h
   split at h
   case h_2=>simp at h
   rename_i R1 H1 h1;obtain ⟨env1,a1,a2⟩:=opR_ok hB h1 hr;obtain ⟨env2,b1,b2⟩:=anm hB h a1;exact ⟨env2,b1,fun K hK=>a2 _ (b2 K hK)⟩
  have skip : (match rput k o.dst (.p (.tup [])) R with
        | some R'=>opsR P frz B k ops l R' H
        | none=>none)=some (R',H')→∃ env',Rel k env' R'∧∀ K:St→Prop,K ⟨env',H'⟩→ac8 P frz false ops l K ⟨put o.dst (.p (.tup [])) env,H⟩:=by
   intro h
   split at h
   case h_2=>simp at h
   rename_i R1 h1;exact anm hB h (aft h1 hr)
  simp only [opsR] at h;simp only [ac8]
  split at h
  · rename_i hg; simp only [hg]; exact run h
  · rename_i j want hg;simp only [hg];rw [amg hr] at h
    split at h
    · rename_i t ht;simp only [ht];cases t <;> cases want
      · simpa using run h
      · simpa using skip h
      · simpa using skip h
      · simpa using run h
    · rename_i ht; simp only [ht]; exact skip h
    · simp at h
theorem effR_ok (hB:COk P B) {o:Oper} {R:RT} {H:Heap} {e:Eff} {env:Env} (h:effR P frz B k o R H=some e) (hr:Rel k env R) (K:Eff→Prop) (hK:K e):effD P frz o ⟨env,H⟩ K:=by
 unfold effR at h;unfold effD;rw [apI hr] at h
 split at h
 · rename_i f args aT hop;simp only [hop]
   split at h
   · rename_i hf; simp only [hf]; exact hB.cD _ _ _ _ h _ hK
   · rename_i hf; simp only [hf]; exact hB.cD _ _ _ _ h _ hK
   · rename_i hf;simp only [hf];obtain ⟨h1,h2⟩:=hB.cYD _ _ _ _ h;exact ⟨e,h1,h2,hK⟩
   · simp at h
 · rename_i hne
   split
   · rename_i f args aT hop; exact (hne _ _ _ hop).elim
   · exact axi h hK
theorem akd (hB : COk P B) {ops : Array Oper} : ∀ {l : List Oper} {i : Nat} {acc : List Touch} {R R' : RT} {H H' : Heap} {env : Env}, ai5 P frz B k ops l i acc R H = some (R', H') → Rel k env R →
    ∃ env',Rel k env' R'∧∀ K:St→Prop,K ⟨env',H'⟩→abu P frz ops l i acc K ⟨env,H⟩
 | [],i,acc,R,R',H,H',env,h,hr=>by
  simp only [ai5,Bool.cond_eq_ite,Option.ite_none_right_eq_some,Option.some.injEq,Prod.mk.injEq] at h;obtain ⟨h1,rfl,rfl⟩:=h;exact ⟨env,hr,fun K hK=>⟨h1,hK⟩⟩
 | o::l,i,acc,R,R',H,H',env,h,hr=>by
  have run : (match effR P frz B k o R H with
        | some e=>match rput k o.dst e.v R with
         | some R'=>ai5 P frz B k ops l (i+1) (ac7 i H.length e acc) R' (amd H e)
         | none=>none
        | none=>none)=some (R',H')→∃ env',Rel k env' R'∧∀ K:St→Prop,K ⟨env',H'⟩→effD P frz o ⟨env,H⟩ (fun e=>abu P frz ops l (i+1) (ac7 i H.length e acc) K (e.app o.dst ⟨env,H⟩)):=by
   intro h
   split at h
   case h_2=>simp at h
   rename_i e he
   split at h
   case h_2=>simp at h
   rename_i R1 h1;obtain ⟨env2,b1,b2⟩:=akd hB h (aft h1 hr);exact ⟨env2,b1,fun K hK=>effR_ok hB he hr _ (by rw [amc]; exact b2 K hK)⟩
  have skip : (match rput k o.dst (.p (.tup [])) R with
        | some R'=>ai5 P frz B k ops l (i+1) acc R' H
        | none=>none)=some (R',H')→∃ env',Rel k env' R'∧∀ K:St→Prop,K ⟨env',H'⟩→abu P frz ops l (i+1) acc K ⟨put o.dst (.p (.tup [])) env,H⟩:=by
   intro h
   split at h
   case h_2=>simp at h
   rename_i R1 h1;exact akd hB h (aft h1 hr)
  simp only [ai5] at h;simp only [abu]
  split at h
  · rename_i hg; simp only [hg]; exact run h
  · rename_i j want hg;simp only [hg];rw [amg hr] at h
    split at h
    · rename_i t ht;simp only [ht];cases t <;> cases want
      · simpa using run h
      · simpa using skip h
      · simpa using skip h
      · simpa using run h
    · rename_i ht; simp only [ht]; exact skip h
    · simp at h
theorem apM (R:RT):∀ (n:Nat),∀ x,getE (envR k R n) x=if x<n then rget k R x else .p .undef
 | 0,x=>by simp [envR,getE]
 | n+1,x=>by
  simp only [envR,getE,apM R n]
  by_cases h:x=n
  · subst h; simp
  · simp only [h,if_false]
    by_cases h2:x<n
    · simp [h2,Nat.lt_succ_of_lt h2]
    · have:¬ x<n+1:=by omega
      simp [h2,this]
theorem avg (k:Nat) (R:RT) (n:Nat) (h:4 ^ k≤n):rget k R n=.p .undef:=by
 unfold rget; rw [auD (by omega)]; rfl
theorem envR_ok {R:RT} {env:Env} (hr:Rel k env R):∀ x,getE (envR k R (4 ^ k)) x=getE env x:=by
 intro x;rw [apM,hr]
 split
 · rfl
 · rw [avg k R x (by omega)]
theorem avW {j:Option Code} {e:aan} (h:avX j=some e) (Q:aan→St→Prop) (s:St) (hq:Q e s):agj Q j s:=by
 unfold avX at h;unfold agj
 split at h <;> simp at h <;> subst h <;> exact hq
theorem avx {b:Nat} {R R':RT} {H H':Heap} {e:aan} {env:Env} (h:overR b R H=some (e,R',H')):R'=R∧∀ Q:aan→St→Prop,Q e ⟨env,H'⟩→acp b env Q H:=by
 unfold overR at h
 split at h
 case h_2=>simp at h
 rename_i L hL
 have go : (match avX L.pending with
     | some e=>some (e,R,H.set b (.loop { L with st:=.exhausted }))
     | none=>none)=some (e,R',H')→L.st≠.busy→R'=R∧∀ Q:aan→St→Prop,Q e ⟨env,H'⟩→acp b env Q H:=by
  intro h hst
  split at h
  case h_2=>simp at h
  rename_i e' hj;simp only [Option.some.injEq,Prod.mk.injEq] at h;obtain ⟨rfl,rfl,rfl⟩:=h;exact ⟨rfl,fun Q hq=>by unfold acp; simp only [hL]; exact ⟨hst,avW hj Q _ hq⟩⟩
 split at h
 · simp at h
 · rename_i hst; exact go h hst
theorem as5 {q:Cx} {b:Code} {Q:aan→St→Prop} {s s':St} (h1:∀ Q':aan→St→Prop,Q' .normal s'→aap P frz q b Q' s) (h2:aap P frz q (.loop b) Q s'):aap P frz q (.loop b) Q s:=by
 simp only [aap] at h2 ⊢;obtain ⟨I,⟨n0,t0,hf,hI⟩,hround⟩:=h2;refine ⟨fun n t=>I n t∨(n=n0+1∧t=s),⟨n0+1,s,.inl rfl,.inr ⟨rfl,rfl⟩⟩,?_⟩;rintro n t (h | ⟨rfl,rfl⟩)
 · obtain ⟨e,u,k1,k2⟩:=abW b t _ (hround n t h);refine k2 _ ?_;cases e with
   | normal =>
    obtain ⟨m,t',g1,g2,g3⟩:=k1;exact ⟨m,t',g1,g2,.inl g3⟩
   | exit id=>exact k1
   | ret=>exact k1
 · exact h1 _ ⟨n0,t0,Nat.lt_succ_self _,hf,.inl hI⟩
theorem as4 {q:Cx} {b:Code} {Q:aan→St→Prop} {s s':St} {e:aan} (he:e≠.normal) (h1:∀ Q':aan→St→Prop,Q' e s'→aap P frz q b Q' s) (h2:Q e s'):aap P frz q (.loop b) Q s:=by
 simp only [aap];refine ⟨fun n t=>n=0∧t=s,⟨0,s,.inl rfl,rfl,rfl⟩,?_⟩;rintro n t ⟨rfl,rfl⟩;refine h1 _ ?_;cases e with
 | normal=>exact (he rfl).elim
 | exit id=>exact h2
 | ret=>exact h2
theorem apn {q : Cx} {b : Code} {f : RT → Heap → Out} (hf : ∀ {R R' : RT} {H H' : Heap} {e : aan} {env : Env}, f R H = some (e, R', H') → Rel k env R → ∃ env', Rel k env' R' ∧ ∀ Q : aan → St → Prop, Q e ⟨env', H'⟩ → aap P frz q b Q ⟨env, H⟩) :
    ∀ (n:Nat) {R R':RT} {H H':Heap} {e:aan} {env:Env},as7 f n R H=some (e,R',H')→Rel k env R→∃ env',Rel k env' R'∧∀ Q:aan→St→Prop,Q e ⟨env',H'⟩→aap P frz q (.loop b) Q ⟨env,H⟩
 | 0,R,R',H,H',e,env,h,hr=>by simp [as7] at h
 | n+1,R,R',H,H',e,env,h,hr=>by
  simp only [as7] at h
  split at h
  · rename_i R1 H1 h1;obtain ⟨env1,a1,a2⟩:=hf h1 hr;obtain ⟨env2,b1,b2⟩:=apn hf n h a1;exact ⟨env2,b1,fun Q hq=>as5 a2 (b2 Q hq)⟩
  · rename_i hne;obtain ⟨env1,a1,a2⟩:=hf h hr;refine ⟨env1,a1,fun Q hq=>as4 ?_ a2 hq⟩;rintro rfl;exact hne _ _ h
theorem abN (hB : COk P B) {q : Cx} : ∀ {c : Code} {R R' : RT} {H H' : Heap} {e : aan} {env : Env}, adf P frz B k q c R H = some (e, R', H') → Rel k env R →
    ∃ env',Rel k env' R'∧∀ Q:aan→St→Prop,Q e ⟨env',H'⟩→aap P frz q c Q ⟨env,H⟩
 | .skip,R,R',H,H',e,env,h,hr | .label _,R,R',H,H',e,env,h,hr | .exit _,R,R',H,H',e,env,h,hr | .ret,R,R',H,H',e,env,h,hr=>by
  simp only [adf,Option.some.injEq,Prod.mk.injEq] at h;obtain ⟨rfl,rfl,rfl⟩:=h;exact ⟨env,hr,fun Q hq=>hq⟩
 | .region id ops draw,R,R',H,H',e,env,h,hr=>by
  simp only [adf] at h;cases draw
  · simp only [cond_false] at h
    split at h
    case h_2=>simp at h
    rename_i R1 H1 h1;simp only [Option.some.injEq,Prod.mk.injEq] at h;obtain ⟨rfl,rfl,rfl⟩:=h;obtain ⟨env1,a1,a2⟩:=anm hB h1 hr;exact ⟨env1,a1,fun Q hq=>by simp only [aap]; exact a2 _ hq⟩
  · simp only [cond_true] at h
    split at h
    case h_2=>simp at h
    rename_i R1 H1 h1;simp only [Option.some.injEq,Prod.mk.injEq] at h;obtain ⟨rfl,rfl,rfl⟩:=h;obtain ⟨env1,a1,a2⟩:=akd hB h1 hr;exact ⟨env1,a1,fun Q hq=>by simp only [aap,if_true]; exact a2 _ hq⟩
 | .seq a b,R,R',H,H',e,env,h,hr=>by
  simp only [adf] at h
  split at h
  · rename_i R1 H1 h1;obtain ⟨env1,a1,a2⟩:=abN hB h1 hr;obtain ⟨env2,b1,b2⟩:=abN hB h a1;exact ⟨env2,b1,fun Q hq=>by simp only [aap]; exact a2 _ (b2 Q hq)⟩
  · rename_i hne;obtain ⟨env1,a1,a2⟩:=abN hB h hr;refine ⟨env1,a1,fun Q hq=>by
     simp only [aap];refine a2 _ ?_;cases e with
     | normal=>exact (hne _ _ h).elim
     | exit id=>exact hq
     | ret=>exact hq⟩
 | .cond c a b,R,R',H,H',e,env,h,hr=>by
  simp only [adf,apI hr] at h
  split at h
  case h_2=>simp at h
  rename_i t ht;cases t
  · obtain ⟨env1,a1,a2⟩:=abN hB h hr;exact ⟨env1,a1,fun Q hq=>by simp only [aap,ht]; exact a2 Q hq⟩
  · obtain ⟨env1,a1,a2⟩:=abN hB h hr;exact ⟨env1,a1,fun Q hq=>by simp only [aap,ht,if_true]; exact a2 Q hq⟩
 | .block id b,R,R',H,H',e,env,h,hr=>by
  simp only [adf] at h
  split at h
  · rename_i i R1 H1 h1;obtain ⟨env1,a1,a2⟩:=abN hB h1 hr;cases hi:Nat.beq i id
    · simp only [hi,cond_false,Option.some.injEq,Prod.mk.injEq] at h;obtain ⟨rfl,rfl,rfl⟩:=h;refine ⟨env1,a1,fun Q hq=>by
       simp only [aap];refine a2 _ ?_;have:i≠id:=fun e=>by subst e; simp [Nat.beq_refl] at hi
       simp only [this,if_false]; exact hq⟩
    · simp only [hi,cond_true,Option.some.injEq,Prod.mk.injEq] at h;obtain ⟨rfl,rfl,rfl⟩:=h;refine ⟨env1,a1,fun Q hq=>by
       simp only [aap];refine a2 _ ?_;simp only [beq2 hi,if_true]; exact hq⟩
  · rename_i hne;obtain ⟨env1,a1,a2⟩:=abN hB h hr;refine ⟨env1,a1,fun Q hq=>by
     simp only [aap];refine a2 _ ?_;cases e with
     | normal=>exact hq
     | exit id=>exact (hne _ _ _ h).elim
     | ret=>exact hq⟩
 | .scope b,R,R',H,H',e,env,h,hr=>by
  simp only [adf] at h;obtain ⟨env1,a1,a2⟩:=abN hB h hr;exact ⟨env1,a1,fun Q hq=>by simp only [aap]; exact a2 Q hq⟩
 | .loop b,R,R',H,H',e,env,h,hr=>by
  simp only [adf] at h;exact apn (fun h hr=>abN hB h hr) _ h hr
 | .rangeFunc f ps a b,R,R',H,H',e,env,h,hr=>by
  simp only [adf,Bool.cond_eq_ite,Option.ite_none_right_eq_some,Bool.and_eq_true] at h;obtain ⟨⟨h1,h2⟩,h⟩:=h
  split at h
  case h_2=>simp at h
  rename_i H1 hI;obtain ⟨rfl,ho⟩:=avx (env:=env) h;refine ⟨env,hr,fun Q hq=>?_⟩;simp only [aap];rw [apI hr] at hI;exact ⟨ble2 h1,_,envR_ok hr,hB.cI _ _ _ _ hI _ (ho Q hq)⟩
 | .goto _,_,_,_,_,_,_,h,_=>by simp [adf] at h
 | .refuse _,_,_,_,_,_,_,h,_=>by simp [adf] at h
end
def kOf (n:Nat):Nat :=
 match Nat.ble n 16,Nat.ble n 64,Nat.ble n 256,Nat.ble n 1024 with
 | true,_,_,_=>2
 | _,true,_,_=>3
 | _,_,true,_=>4
 | _,_,_,true=>5
 | _,_,_,_=>6
noncomputable def argR (k:Nat):Nat→List AV→RT
 | _,[]=>.lf
 | i,v::r=>rset k (argR k (i+1) r) i v
theorem aqb (k:Nat):∀ (l:List AV) (i:Nat),i+l.length≤4 ^ k→Rel k (ab3 i l) (argR k i l)
 | [],i,_=>fun x=>by simp [ab3,argR,getE,ash]
 | v::r,i,h=>fun x=>by
  simp only [List.length_cons] at h;rw [argR,ahC _ _ _ _ _ (by omega)];simp only [ab3,getE]
  split
  · rfl
  · exact aqb k r (i+1) (by omega) x
noncomputable def envX (k:Nat):Env→Option RT
 | []=>some .lf
 | (x,v)::r=>match envX k r with
  | some R=>bif Nat.ble (x+1) (4 ^ k) then some (rset k R x v) else none
  | none=>none
theorem apL (k:Nat):∀ {e:Env} {R:RT},envX k e=some R→Rel k e R
 | [],R,h=>by
  simp only [envX,Option.some.injEq] at h; subst h;intro x; simp [getE,ash]
 | (y,v)::r,R,h=>by
  simp only [envX] at h
  split at h
  case h_2=>simp at h
  rename_i R1 h1;simp only [Bool.cond_eq_ite,Option.ite_none_right_eq_some,Option.some.injEq] at h;obtain ⟨h2,rfl⟩:=h;intro x;rw [ahC _ _ _ _ _ (by have:=ble2 h2; omega)];simp only [getE]
  split
  · rfl
  · exact apL k h1 x
noncomputable def resR (P:Program) (k:Nat) (R:RT) (H:Heap):List ResultVar→Option (List AV)
 | []=>some []
 | r::rs=>match (match r with
  | .tmp t=>some (rget k R t)
  | .cell a T=>match rget k R a with
   | .ptr b path=>match H[b]? with
    | some (.box _ t)=>match subA t path with
     | some v=>bif sE (kindOf P T) (shpA v) then some v else none
     | none=>none
    | _=>none
   | _=>none),resR P k R H rs with
  | some v,some vs=>some (v::vs)
  | _,_=>none
theorem asj {P:Program} {k:Nat} {R:RT} {H:Heap} {env:Env} (hr:Rel k env R):∀ {rs:List ResultVar} {vs:List AV},resR P k R H rs=some vs→aaO P ⟨env,H⟩ rs=some vs
 | [],vs,h=>h
 | r::rs,vs,h=>by
  simp only [resR] at h
  split at h
  case h_2=>simp at h
  rename_i v vs' h1 h2;simp only [Option.some.injEq] at h; subst h;have h3:agG P ⟨env,H⟩ r=some v:=by
   cases r with
   | tmp t=>simp only [agG]; rw [hr]; exact h1
   | cell a T =>
    simp only [agG];dsimp only at h1;rw [← hr] at h1
    split at h1
    case h_2=>simp at h1
    rename_i b path hb
    split at h1
    case h_2=>simp at h1
    rename_i fz t ht
    split at h1
    case h_2=>simp at h1
    rename_i u hu;simp only [Bool.cond_eq_ite,Option.ite_none_right_eq_some,Option.some.injEq] at h1;obtain ⟨h4,rfl⟩:=h1;rw [hb];simp only [ht,hu,(aeb h4).1,if_true]
  simp only [aaO,h3,asj hr h2]
section
variable (P:Program) (frz:FuncId→Bool)
noncomputable def awH (B:ac6) (fn:Func) (args:List AV) (N:Nat) (H:Heap):Option (AV×Heap) :=
 bif Nat.ble args.length fn.ntmps && Nat.ble fn.ntmps (4 ^ kOf fn.ntmps) then
  match adf P frz B (kOf fn.ntmps) (fn.ntmps,N) (fn.body.getD .skip) (argR (kOf fn.ntmps) 0 args) H with
  | some (.exit _,_,_)=>none
  | some (_,R,H')=>match resR P (kOf fn.ntmps) R H' fn.results.toList with
   | some vs=>some (oneOf vs,H')
   | none=>none
  | none=>none
 else none
structure Plan where
 tab:FuncId→Option Func
 hook:FuncId→List PV→Option PV
 hookI:FuncId→List AV→Heap→Option (AV×Heap)
 pol:FuncId→FuncId→Nat
 hookX:FuncId→List AV→Heap→Option (List (Nat×Obj)×PV)
noncomputable def runP (pl:Plan) (B:FuncId→ac6) (f:FuncId) (vs:List PV):Option PV :=
 match pl.hook f vs with
 | some v=>some v
 | none=>match pl.tab f with
  | some fn=>match awH P frz (B f) fn (vs.map .p) 0 [] with
   | some (v,H)=>purR H 9 v
   | none=>none
  | none=>none
noncomputable def runI (pl:Plan) (B:FuncId→ac6) (f:FuncId) (args:List AV) (H:Heap):Option (AV×Heap) :=
 match pl.hookI f args H with
 | some r=>some r
 | none=>match pl.tab f with
  | some fn=>awH P frz (B f) fn args H.length H
  | none=>none
noncomputable def aoX (B:ac6) (b:Nat) (H:Heap) (args:List AV):Option (Heap×AV) :=
 match H[b]? with
 | some (.loop L)=>bif Nat.beq args.length L.params.length && (L.params.all (fun x=>decide (x<L.n)) && codeOk fit L.n L.assign && codeOk fit L.n L.body) then
  match envX (kOf L.n) (ahG L.params args L.env) with
  | some R=>match adf P frz B (kOf L.n) (L.n,H.length) L.assign R H with
   | some (.normal,R1,H1)=>match H1[b]? with
    | some (.loop L1)=>match L1.st with
     | .ready=>match adf P frz B (kOf L.n) (L.n,H.length) L.body R1 (H1.set b (.loop { L1 with st:=.busy })) with
      | some (e,_,H2)=>match H2[b]? with
       | some (.loop L2)=>some (H2.set b (.loop { L2 with st:=if (abL e).isNone then .ready else .done,pending:=abL e }),.p (.bool (abL e).isNone))
       | _=>none
      | none=>none
     | _=>none
    | _=>none
   | _=>none
  | none=>none
  else none
 | _=>none
noncomputable def iterR (pl:Plan) (B:FuncId→ac6) (it:AV) (b:Nat) (H:Heap):Option Heap :=
 match it with
 | .p (.func g fi ca)=>match runI P frz pl B g (fi.map .p ++ [.map b] ++ ca.map .p) H with
  | some (_,H')=>some H'
  | none=>none
 | .func g fi ca=>match runI P frz pl B g (fi ++ [.map b] ++ ca) H with
  | some (_,H')=>some H'
  | none=>none
 | _=>none
noncomputable def callR (pl:Plan) (B:FuncId→ac6) (c f:FuncId) (args:List AV) (H:Heap):Option (AV×Heap) :=
 match pl.hookX f args H with
 | some (_,v)=>some (.p v,H)
 | none=>match pl.pol c f with
 | 0=>match allP args with
  | some vs=>match runP P frz pl B f vs with
   | some v=>some (.p v,H)
   | none=>none
  | none=>runI P frz pl B f args H
 | 1=>runI P frz pl B f args H
 | 3=>match aml (runI P frz pl B f) args H with
  | some e=>some (e.v,amd H e)
  | none=>none
 | _=>match purL H args with
  | some (vs,H1)=>match runP P frz pl B f vs with
   | some v=>some (.p v,H1)
   | none=>none
  | none=>none
noncomputable def callD (pl:Plan) (B:FuncId→ac6) (c f:FuncId) (args:List AV) (H:Heap):Option Eff :=
 match pl.hookX f args H with
 | some (hin,v)=>some { v:=.p v,hin }
 | none=>match pl.pol c f with
 | 3=>aml (runI P frz pl B f) args H
 | _=>match allP args with
 | some vs=>match runP P frz pl B f vs with
  | some v=>some { v:=.p v }
  | none=>none
 | none=>match aj9 H args with
  | some (vs,bs)=>match ad9 H bs with
   | some (hin,hset)=>match runP P frz pl B f vs with
    | some v=>some { v:=.p v,hin,hset }
    | none=>none
   | none=>none
  | none=>aml (runI P frz pl B f) args H
def aga:ac6:=⟨fun _ _ _=>none,fun _ _ _=>none,fun _ _ _=>none,fun _ _ _=>none,fun _ _ _=>none⟩
noncomputable def adu (pl:Plan):Nat→FuncId→ac6
 | 0,_=>aga
 | n+1,c=>⟨callR P frz pl (adu pl n) c,callD P frz pl (adu pl n) c,aoX P frz (adu pl n c),iterR P frz pl (adu pl n),anW (aoX P frz (adu pl n c))⟩
end
structure afW (P:Program) (pl:Plan):Prop where
 mix:P.follows .mixedOrders=true
 tab:∀ f fn,pl.tab f=some fn→IsFn P f fn
 hook:∀ f vs v,pl.hook f vs=some v→aab P f vs v
 hookI:∀ f args H v H',pl.hookI f args H=some (v,H')→abp P f H args H' v
 hookX:∀ f args H hin v,pl.hookX f args H=some (hin,v)→auL P f args hin v∧∀ p∈hin,H[p.1]?=some p.2
section
variable {P:Program} {frz:FuncId→Bool} {B1:ac6} {B:FuncId→ac6} {pl:Plan}
theorem ap7 (hB : COk P B1) {fn : Func} {args : List AV} {N : Nat} {H H' : Heap} {v : AV} (h : awH P frz B1 fn args N H = some (v, H')) :
    args.length≤fn.ntmps∧∃ e env' vs,(match e with
     | aan.exit _=>False
     | _=>True)∧aaO P ⟨env',H'⟩ fn.results.toList=some vs∧oneOf vs=v∧∀ Q:aan→St→Prop,Q e ⟨env',H'⟩→aap P frz (fn.ntmps,N) (fn.body.getD .skip) Q ⟨ab3 0 args,H⟩:=by
 unfold awH at h;simp only [Bool.cond_eq_ite,Option.ite_none_right_eq_some,Bool.and_eq_true] at h;obtain ⟨⟨h1,h2⟩,h⟩:=h;have h1:=ble2 h1;have h2:=ble2 h2;refine ⟨h1,?_⟩
 split at h
 · simp at h
 · rename_i e R H2 hne hc
   split at h
   case h_2=>simp at h
   rename_i vs hvs;simp only [Option.some.injEq,Prod.mk.injEq] at h;obtain ⟨rfl,rfl⟩:=h;obtain ⟨env',a1,a2⟩:=abN hB hc (aqb _ args 0 (by omega));refine ⟨e,env',vs,?_,asj a1 hvs,rfl,a2⟩;cases e with
   | exit i=>exact hne i rfl
   | _=>trivial
 · simp at h
theorem ahB (hp:afW P pl) (hB:∀ c,COk P (B c)) {f:FuncId} {vs:List PV} {v:PV} (h:runP P frz pl B f vs=some v):aab P f vs v:=by
 unfold runP at h
 split at h
 · rename_i v' hk;simp only [Option.some.injEq] at h; subst h;exact hp.hook _ _ _ hk
 · split at h
   case h_2=>simp at h
   rename_i fn hf
   split at h
   case h_2=>simp at h
   rename_i v' H' hb;obtain ⟨h1,e,env',vs',h2,h3,rfl,h5⟩:=ap7 (hB _) hb;exact good frz (hp.tab _ _ hf) hp.mix (by simpa using h1) (h5 _ ⟨h2,vs',h3,h⟩)
theorem ae2 (hp:afW P pl) (hB:∀ c,COk P (B c)) {f:FuncId} {args:List AV} {H H':Heap} {v:AV} (h:runI P frz pl B f args H=some (v,H')):abp P f H args H' v:=by
 unfold runI at h
 split at h
 · rename_i r hk;simp only [Option.some.injEq] at h; subst h;exact hp.hookI _ _ _ _ _ hk
 · split at h
   case h_2=>simp at h
   rename_i fn hf;obtain ⟨h1,e,env',vs',h2,h3,rfl,h5⟩:=ap7 (hB _) h;exact goodI frz (hp.tab _ _ hf) hp.mix h1 (h5 _ ⟨h2,vs',h3,rfl,.inl rfl⟩)
theorem amK {args:List AV} {vs:List PV} (h:allP args=some vs):args=vs.map .p:=acR h
theorem awr (hp:afW P pl) (hB:∀ c,COk P (B c)) {c f:FuncId} {args:List AV} {H H':Heap} {v:AV} (h:callR P frz pl B c f args H=some (v,H')) (K:AV→Heap→Prop) (hK:K v H'):abM P false f args H K:=by
 unfold callR at h
 split at h
 · rename_i hin v' hx;simp only [Option.some.injEq,Prod.mk.injEq] at h;obtain ⟨rfl,rfl⟩:=h;obtain ⟨h1,h2⟩:=hp.hookX _ _ _ _ _ hx;exact .inr ⟨rfl,.inr (.inr (.inr ⟨hin,v',h1,h2,hK⟩))⟩
 split at h
 · split at h
   · rename_i vs hvs
     split at h
     case h_2=>simp at h
     rename_i v' hr;simp only [Option.some.injEq,Prod.mk.injEq] at h;obtain ⟨rfl,rfl⟩:=h;exact .inl ⟨vs,v',amK hvs,ahB hp hB hr,hK⟩
   · exact .inr ⟨rfl,.inr (.inl ⟨H',v,ae2 hp hB h,hK⟩)⟩
 · exact .inr ⟨rfl,.inr (.inl ⟨H',v,ae2 hp hB h,hK⟩)⟩
 · split at h
   case h_2=>simp at h
   rename_i e he;simp only [Option.some.injEq,Prod.mk.injEq] at h;obtain ⟨rfl,rfl⟩:=h;obtain ⟨h1,h2⟩:=ail (fun args H v H' hr=>ae2 hp hB hr) he;exact .inr ⟨rfl,.inr (.inr (.inl ⟨e,h1,h2,by rw [← apA]; exact hK⟩))⟩
 · split at h
   case h_2=>simp at h
   rename_i vs H1 hpl
   split at h
   case h_2=>simp at h
   rename_i v' hr;simp only [Option.some.injEq,Prod.mk.injEq] at h;obtain ⟨rfl,rfl⟩:=h;exact .inr ⟨rfl,.inl ⟨vs,H1,v',hpl,ahB hp hB hr,hK⟩⟩
theorem aws (hp:afW P pl) (hB:∀ c,COk P (B c)) {c f:FuncId} {args:List AV} {H:Heap} {e:Eff} (h:callD P frz pl B c f args H=some e) (K:Eff→Prop) (hK:K e):adj P f args H K:=by
 unfold callD at h
 split at h
 · rename_i hin v' hx;simp only [Option.some.injEq] at h; subst h;obtain ⟨h1,h2⟩:=hp.hookX _ _ _ _ _ hx;exact .inr (.inr (.inr ⟨hin,v',h1,h2,hK⟩))
 split at h
 · obtain ⟨h1,h2⟩:=ail (fun args H v H' hr=>ae2 hp hB hr) h;exact .inr (.inr (.inl ⟨e,h1,h2,hK⟩))
 split at h
 · rename_i vs hvs
   split at h
   case h_2=>simp at h
   rename_i v' hr;simp only [Option.some.injEq] at h; subst h;exact .inl ⟨vs,v',amK hvs,ahB hp hB hr,hK⟩
 · split at h
   case h_2 =>
    obtain ⟨h1,h2⟩:=ail (fun args H v H' hr=>ae2 hp hB hr) h;exact .inr (.inr (.inl ⟨e,h1,h2,hK⟩))
   rename_i vs bs hpl
   split at h
   case h_2=>simp at h
   rename_i hin hset hfz
   split at h
   case h_2=>simp at h
   rename_i v' hr;simp only [Option.some.injEq] at h; subst h;exact .inr (.inl ⟨vs,bs,hin,hset,v',hpl,hfz,ahB hp hB hr,hK⟩)
theorem alj (hp:afW P pl) (hB:COk P B1) {b:Nat} {H H':Heap} {args:List AV} {v:AV} (h:aoX P frz B1 b H args=some (H',v)):ad5 P b H args H' v:=by
 unfold aoX at h
 split at h
 case h_2=>simp at h
 rename_i L hL;simp only [Bool.cond_eq_ite,Option.ite_none_right_eq_some,Bool.and_eq_true] at h;obtain ⟨⟨h1,h2⟩,h⟩:=h
 split at h
 case h_2=>simp at h
 rename_i R hR
 split at h
 case h_2=>simp at h
 rename_i R1 H1 hc1
 split at h
 case h_2=>simp at h
 rename_i L1 hL1
 split at h
 case h_2=>simp at h
 rename_i hst
 split at h
 case h_2=>simp at h
 rename_i e R2 H2 hc2
 split at h
 case h_2=>simp at h
 rename_i L2 hL2;simp only [Option.some.injEq,Prod.mk.injEq] at h;obtain ⟨rfl,rfl⟩:=h;obtain ⟨env1,a1,a2⟩:=abN hB hc1 (apL _ hR);obtain ⟨env2,b1,b2⟩:=abN hB hc2 a1;refine goodY frz hp.mix hL (beq2 h1) (by simpa only [Bool.and_eq_true] using h2) ?_;unfold aj3;refine a2 _ ?_;simp only [aeD,hL1];refine ⟨hst,b2 _ ?_⟩;simp only [aeC,hL2];exact ⟨trivial,.inl rfl⟩
theorem avY (hp:afW P pl) (hB:∀ c,COk P (B c)) {it:AV} {b:Nat} {H H':Heap} (h:iterR P frz pl B it b H=some H') (K:Heap→Prop) (hK:K H'):acZ P it b H K:=by
 unfold iterR at h
 split at h
 · split at h
   case h_2=>simp at h
   rename_i v H2 hr;simp only [Option.some.injEq] at h; subst h;exact ⟨H2,v,ae2 hp hB hr,hK⟩
 · split at h
   case h_2=>simp at h
   rename_i v H2 hr;simp only [Option.some.injEq] at h; subst h;exact ⟨H2,v,ae2 hp hB hr,hK⟩
 · simp at h
theorem adt (hp:afW P pl):∀ n c,COk P (adu P frz pl n c)
 | 0,_=>⟨fun _ _ _ _ _ h=>by simp [adu,aga] at h,fun _ _ _ _ h=>by simp [adu,aga] at h,fun _ _ _ _ _ h=>by simp [adu,aga] at h,fun _ _ _ _ h=>by simp [adu,aga] at h,fun _ _ _ _ h=>by simp [adu,aga] at h⟩
 | n+1,c=>⟨fun _ _ _ _ _ h=>awr hp (adt hp n) h,fun _ _ _ _ h=>aws hp (adt hp n) h,fun _ _ _ _ _ h=>alj hp (adt hp n c) h,fun _ _ _ _ h=>avY hp (adt hp n) h,fun _ _ _ _ h=>aqU (fun _ _ _ _ _ hr=>alj hp (adt hp n c) hr) h⟩
theorem reckon {f:FuncId} {vs:List PV} {v:PV} (n:Nat) (hp:afW P pl) (h:runP P frz pl (adu P frz pl n) f vs=some v):aab P f vs v:=ahB hp (adt hp n) h
end
section
variable {P:Program} {frz:FuncId→Bool}
theorem aab.weak {f:FuncId} {args args':List PV} {v v':PV} (h:aab P f args v) (ha:Wkl args' args) (hv:Wk v v'):aab P f args' v':=by
 rcases h with h | h
 · refine .inl ⟨h.1,fun w Imm cargs h1 h2 h3=>(h.2 w Imm cargs h1 h2 (PVVl.weak _ _ _ ha h3)).mono ?_⟩;rintro e w' ⟨cv,Imm',k1,k2,k3,k4,k5,k6,kio,k7⟩;exact ⟨cv,Imm',k1,k2,k3,k4,k5,k6,kio,PVV.weak _ _ _ hv k7⟩
 · refine .inr fun w Imm cargs h3=>?_;obtain ⟨cv,k1,k2⟩:=h w Imm cargs (PVVl.weak _ _ _ ha h3);exact ⟨cv,k1,PVV.weak _ _ _ hv k2⟩
def awQ (P:Program) (rs:List ResultVar) (v:PV) (e:aan) (s:St):Prop :=
 (match e with
  | .exit _=>False
  | _=>True)∧∃ vs,aaO P s rs=some vs∧∃ v',purR s.heap 9 (oneOf vs)=some v'∧Wk v' v
theorem atF {rs:List ResultVar} {v:PV} {s:St}:awQ P rs v .ret s = ∃ vs,aaO P s rs=some vs∧∃ v',purR s.heap 9 (oneOf vs)=some v'∧Wk v' v:=by simp [awQ]
theorem amo {rs:List ResultVar} {v:PV} {s:St}:awQ P rs v .normal s = ∃ vs,aaO P s rs=some vs∧∃ v',purR s.heap 9 (oneOf vs)=some v'∧Wk v' v:=by simp [awQ]
theorem aot.weak {f:FuncId} {args args':List PV} {v v':PV} (h:aot P f args v) (ha:Wkl args' args) (hv:Wk v v'):aot P f args' v':=by
 refine ⟨h.1,fun w Imm cargs h1 h2 h3=>(h.2 w Imm cargs h1 h2 (PVVl.weak _ _ _ ha h3)).mono ?_⟩;rintro e w' ⟨cv,Imm',k1,k2,k3,k4,k5,k6,kio,k7⟩;exact ⟨cv,Imm',k1,k2,k3,k4,k5,k6,kio,PVV.weak _ _ _ hv k7⟩
theorem ajr {dst : Option Tmp} {ty : Nat} {pos : String} {af : Array Edge} {g : Option (Nat × Bool)} {env : Env} {heap : Heap} {L : St → Prop} {f : FuncId} {fi ca : Array Operand} (hf : frz f = false) :
    aaA P frz ⟨dst,.makeFunc (.func f) fi ca,ty,pos,af,g⟩ L ⟨env,heap⟩=runR (anA f (fi.toList.map (ev env)) (ca.toList.map (ev env))) (appK dst ⟨env,heap⟩ L):=by
 simp only [aaA,opW,ab7,hf,anA,Bool.false_eq_true,if_false]
 split
 · rename_i h1 h2; simp only [h1,h2,runR,true_and]
 · rename_i h1
   split
   · rename_i a b h2 h3; exact (h1 a b h2 h3).elim
   · simp only [runR,true_and]
theorem ajD {dst : Option Tmp} {ty : Nat} {pos : String} {af : Array Edge} {g : Option (Nat × Bool)} {env : Env} {heap : Heap} {K : Eff → Prop} {f : FuncId} {fi ca : Array Operand} (hf : frz f = false) :
    aaB P frz ⟨dst,.makeFunc (.func f) fi ca,ty,pos,af,g⟩ ⟨env,heap⟩ K=runR (anA f (fi.toList.map (ev env)) (ca.toList.map (ev env))) K:=by
 simp only [aaB,opW,ab7,hf,anA,Bool.false_eq_true,if_false]
 split
 · rename_i h1 h2; simp only [h1,h2,runR,true_and]
 · rename_i h1
   split
   · rename_i a b h2 h3; exact (h1 a b h2 h3).elim
   · simp only [runR,true_and]
section guards
variable {ops:Array Oper} {o:Oper} {r:List Oper} {K:St→Prop} {want t:Bool} {s:St} {i:Nat} {acc:List Touch}
theorem aif:apB P frz ops o r K want s (.p (.bool t))=if t=want then aaA P frz o (opsW P frz ops r K) s else opsW P frz ops r K ⟨put o.dst (.p (.tup [])) s.env,s.heap⟩:=(rfl)
theorem ajw:apB P frz ops o r K want s (.p (.tup []))=opsW P frz ops r K ⟨put o.dst (.p (.tup [])) s.env,s.heap⟩:=(rfl)
theorem agL:aku P frz ops o r i acc K want s (.p (.bool t))=if t=want then aaB P frz o s (at7 P frz ops r i acc K o.dst s) else acN P frz ops r (i+1) acc K ⟨put o.dst (.p (.tup [])) s.env,s.heap⟩:=(rfl)
theorem aie:aku P frz ops o r i acc K want s (.p (.tup []))=acN P frz ops r (i+1) acc K ⟨put o.dst (.p (.tup [])) s.env,s.heap⟩:=(rfl)
theorem amh {l:List Oper} {j:Nat} {e:Env}:guardOf l.toArray j e=match (l[j]?).bind (·.dst) with
 | some d=>getE e d
 | none=>.p (.tup []):=by simp only [guardOf,List.getElem?_toArray]; cases l[j]?.bind (·.dst) <;> rfl
end guards
section calls
variable {f:FuncId} {H H1:Heap} {K:AV→Heap→Prop} {L:Eff→Prop} {v a b c d e a' b' c' d' e':PV} {dr:Bool}
theorem cw0 (h:aab P f [] v) (hk:K (.p v) H):abM P dr f [] H K:=.inl ⟨[],v,rfl,h,hk⟩
theorem cw1 (h:aab P f [a'] v) (hk:K (.p v) H) (h1:Wk a a':=by first | exact Wk.refl _ | simp [Wk,Wkl]):abM P dr f [.p a] H K:=.inl ⟨[a],v,rfl,h.weak (by simp only [Wkl]; exact ⟨h1,trivial⟩) (Wk.refl _),hk⟩
theorem cw2 (h:aab P f [a',b'] v) (hk:K (.p v) H) (h1:Wk a a':=by first | exact Wk.refl _ | simp [Wk,Wkl]) (h2:Wk b b':=by first | exact Wk.refl _ | simp [Wk,Wkl]):abM P dr f [.p a,.p b] H K :=
 .inl ⟨[a,b],v,rfl,h.weak (by simp only [Wkl]; exact ⟨h1,h2,trivial⟩) (Wk.refl _),hk⟩
theorem cw3 (h:aab P f [a',b',c'] v) (hk:K (.p v) H) (h1:Wk a a':=by first | exact Wk.refl _ | simp [Wk,Wkl]) (h2:Wk b b':=by first | exact Wk.refl _ | simp [Wk,Wkl]) (h3:Wk c c':=by first | exact Wk.refl _ | simp [Wk,Wkl]):abM P dr f [.p a,.p b,.p c] H K :=
 .inl ⟨[a,b,c],v,rfl,h.weak (by simp only [Wkl]; exact ⟨h1,h2,h3,trivial⟩) (Wk.refl _),hk⟩
theorem cw4 (h:aab P f [a',b',c',d'] v) (hk:K (.p v) H) (h1:Wk a a':=by first | exact Wk.refl _ | simp [Wk,Wkl]) (h2:Wk b b':=by first | exact Wk.refl _ | simp [Wk,Wkl]) (h3:Wk c c':=by first | exact Wk.refl _ | simp [Wk,Wkl]) (h4:Wk d d':=by first | exact Wk.refl _ | simp [Wk,Wkl]):abM P dr f [.p a,.p b,.p c,.p d] H K :=
 .inl ⟨[a,b,c,d],v,rfl,h.weak (by simp only [Wkl]; exact ⟨h1,h2,h3,h4,trivial⟩) (Wk.refl _),hk⟩
theorem cw5 (h:aab P f [a',b',c',d',e'] v) (hk:K (.p v) H) (h1:Wk a a':=by first | exact Wk.refl _ | simp [Wk,Wkl]) (h2:Wk b b':=by first | exact Wk.refl _ | simp [Wk,Wkl]) (h3:Wk c c':=by first | exact Wk.refl _ | simp [Wk,Wkl]) (h4:Wk d d':=by first | exact Wk.refl _ | simp [Wk,Wkl]) (h5:Wk e e':=by first | exact Wk.refl _ | simp [Wk,Wkl]):abM P dr f [.p a,.p b,.p c,.p d,.p e] H K :=
 .inl ⟨[a,b,c,d,e],v,rfl,h.weak (by simp only [Wkl]; exact ⟨h1,h2,h3,h4,h5,trivial⟩) (Wk.refl _),hk⟩
theorem ce0 (h:aab P f [] v) (hk:L { v:=.p v }):adj P f [] H L:=.inl ⟨[],v,rfl,h,hk⟩
theorem ce1 (h:aab P f [a'] v) (hk:L { v:=.p v }) (h1:Wk a a':=by first | exact Wk.refl _ | simp [Wk,Wkl]):adj P f [.p a] H L:=.inl ⟨[a],v,rfl,h.weak (by simp only [Wkl]; exact ⟨h1,trivial⟩) (Wk.refl _),hk⟩
theorem ce2 (h:aab P f [a',b'] v) (hk:L { v:=.p v }) (h1:Wk a a':=by first | exact Wk.refl _ | simp [Wk,Wkl]) (h2:Wk b b':=by first | exact Wk.refl _ | simp [Wk,Wkl]):adj P f [.p a,.p b] H L :=
 .inl ⟨[a,b],v,rfl,h.weak (by simp only [Wkl]; exact ⟨h1,h2,trivial⟩) (Wk.refl _),hk⟩
theorem ce3 (h:aab P f [a',b',c'] v) (hk:L { v:=.p v }) (h1:Wk a a':=by first | exact Wk.refl _ | simp [Wk,Wkl]) (h2:Wk b b':=by first | exact Wk.refl _ | simp [Wk,Wkl]) (h3:Wk c c':=by first | exact Wk.refl _ | simp [Wk,Wkl]):adj P f [.p a,.p b,.p c] H L :=
 .inl ⟨[a,b,c],v,rfl,h.weak (by simp only [Wkl]; exact ⟨h1,h2,h3,trivial⟩) (Wk.refl _),hk⟩
theorem ce4 (h:aab P f [a',b',c',d'] v) (hk:L { v:=.p v }) (h1:Wk a a':=by first | exact Wk.refl _ | simp [Wk,Wkl]) (h2:Wk b b':=by first | exact Wk.refl _ | simp [Wk,Wkl]) (h3:Wk c c':=by first | exact Wk.refl _ | simp [Wk,Wkl]) (h4:Wk d d':=by first | exact Wk.refl _ | simp [Wk,Wkl]):adj P f [.p a,.p b,.p c,.p d] H L :=
 .inl ⟨[a,b,c,d],v,rfl,h.weak (by simp only [Wkl]; exact ⟨h1,h2,h3,h4,trivial⟩) (Wk.refl _),hk⟩
theorem ce5 (h:aab P f [a',b',c',d',e'] v) (hk:L { v:=.p v }) (h1:Wk a a':=by first | exact Wk.refl _ | simp [Wk,Wkl]) (h2:Wk b b':=by first | exact Wk.refl _ | simp [Wk,Wkl]) (h3:Wk c c':=by first | exact Wk.refl _ | simp [Wk,Wkl]) (h4:Wk d d':=by first | exact Wk.refl _ | simp [Wk,Wkl]) (h5:Wk e e':=by first | exact Wk.refl _ | simp [Wk,Wkl]):adj P f [.p a,.p b,.p c,.p d,.p e] H L :=
 .inl ⟨[a,b,c,d,e],v,rfl,h.weak (by simp only [Wkl]; exact ⟨h1,h2,h3,h4,h5,trivial⟩) (Wk.refl _),hk⟩
theorem cwp {args:List AV} {vs vs':List PV} (h:aab P f vs' v) (ha:purL H args=some (vs,H1)) (hk:K (.p v) H1) (h1:Wkl vs vs':=by first | exact Wkl.refl _ | simp [Wk,Wkl]):abM P false f args H K :=
 .inr ⟨rfl,.inl ⟨vs,H1,v,ha,h.weak h1 (Wk.refl _),hk⟩⟩
theorem cep {args:List AV} {vs vs':List PV} {bs:List Nat} {hin hset:List (Nat×Obj)} (h:aab P f vs' v) (ha:aj9 H args=some (vs,bs)) (hf:ad9 H bs=some (hin,hset)) (hk:L { v:=.p v,hin,hset }) (h1:Wkl vs vs':=by first | exact Wkl.refl _ | simp [Wk,Wkl]):adj P f args H L :=
 .inr (.inl ⟨vs,bs,hin,hset,v,ha,hf,h.weak h1 (Wk.refl _),hk⟩)
end calls
def KV (T:Heap) (a v:AV):Prop:=a=v∨Gh T a v
theorem KV_same {T:Heap} {v:AV}:KV T v v=True:=by simp [KV]
theorem KV_nsl {T:Heap} {b ver esz off len:Nat}:KV T (.p .nsl) (.sl b ver esz off len)=(ver=0∧off=0∧len=0∧∃ k z,T[b]?=some (.arr k 0 z [])∧k.gr=true):=by simp [KV,Gh,GhV]
theorem KV_st {T:Heap} {u u':TypeId} {fs:List PV} {gs:List AV}:KV T (.p (.st u fs)) (.st u' gs)=(u=u'∧GhVl T fs gs):=by simp [KV,Gh,GhV]
def aeA (T:Heap) (e:Env):Env→Prop
 | []=>True
 | (x,v)::r=>KV T (getE e x) v∧aeA T e r
def KO (T:Heap) (o:Obj):Obj→Prop
 | .hole=>True
 | .box false v'=>match o with
  | .box false v=>KV T v v'
  | _=>False
 | .arr k ver z es=>(o=.hole∧ver=0∧es=[]∧k.gr=true)∨o=.arr k ver z es
 | o'=>o=o'
def KN:Obj→Prop
 | .hole=>True
 | .arr k ver _ es=>ver=0∧es=[]∧k.gr=true
 | _=>False
def acu (T:Heap):Heap→Heap→Prop
 | _,[]=>True
 | [],o'::t=>KN o'∧acu T [] t
 | o::h,o'::t=>KO T o o'∧acu T h t
theorem aeA.get {T:Heap} {e:Env}:∀ {t:Env},aeA T e t→∀ x,getE t x=getE e x∨getE t x=.p .undef∨Gh T (getE e x) (getE t x)
 | [],_,x=>.inr (.inl rfl)
 | (y,v)::t,h,x=>by
  simp only [aeA] at h;simp only [getE]
  split
  · rename_i hx; subst hx;rcases h.1 with h | h
    · exact .inl h.symm
    · exact .inr (.inr h)
  · exact aeA.get h.2 x
theorem acu.get {T : Heap} : ∀ {h t : Heap}, acu T h t → ∀ (b : Nat) (o : Obj), t[b]? = some o →
    o=.hole∨h[b]?=some o∨((h[b]?=none∨h[b]?=some .hole)∧∃ k z,o=.arr k 0 z []∧k.gr=true)∨(∃ v v',h[b]?=some (.box false v)∧o=.box false v'∧Gh T v v')
 | _,[],_,b,o,ho=>by simp at ho
 | [],o'::t,hk,b,o,ho=>by
  simp only [acu] at hk;cases b with
  | zero =>
   simp at ho; subst ho;cases o' <;> have h1:=hk.1 <;> simp only [KN] at h1
   · exact .inl rfl
   · obtain ⟨rfl,rfl,h3⟩:=h1;exact .inr (.inr (.inl ⟨.inl rfl,_,_,rfl,h3⟩))
  | succ b=>simpa using acu.get hk.2 b o (by simpa using ho)
 | o1::h,o'::t,hk,b,o,ho=>by
  simp only [acu] at hk;cases b with
  | zero =>
   simp at ho; subst ho;have h1:=hk.1;cases o' with
   | hole=>exact .inl rfl
   | dead=>simp only [KO] at h1; subst h1; exact .inr (.inl rfl)
   | map fz es=>simp only [KO] at h1; subst h1; exact .inr (.inl rfl)
   | siter s p=>simp only [KO] at h1; subst h1; exact .inr (.inl rfl)
   | loop L=>simp only [KO] at h1; subst h1; exact .inr (.inl rfl)
   | arr k ver z es =>
    simp only [KO] at h1;rcases h1 with ⟨rfl,rfl,rfl,h3⟩ | rfl
    · exact .inr (.inr (.inl ⟨.inr rfl,_,_,rfl,h3⟩))
    · exact .inr (.inl rfl)
   | box fz v' =>
    cases fz with
    | true=>simp only [KO] at h1; subst h1; exact .inr (.inl rfl)
    | false =>
     simp only [KO] at h1
     split at h1
     · rcases h1 with rfl | h1
       · exact .inr (.inl rfl)
       · exact .inr (.inr (.inr ⟨_,_,rfl,rfl,h1⟩))
     · exact h1.elim
  | succ b=>simpa using acu.get hk.2 b o (by simpa using ho)
theorem aaD.og {N:Nat} {s t:St} (hn:t.heap.take N=s.heap.take N) (he:aeA t.heap s.env t.env) (hh:acu t.heap s.heap t.heap) (hr:aez t.heap t.env) (hr2:acD t.heap t.heap):aaD N s t:=by
 refine .inr ⟨⟨he.get,hh.get,hr.get,hr2.get⟩,fun b hb=>?_⟩;have:=congrArg (fun l:Heap=>l[b]?) hn;simpa [List.getElem?_take,hb] using this
theorem auI {T:Heap} {o:Obj}:KO T o o=True:=by
 cases o with
 | box fz v=>cases fz <;> simp [KO,KV]
 | _=>simp [KO]
theorem KO_hole {T:Heap} {o:Obj}:KO T o .hole=True:=by simp [KO]
theorem KO_box {T:Heap} {v v':AV}:KO T (.box false v) (.box false v')=KV T v v':=(rfl)
theorem KO_new {T:Heap} {k:AK} {ver z:Nat} {es:List AV}:KO T .hole (.arr k ver z es)=(ver=0∧es=[]∧k.gr=true):=by simp [KO]
theorem KN_hole:KN .hole=True:=(rfl)
theorem KN_arr {k:AK} {ver z:Nat} {es:List AV}:KN (.arr k ver z es)=(ver=0∧es=[]∧k.gr=true):=(rfl)
theorem KV_p {T:Heap} {x y:PV}:KV T (.p x) (.p y)=(x=y):=by
 have:Gh T (.p x) (.p y)↔x=y:=by cases x <;> simp [Gh,GhV,eq_comm]
 simp [KV,this]
def Rnd {α:Type} (N:Nat) (mk:α→St) (ok:α→Prop) (m:α→Nat) (n:Nat) (s:St):Prop:=∃ a',m a'<n∧ok a'∧aaD N s (mk a')
def anD {α:Type} (N:Nat) (mk:α→St) (ok:α→Prop) (m:α→Nat) (n:Nat) (Q:aan→St→Prop) (e:aan) (s:St):Prop :=
 match e with
 | .normal=>Rnd N mk ok m n s
 | e=>Q e s
section
variable {α:Type} {N:Nat} {mk:α→St} {ok:α→Prop} {m:α→Nat} {n:Nat} {Q:aan→St→Prop} {s s':St} {q:Cx}
theorem alW:anD N mk ok m n Q .normal s=Rnd N mk ok m n s:=(rfl)
theorem aqM {id:Nat}:anD N mk ok m n Q (.exit id) s=Q (.exit id) s:=(rfl)
theorem as8:anD N mk ok m n Q .ret s=Q .ret s:=(rfl)
theorem wl {b : Code} (mk : α → St) (ok : α → Prop) (m : α → Nat) (a0 : α) (hok : ok a0) (ade : ∀ a, ok a → aaV P frz q b (anD q.2 mk ok m (m a) Q) (mk a))
    (hn:(mk a0).heap.take q.2=s.heap.take q.2:=by simp) (he:aeA (mk a0).heap s.env (mk a0).env:=by simp) (hh:acu (mk a0).heap s.heap (mk a0).heap:=by simp) (hr:aez (mk a0).heap (mk a0).env:=by simp) (hr2:acD (mk a0).heap (mk a0).heap:=by simp) :
    aaV P frz q (.loop b) Q s:=by
 simp only [aaV];refine ⟨fun n t=>∃ a,ok a∧t=mk a∧n=m a,⟨m a0,mk a0,aaD.og hn he hh hr hr2,a0,hok,rfl,rfl⟩,?_⟩;rintro n t ⟨a,ha,rfl,rfl⟩;have:anD q.2 mk ok m (m a) Q=ajl q.2 (m a) (fun n t=>∃ a,ok a∧t=mk a∧n=m a) Q:=by
  funext e s
  cases e with
  | normal =>
   simp only [anD,ajl,Rnd,eq_iff_iff];constructor
   · rintro ⟨a',h1,h2,h3⟩; exact ⟨m a',mk a',h1,h3,a',h2,rfl,rfl⟩
   · rintro ⟨_,_,h1,h3,a',h2,rfl,rfl⟩; exact ⟨a',h1,h2,h3⟩
  | exit id=>rfl
  | ret=>rfl
 rw [← this]; exact ade a ha
theorem rnd (a' : α) (h2 : ok a') (h1 : m a' < n := by omega) (hn : (mk a').heap.take N = s.heap.take N := by simp) (he : aeA (mk a').heap s.env (mk a').env := by simp) (hh : acu (mk a').heap s.heap (mk a').heap := by simp) (hr : aez (mk a').heap (mk a').env := by simp) (hr2 : acD (mk a').heap (mk a').heap := by simp) :
    Rnd N mk ok m n s:=⟨a',h1,h2,aaD.og hn he hh hr hr2⟩
end
theorem wi64 (n:Int) (h:-9223372036854775808≤n) (h':n≤9223372036854775807):IntKind.i64.wrap n=n:=IntWalk.i64_in n ⟨h,h'⟩
theorem wi1 {i:Nat} (h:i<4611686018427387904):IntKind.i64.wrap ((i:Int)+1)=(i:Int)+1:=wi64 _ (by omega) (by omega)
attribute [simp] Wk Wkl InH Obj.has aif ajw agL aie amh ajr ajD anA alW aqM as8 aeA acu KV_same KV_p KV_nsl KV_st auI KO_hole KO_box KO_new KN_hole KN_arr GhVl GhV AK.gr aez acD aaa Obj.refs
attribute [simp] atF amo Wk.refl Wkl.refl
end
end Go.Abs
namespace Go.Abs
variable [Gl]
mutual
def abz:PV→Prop
 | .str s=>∀ c∈s,c<256
 | .fptr t=>abz t
 | .lst _ es | .seq es | .st _ es | .tup es=>agB es
 | _=>True
def agB:List PV→Prop
 | []=>True
 | v::vs=>abz v∧agB vs
end
section
variable {P:Program} {w:World} {Imm:Nat→Prop}
theorem ap5 (bs:ByteArray):∀ c∈bs.data.toList.map (·.toNat),c<256:=by
 intro c hc;simp only [List.mem_map] at hc;obtain ⟨b,_,rfl⟩:=hc;exact UInt8.toNat_lt b
mutual
theorem PVC.abz:∀ (v:PV) (cs:List Value),PVC P w Imm v cs→abz v
 | .str s,cs,h=>by simp only [PVC] at h; obtain ⟨bs,_,rfl⟩:=h; simp only [Abs.abz]; exact ap5 bs
 | .fptr t,cs,h=>by simp only [PVC] at h; obtain ⟨_,_,ts,h1,_⟩:=h; simp only [Abs.abz]; exact PVC.abz t ts h1
 | .lst f es,cs,h=>by simp only [PVC] at h; obtain ⟨_,_,_,_,css,h1,_⟩:=h; simp only [Abs.abz]; exact PVCl.abz _ es css h1
 | .seq es,cs,h=>by
  simp only [PVC] at h; simp only [Abs.abz];rcases h with ⟨rfl,_⟩ | ⟨_,_,_,_,css,h1,_⟩
  · trivial
  · exact PVCl.abz _ es css h1
 | .st u es,cs,h=>by simp only [PVC] at h; obtain ⟨l,css,_,h1,_⟩:=h; simp only [Abs.abz]; exact PVCl.abz _ es css h1
 | .tup es,cs,h=>by simp [PVC] at h
 | .undef,_,_ | .bool _,_,_ | .int _ _,_,_ | .nptr,_,_ | .nsl,_,_ | .nmap,_,_ | .nfunc,_,_ | .nif,_,_ | .fmap _,_,_ | .func _ _ _,_,_=>by simp [Abs.abz]
theorem PVCl.abz:∀ (l:List Nat) (es:List PV) (css:List (List Value)),PVCl P w Imm l es css→agB es
 | _,[],_,_=>by simp [Abs.agB]
 | [],_::_,_,h=>by simp [PVCl] at h
 | n::l,v::vs,css,h=>by
  simp only [PVCl] at h;obtain ⟨c,cs,_,h1,_,h2⟩:=h;simp only [Abs.agB];exact ⟨PVC.abz v c h1,PVCl.abz l vs cs h2⟩
theorem PVV.abz:∀ (v:PV) (x:Value),PVV P w Imm v x→abz v
 | .str s,cs,h=>by simp only [PVV] at h; obtain ⟨bs,_,rfl⟩:=h; simp only [Abs.abz]; exact ap5 bs
 | .fptr t,cs,h=>by simp only [PVV] at h; obtain ⟨_,_,ts,h1,_⟩:=h; simp only [Abs.abz]; exact PVC.abz t ts h1
 | .lst f es,cs,h=>by simp only [PVV] at h; obtain ⟨_,_,_,_,css,h1,_⟩:=h; simp only [Abs.abz]; exact PVCl.abz _ es css h1
 | .seq es,cs,h=>by
  simp only [PVV] at h; simp only [Abs.abz];rcases h with ⟨rfl,_⟩ | ⟨_,_,_,_,css,h1,_⟩
  · trivial
  · exact PVCl.abz _ es css h1
 | .st u es,cs,h=>by simp only [PVV] at h; obtain ⟨l,css,_,h1,_⟩:=h; simp only [Abs.abz]; exact PVCl.abz _ es css h1
 | .tup es,cs,h=>by simp only [PVV] at h; obtain ⟨xs,h1,_⟩:=h; simp only [Abs.abz]; exact PVVl.abz es xs h1
 | .undef,_,_ | .bool _,_,_ | .int _ _,_,_ | .nptr,_,_ | .nsl,_,_ | .nmap,_,_ | .nfunc,_,_ | .nif,_,_ | .fmap _,_,_ | .func _ _ _,_,_=>by simp [Abs.abz]
theorem PVVl.abz:∀ (es:List PV) (xs:List Value),PVVl P w Imm es xs→agB es
 | [],_,_=>by simp [Abs.agB]
 | v::vs,xs,h=>by
  simp only [PVVl] at h;obtain ⟨y,ys,_,h1,h2⟩:=h;simp only [Abs.agB];exact ⟨PVV.abz v y h1,PVVl.abz vs ys h2⟩
end
end
end Go.Abs
