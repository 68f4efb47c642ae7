import Derived.Test.YtanjnahmbanmaaaGreatDoorThD
/- Parts of a proof. -/
set_option linter.unusedSimpArgs false
set_option linter.unusedVariables false
set_option linter.unusedSectionVars false
namespace Go.Abs
set_option linter.unusedSectionVars false
variable [Gl]
@[reducible] def Tg {α:Type} (_:α) (β:Type):Type:=β
@[reducible] def Tg1 {α:Type 1} (_:α) (β:Type):Type:=β
section
variable (P:Program) (frz:FuncId→Bool)
def abQ (q:Cx) (c:Code) (Q:aan→St→Prop) (s:Tg (q,c,Q) St):Prop:=aaV P frz q c Q s
def opsS (ops:Array Oper) (l:List Oper) (K:St→Prop) (s:Tg (ops,l,K) St):Prop:=opsW P frz ops l K s
def anl (ops:Array Oper) (l:List Oper) (i:Nat) (acc:List Touch) (K:St→Prop) (s:Tg (ops,l,i,acc,K) St):Prop:=acN P frz ops l i acc K s
def seqS (K:St→Prop) (Q:aan→St→Prop) (e:Tg (K,Q) aan) (s:Tg (K,Q) St):Prop:=seqQ K Q e s
def aiR (id:Nat) (Q:aan→St→Prop) (e:Tg (id,Q) aan) (s:Tg (id,Q) St):Prop:=afR id Q e s
def condS (a b:St→Prop) (s:St) (v:Tg (a,b,s) AV):Prop:=aq2 v a b s
def at6 (ops:Array Oper) (r:List Oper) (i:Nat) (acc:List Touch) (K:St→Prop) (dst:Option Tmp) (s:St) (e:Tg (ops,r,i,acc,K,dst,s) Eff):Prop:=at7 P frz ops r i acc K dst s e
def appS (dst:Option Tmp) (s:St) (K:St→Prop) (e:Tg (dst,s,K) Eff):Prop:=appK dst s K e
def putS (dst:Option Tmp) (s:St) (K:St→Prop) (v:Tg (dst,s,K) AV) (H:Tg (dst,s,K) Heap):Prop:=putK dst s K v H
def atu (ops:Array Oper) (o:Oper) (r:List Oper) (K:St→Prop) (want:Bool) (s:St) (g:Tg (ops,o,r,K,want,s) AV):Prop:=apB P frz ops o r K want s g
def anV (ops:Array Oper) (o:Oper) (r:List Oper) (i:Nat) (acc:List Touch) (K:St→Prop) (want:Bool) (s:St) (g:Tg (ops,o,r,i,acc,K,want,s) AV):Prop:=aku P frz ops o r i acc K want s g
def aaP (o:Oper) (K:St→Prop) (s:St) (_:Tg (o,K,s) Unit):Prop:=aaA P frz o K s
def aaL (o:Oper) (s:St) (K:Eff→Prop) (_:Tg (o,K,s) Unit):Prop:=aaB P frz o s K
def runS (K:Eff→Prop) (r:Tg K Res):Prop:=runR r K
def awq (H:Heap) (K:AV→Heap→Prop) (f:Tg (H,K) AV) (args:Tg (H,K) (List AV)):Prop:=an8 P f args H K
def aue (H:Heap) (K:Eff→Prop) (f:Tg (H,K) AV) (args:Tg (H,K) (List AV)):Prop:=aiI P f args H K
def agy (d:Bool) (f:FuncId) (K:AV→Heap→Prop) (args:Tg K (List AV)) (H:Tg K Heap):Prop:=abM P d f args H K
def afX (f:FuncId) (K:Eff→Prop) (args:Tg K (List AV)) (H:Tg K Heap):Prop:=adj P f args H K
def aoq (R:AV→PV→Prop):List AV→List PV→Prop
 | [],vs=>vs=[]
 | x::xs,vs=>match vs with
  | v::vs=>R x v∧aoq R xs vs
  | []=>False
def Pur (H:Heap):Nat→AV→PV→Prop
 | 0=>fun x v=>match x with
  | .p a=>Wk a v
  | _=>False
 | n+1=>fun x v=>match x with
  | .p a=>Wk a v
  | .sl b ver z off len=>match v with
   | .seq fs=>match H[b]? with
    | some (.arr _ ver' z' es)=>ver=ver'∧z=z'∧off+len≤es.length∧aoq (Pur H n) ((es.drop off).take len) fs
    | _=>False
   | _=>False
  | .st u xs=>match v with
   | .st u' vs=>u=u'∧aoq (Pur H n) xs vs
   | _=>False
  | .tup xs=>match v with
   | .tup vs=>aoq (Pur H n) xs vs
   | _=>False
  | .ptr b path=>match v with
   | .fptr t=>match H[b]? with
    | some (.box _ y)=>match subA y path with
     | some s=>Pur H n s t
     | none=>False
    | _=>False
   | _=>False
  | .map b=>match v with
   | .fmap es=>match H[b]? with
    | some (.map _ es')=>es'=es
    | _=>False
   | _=>False
  | .func f xs ys=>match v with
   | .func f' vs us=>f=f'∧aoq (Pur H n) xs vs∧aoq (Pur H n) ys us
   | _=>False
  | _=>False
def Purl (H:Heap) (n:Nat):List AV→List PV→Prop:=aoq (Pur H n)
def aov (rs:List ResultVar) (v:PV) (e:Tg (rs,v) aan) (s:Tg (rs,v) St):Prop :=
 (match e with
  | .exit _=>False
  | _=>True)∧∃ vs,aaO P s rs=some vs∧Pur (St.heap s) 9 (oneOf vs) v
def aoK (ops:Array Oper) (l:Tg ops (List Touch)):Bool:=ab5 ops l
def reachS (ops:Array Oper) (i j:Tg ops Nat):Bool:=reach ops ops.size i j
end
section
variable {P:Program} {frz:FuncId→Bool} {q:Cx}
theorem w_skip' {Q:aan→St→Prop} {s:St}:abQ P frz q .skip Q s=Q .normal s:=awW
theorem auS {l:Nat} {Q:aan→St→Prop} {s:St}:abQ P frz q (.label l) Q s=Q .normal s:=arv
theorem w_exit' {id:Nat} {Q:aan→St→Prop} {s:St}:abQ P frz q (.exit id) Q s=Q (.exit id) s:=awX
theorem w_ret' {Q:aan→St→Prop} {s:St}:abQ P frz q .ret Q s=Q .ret s:=w_ret
theorem auQ {b:Code} {Q:aan→St→Prop} {s:St}:abQ P frz q (.scope b) Q s=abQ P frz q b Q s:=art
theorem w_draw' {id:Nat} {l:List Oper} {Q:aan→St→Prop} {s:St}:abQ P frz q (.region id l.toArray true) Q s=anl P frz l.toArray l 0 [] (Q .normal) s:=awY
theorem auR {id:Nat} {l:List Oper} {Q:aan→St→Prop} {s:St}:abQ P frz q (.region id l.toArray false) Q s=opsS P frz l.toArray l (Q .normal) s:=aru
theorem aai {a b:Code} {Q:aan→St→Prop} {s:St}:abQ P frz q (.seq a b) Q s=abQ P frz q a (seqS (abQ P frz q b Q) Q) s:=w_seq
theorem aoy {id:Nat} {b:Code} {Q:aan→St→Prop} {s:St}:abQ P frz q (.block id b) Q s=abQ P frz q b (aiR id Q) s:=arw
theorem w_cond' {c:Operand} {a b:Code} {Q:aan→St→Prop} {s:St}:abQ P frz q (.cond c a b) Q s=condS (abQ P frz q a Q) (abQ P frz q b Q) s (ev s.env c):=awZ
theorem alg {K:St→Prop} {Q:aan→St→Prop} {s:St}:seqS K Q .normal s=K s:=ahx
theorem aqv {id:Nat} {K:St→Prop} {Q:aan→St→Prop} {s:St}:seqS K Q (.exit id) s=Q (.exit id) s:=alh
theorem ar2 {K:St→Prop} {Q:aan→St→Prop} {s:St}:seqS K Q .ret s=Q .ret s:=aoU
theorem an6 {t:Bool} {a b:St→Prop} {s:St}:condS a b s (.p (.bool t))=if t then a s else b s:=ajF
theorem at5 {ops:Array Oper} {r:List Oper} {i:Nat} {acc:List Touch} {K:St→Prop} {dst:Option Tmp} {env:Env} {heap:Heap} {v:AV} {hin hset:List (Nat×Obj)} {hnew:List Obj}:at6 P frz ops r i acc K dst ⟨env,heap⟩ ⟨v,hin,hset,hnew⟩=anl P frz ops r (i+1) (ac7 i heap.length ⟨v,hin,hset,hnew⟩ acc) K ⟨put dst v env,aaj heap hset ++ hnew⟩:=apT
theorem awL {dst:Option Tmp} {env:Env} {heap:Heap} {K:St→Prop} {v:AV} {hin hset:List (Nat×Obj)} {hnew:List Obj}:appS dst ⟨env,heap⟩ K ⟨v,hin,hset,hnew⟩=K ⟨put dst v env,aaj heap hset ++ hnew⟩:=auE
theorem avl {dst:Option Tmp} {env:Env} {heap H:Heap} {K:St→Prop} {v:AV}:putS dst ⟨env,heap⟩ K v H=K ⟨put dst v env,H⟩:=asu
theorem wd_nil' {ops:Array Oper} {i:Nat} {acc:List Touch} {K:St→Prop} {s:St}:anl P frz ops [] i acc K s=(aoK ops acc=true∧K s):=awV
theorem auP {ops:Array Oper} {i ty:Nat} {pos:String} {acc:List Touch} {K:St→Prop} {s:St} {dst:Option Tmp} {op:Op} {af:Array Edge} {r:List Oper}:anl P frz ops ({ dst,op,type:=ty,pos,after:=af,guard:=none }::r) i acc K s=aaL P frz { dst,op,type:=ty,pos,after:=af,guard:=none } s (at6 P frz ops r i acc K dst s) ():=ars
theorem arq {ops:Array Oper} {i ty j:Nat} {want:Bool} {pos:String} {acc:List Touch} {K:St→Prop} {s:St} {dst:Option Tmp} {op:Op} {af:Array Edge} {r:List Oper}:anl P frz ops ({ dst,op,type:=ty,pos,after:=af,guard:=some (j,want) }::r) i acc K s=anV P frz ops { dst,op,type:=ty,pos,after:=af,guard:=some (j,want) } r i acc K want s (guardOf ops j s.env):=aox
theorem wp_nil' {ops:Array Oper} {K:St→Prop} {s:St}:opsS P frz ops [] K s=K s:=awT
theorem auO {ops:Array Oper} {ty:Nat} {pos:String} {K:St→Prop} {s:St} {dst:Option Tmp} {op:Op} {af:Array Edge} {r:List Oper}:opsS P frz ops ({ dst,op,type:=ty,pos,after:=af,guard:=none }::r) K s=aaP P frz { dst,op,type:=ty,pos,after:=af,guard:=none } (opsS P frz ops r K) s ():=arn
theorem arl {ops:Array Oper} {ty j:Nat} {want:Bool} {pos:String} {K:St→Prop} {s:St} {dst:Option Tmp} {op:Op} {af:Array Edge} {r:List Oper}:opsS P frz ops ({ dst,op,type:=ty,pos,after:=af,guard:=some (j,want) }::r) K s=atu P frz ops { dst,op,type:=ty,pos,after:=af,guard:=some (j,want) } r K want s (guardOf ops j s.env):=aow
section ops
variable {dst:Option Tmp} {ty:Nat} {pos:String} {af:Array Edge} {g:Option (Nat×Bool)} {env:Env} {heap:Heap} {K:Eff→Prop} {L:St→Prop}
theorem d_move' {x:Operand}:aaL P frz ⟨dst,.move x,ty,pos,af,g⟩ ⟨env,heap⟩ K ()=K { v:=ev env x }:=ayZ
theorem atX {x:Operand}:aaL P frz ⟨dst,.assign x,ty,pos,af,g⟩ ⟨env,heap⟩ K ()=K { v:=ev env x }:=apR
theorem d_pick' {c a b:Operand}:aaL P frz ⟨dst,.pick c a b,ty,pos,af,g⟩ ⟨env,heap⟩ K ()=runS K (anf (ev env c) (ev env a) (ev env b)):=ayX
theorem awj {T:TypeId}:aaL P frz ⟨dst,.alloc T,ty,pos,af,g⟩ ⟨env,heap⟩ K ()=runS K (aiT P T heap.length):=atZ
theorem d_box' {T:TypeId} {x:Operand}:aaL P frz ⟨dst,.box T x,ty,pos,af,g⟩ ⟨env,heap⟩ K ()=runS K (boxV P T heap.length (ev env x)):=d_box
theorem awi {T:TypeId} {parts:Array (Nat×Operand)}:aaL P frz ⟨dst,.build T parts,ty,pos,af,g⟩ ⟨env,heap⟩ K ()=runS K (aiP P T (parts.toList.map fun (i,x)=>(i,ev env x))):=atW
theorem akF {T:TypeId} {n:Nat} {parts:Array (Nat×Operand)}:aaL P frz ⟨dst,.buildSlice T n parts,ty,pos,af,g⟩ ⟨env,heap⟩ K ()=runS K (abR P T n (parts.toList.map fun (i,x)=>(i,ev env x)) heap.length):=agN
theorem d_load' {T:TypeId} {a:Operand}:aaL P frz ⟨dst,.load T a,ty,pos,af,g⟩ ⟨env,heap⟩ K ()=runS K (alY P T heap (ev env a)):=ay0
theorem awd {T:TypeId} {a x:Operand}:aaL P frz ⟨dst,.store T a x,ty,pos,af,g⟩ ⟨env,heap⟩ K ()=runS K (agC P T heap (ev env a) (ev env x)):=atP
theorem d_bin' {op:BinOp} {T T':TypeId} {x y:Operand}:aaL P frz ⟨dst,.binOp op T x y T',ty,pos,af,g⟩ ⟨env,heap⟩ K ()=runS K (binV P op T (isC y) heap (ev env x) (ev env y)):=d_bin
theorem d_un' {op:UnOp} {T:TypeId} {x:Operand}:aaL P frz ⟨dst,.unOp op T x,ty,pos,af,g⟩ ⟨env,heap⟩ K ()=runS K (unV op (ev env x)):=d_un
theorem d_conv' {S D:TypeId} {x:Operand}:aaL P frz ⟨dst,.convert S D x,ty,pos,af,g⟩ ⟨env,heap⟩ K ()=runS K (an5 P S D heap (ev env x)):=ay2
theorem aq1 {t:Operand} {i:Nat}:aaL P frz ⟨dst,.extract t i,ty,pos,af,g⟩ ⟨env,heap⟩ K ()=runS K (adV (ev env t) i):=amx
theorem amw {T:TypeId} {a:Operand} {f:Nat}:aaL P frz ⟨dst,.fieldAddr T a f,ty,pos,af,g⟩ ⟨env,heap⟩ K ()=runS K (abU P T (ev env a) f):=aiB
theorem amv {T:TypeId} {x i:Operand}:aaL P frz ⟨dst,.indexAddr T x i,ty,pos,af,g⟩ ⟨env,heap⟩ K ()=runS K (abT P T heap (ev env x) (ev env i)):=aiA
theorem awg {T:TypeId} {x i:Operand}:aaL P frz ⟨dst,.index T x i,ty,pos,af,g⟩ ⟨env,heap⟩ K ()=runS K (aid P T (ev env x) (ev env i)):=atV
theorem d_len' {x:Operand} {aT:Array TypeId}:aaL P frz ⟨dst,.call { callee:=.builtin .len,args:=#[x],argTypes:=aT },ty,pos,af,g⟩ ⟨env,heap⟩ K ()=runS K (lenV P (aT.getD 0 0) aT.size heap (ev env x)):=d_len
theorem d_call' {f:Operand} {args:List Operand} {aT:Array TypeId}:aaL P frz ⟨dst,.call { callee:=.value f,args:=args.toArray,argTypes:=aT },ty,pos,af,g⟩ ⟨env,heap⟩ K ()=aue P heap K (ev env f) (args.map (ev env)):=ay3
theorem p_move' {x:Operand}:aaP P frz ⟨dst,.move x,ty,pos,af,g⟩ L ⟨env,heap⟩ ()=appS dst ⟨env,heap⟩ L { v:=ev env x }:=axc
theorem asG {x:Operand}:aaP P frz ⟨dst,.assign x,ty,pos,af,g⟩ L ⟨env,heap⟩ ()=appS dst ⟨env,heap⟩ L { v:=ev env x }:=ao6
theorem p_pick' {c a b:Operand}:aaP P frz ⟨dst,.pick c a b,ty,pos,af,g⟩ L ⟨env,heap⟩ ()=runS (appS dst ⟨env,heap⟩ L) (anf (ev env c) (ev env a) (ev env b)):=axa
theorem avw {T:TypeId}:aaP P frz ⟨dst,.alloc T,ty,pos,af,g⟩ L ⟨env,heap⟩ ()=runS (appS dst ⟨env,heap⟩ L) (aiT P T heap.length):=asI
theorem p_box' {T:TypeId} {x:Operand}:aaP P frz ⟨dst,.box T x,ty,pos,af,g⟩ L ⟨env,heap⟩ ()=runS (appS dst ⟨env,heap⟩ L) (boxV P T heap.length (ev env x)):=p_box
theorem avu {T:TypeId} {parts:Array (Nat×Operand)}:aaP P frz ⟨dst,.build T parts,ty,pos,af,g⟩ L ⟨env,heap⟩ ()=runS (appS dst ⟨env,heap⟩ L) (aiP P T (parts.toList.map fun (i,x)=>(i,ev env x))):=asF
theorem akb {T:TypeId} {n:Nat} {parts:Array (Nat×Operand)}:aaP P frz ⟨dst,.buildSlice T n parts,ty,pos,af,g⟩ L ⟨env,heap⟩ ()=runS (appS dst ⟨env,heap⟩ L) (abR P T n (parts.toList.map fun (i,x)=>(i,ev env x)) heap.length):=agH
theorem p_load' {T:TypeId} {a:Operand}:aaP P frz ⟨dst,.load T a,ty,pos,af,g⟩ L ⟨env,heap⟩ ()=runS (appS dst ⟨env,heap⟩ L) (alY P T heap (ev env a)):=axd
theorem avo {T:TypeId} {a x:Operand}:aaP P frz ⟨dst,.store T a x,ty,pos,af,g⟩ L ⟨env,heap⟩ ()=runS (appS dst ⟨env,heap⟩ L) (agC P T heap (ev env a) (ev env x)):=asz
theorem p_bin' {op:BinOp} {T T':TypeId} {x y:Operand}:aaP P frz ⟨dst,.binOp op T x y T',ty,pos,af,g⟩ L ⟨env,heap⟩ ()=runS (appS dst ⟨env,heap⟩ L) (binV P op T (isC y) heap (ev env x) (ev env y)):=p_bin
theorem p_un' {op:UnOp} {T:TypeId} {x:Operand}:aaP P frz ⟨dst,.unOp op T x,ty,pos,af,g⟩ L ⟨env,heap⟩ ()=runS (appS dst ⟨env,heap⟩ L) (unV op (ev env x)):=p_un
theorem p_conv' {S D:TypeId} {x:Operand}:aaP P frz ⟨dst,.convert S D x,ty,pos,af,g⟩ L ⟨env,heap⟩ ()=runS (appS dst ⟨env,heap⟩ L) (an5 P S D heap (ev env x)):=axf
theorem aqE {t:Operand} {i:Nat}:aaP P frz ⟨dst,.extract t i,ty,pos,af,g⟩ L ⟨env,heap⟩ ()=runS (appS dst ⟨env,heap⟩ L) (adV (ev env t) i):=alB
theorem alA {T:TypeId} {a:Operand} {f:Nat}:aaP P frz ⟨dst,.fieldAddr T a f,ty,pos,af,g⟩ L ⟨env,heap⟩ ()=runS (appS dst ⟨env,heap⟩ L) (abU P T (ev env a) f):=ahS
theorem alz {T:TypeId} {x i:Operand}:aaP P frz ⟨dst,.indexAddr T x i,ty,pos,af,g⟩ L ⟨env,heap⟩ ()=runS (appS dst ⟨env,heap⟩ L) (abT P T heap (ev env x) (ev env i)):=ahR
theorem avr {T:TypeId} {x i:Operand}:aaP P frz ⟨dst,.index T x i,ty,pos,af,g⟩ L ⟨env,heap⟩ ()=runS (appS dst ⟨env,heap⟩ L) (aid P T (ev env x) (ev env i)):=asE
theorem p_len' {x:Operand} {aT:Array TypeId}:aaP P frz ⟨dst,.call { callee:=.builtin .len,args:=#[x],argTypes:=aT },ty,pos,af,g⟩ L ⟨env,heap⟩ ()=runS (appS dst ⟨env,heap⟩ L) (lenV P (aT.getD 0 0) aT.size heap (ev env x)):=p_len
theorem p_call' {f:Operand} {args:List Operand} {aT:Array TypeId}:aaP P frz ⟨dst,.call { callee:=.value f,args:=args.toArray,argTypes:=aT },ty,pos,af,g⟩ L ⟨env,heap⟩ ()=awq P heap (putS dst ⟨env,heap⟩ L) (ev env f) (args.map (ev env)):=axg
theorem awe {T:TypeId} {x:Operand} {lo hi:Option Operand}:aaL P frz ⟨dst,.slice T x lo hi none,ty,pos,af,g⟩ ⟨env,heap⟩ K ()=runS K (agF P T heap (ev env x) (lo.map (ev env)) (hi.map (ev env))):=atQ
theorem avp {T:TypeId} {x:Operand} {lo hi:Option Operand}:aaP P frz ⟨dst,.slice T x lo hi none,ty,pos,af,g⟩ L ⟨env,heap⟩ ()=runS (appS dst ⟨env,heap⟩ L) (agF P T heap (ev env x) (lo.map (ev env)) (hi.map (ev env))):=asA
theorem atT {T:TypeId} {x i:Operand} {ok:Bool}:aaL P frz ⟨dst,.lookup T x i ok,ty,pos,af,g⟩ ⟨env,heap⟩ K ()=runS K (anF P T heap (ev env x) (ev env i) ok):=apP
theorem asC {T:TypeId} {x i:Operand} {ok:Bool}:aaP P frz ⟨dst,.lookup T x i ok,ty,pos,af,g⟩ L ⟨env,heap⟩ ()=runS (appS dst ⟨env,heap⟩ L) (anF P T heap (ev env x) (ev env i) ok):=ao4
theorem ams {T:TypeId} {m k x:Operand}:aaL P frz ⟨dst,.mapUpdate T m k x,ty,pos,af,g⟩ ⟨env,heap⟩ K ()=runS K (insV P T heap (ev env m) (ev env k) (ev env x)):=aiy
theorem alw {T:TypeId} {m k x:Operand}:aaP P frz ⟨dst,.mapUpdate T m k x,ty,pos,af,g⟩ L ⟨env,heap⟩ ()=runS (appS dst ⟨env,heap⟩ L) (insV P T heap (ev env m) (ev env k) (ev env x)):=ahP
theorem atU {T:TypeId} {m k x:Operand}:aaL P frz ⟨dst,.insert T m k x,ty,pos,af,g⟩ ⟨env,heap⟩ K ()=runS K (insV P T heap (ev env m) (ev env k) (ev env x)):=apQ
theorem asD {T:TypeId} {m k x:Operand}:aaP P frz ⟨dst,.insert T m k x,ty,pos,af,g⟩ L ⟨env,heap⟩ ()=runS (appS dst ⟨env,heap⟩ L) (insV P T heap (ev env m) (ev env k) (ev env x)):=ao5
theorem awf {T:TypeId} {x:Operand}:aaL P frz ⟨dst,.range T x,ty,pos,af,g⟩ ⟨env,heap⟩ K ()=runS K (ahF P T heap.length (ev env x)):=atS
theorem avq {T:TypeId} {x:Operand}:aaP P frz ⟨dst,.range T x,ty,pos,af,g⟩ L ⟨env,heap⟩ ()=runS (appS dst ⟨env,heap⟩ L) (ahF P T heap.length (ev env x)):=asB
theorem d_next' {it:Operand}:aaL P frz ⟨dst,.next it true,ty,pos,af,g⟩ ⟨env,heap⟩ K ()=runS K (anu heap (ev env it)):=ayY
theorem p_next' {it:Operand}:aaP P frz ⟨dst,.next it true,ty,pos,af,g⟩ L ⟨env,heap⟩ ()=runS (appS dst ⟨env,heap⟩ L) (anu heap (ev env it)):=axb
theorem amt {T:TypeId} {l c:Operand}:aaL P frz ⟨dst,.makeSlice T l c,ty,pos,af,g⟩ ⟨env,heap⟩ K ()=runS K (anw P T heap.length (ev env l) (ev env c)):=aiz
theorem alx {T:TypeId} {l c:Operand}:aaP P frz ⟨dst,.makeSlice T l c,ty,pos,af,g⟩ L ⟨env,heap⟩ ()=runS (appS dst ⟨env,heap⟩ L) (anw P T heap.length (ev env l) (ev env c)):=ahQ
theorem an3 {x:Operand}:aaL P frz ⟨dst,.nilCheck x,ty,pos,af,g⟩ ⟨env,heap⟩ K ()=runS K (afa (ev env x)):=ajC
theorem anj {x:Operand}:aaP P frz ⟨dst,.nilCheck x,ty,pos,af,g⟩ L ⟨env,heap⟩ ()=runS (appS dst ⟨env,heap⟩ L) (afa (ev env x)):=ajq
theorem d_min' {args:Array Operand} {aT:Array TypeId}:aaL P frz ⟨dst,.call { callee:=.builtin .min,args,argTypes:=aT },ty,pos,af,g⟩ ⟨env,heap⟩ K ()=runS K (minV false (args.toList.map (ev env))):=d_min
theorem p_min' {args:Array Operand} {aT:Array TypeId}:aaP P frz ⟨dst,.call { callee:=.builtin .min,args,argTypes:=aT },ty,pos,af,g⟩ L ⟨env,heap⟩ ()=runS (appS dst ⟨env,heap⟩ L) (minV false (args.toList.map (ev env))):=p_min
theorem d_max' {args:Array Operand} {aT:Array TypeId}:aaL P frz ⟨dst,.call { callee:=.builtin .max,args,argTypes:=aT },ty,pos,af,g⟩ ⟨env,heap⟩ K ()=runS K (minV true (args.toList.map (ev env))):=d_max
theorem p_max' {args:Array Operand} {aT:Array TypeId}:aaP P frz ⟨dst,.call { callee:=.builtin .max,args,argTypes:=aT },ty,pos,af,g⟩ L ⟨env,heap⟩ ()=runS (appS dst ⟨env,heap⟩ L) (minV true (args.toList.map (ev env))):=p_max
theorem aq0 {T:TypeId}:aaL P frz ⟨dst,.makeMap T none,ty,pos,af,g⟩ ⟨env,heap⟩ K ()=K { v:=.map heap.length,hnew:=[.map false []] }:=amu
theorem aqD {T:TypeId}:aaP P frz ⟨dst,.makeMap T none,ty,pos,af,g⟩ L ⟨env,heap⟩ ()=appS dst ⟨env,heap⟩ L { v:=.map heap.length,hnew:=[.map false []] }:=aly
theorem atY {s x:Operand} {T X:TypeId}:aaL P frz ⟨dst,.call { callee:=.builtin .append,args:=#[s,x],argTypes:=#[T,X] },ty,pos,af,g⟩ ⟨env,heap⟩ K ()=runS K (aex P T X heap (ev env s) (ev env x)):=apS
theorem asH {s x:Operand} {T X:TypeId}:aaP P frz ⟨dst,.call { callee:=.builtin .append,args:=#[s,x],argTypes:=#[T,X] },ty,pos,af,g⟩ L ⟨env,heap⟩ ()=runS (appS dst ⟨env,heap⟩ L) (aex P T X heap (ev env s) (ev env x)):=ao7
theorem d_copy' {s x:Operand} {T X:TypeId}:aaL P frz ⟨dst,.call { callee:=.builtin .copy,args:=#[s,x],argTypes:=#[T,X] },ty,pos,af,g⟩ ⟨env,heap⟩ K ()=runS K (copyV P T heap (ev env s) (ev env x)):=ay1
theorem p_copy' {s x:Operand} {T X:TypeId}:aaP P frz ⟨dst,.call { callee:=.builtin .copy,args:=#[s,x],argTypes:=#[T,X] },ty,pos,af,g⟩ L ⟨env,heap⟩ ()=runS (appS dst ⟨env,heap⟩ L) (copyV P T heap (ev env s) (ev env x)):=axe
theorem cv_fn' {f:FuncId} {fi ca:List AV} {args:List AV} {M:AV→Heap→Prop}:awq P heap M (.func f fi ca) args=agy P false f M (fi ++ args ++ ca) heap:=cv_fn
theorem cvd_fn' {f:FuncId} {fi ca:List AV} {args:List AV}:aue P heap K (.func f fi ca) args=afX P f K (fi ++ args ++ ca) heap:=ay4
theorem cv_p' {f:FuncId} {fi ca:List PV} {args:List AV} {M:AV→Heap→Prop}:awq P heap M (.p (.func f fi ca)) args=agy P false f M (fi.map .p ++ args ++ ca.map .p) heap:=cv_p
theorem cvd_p' {f:FuncId} {fi ca:List PV} {args:List AV}:aue P heap K (.p (.func f fi ca)) args=afX P f K (fi.map .p ++ args ++ ca.map .p) heap:=cvd_p
end ops
section guards
variable {ops:Array Oper} {o:Oper} {r:List Oper} {K:St→Prop} {want t:Bool} {s:St} {i:Nat} {acc:List Touch}
theorem amf:atu P frz ops o r K want s (.p (.bool t))=if t=want then aaP P frz o (opsS P frz ops r K) s () else opsS P frz ops r K ⟨put o.dst (.p (.tup [])) s.env,s.heap⟩:=aif
theorem anU:atu P frz ops o r K want s (.p (.tup []))=opsS P frz ops r K ⟨put o.dst (.p (.tup [])) s.env,s.heap⟩:=ajw
theorem akt:anV P frz ops o r i acc K want s (.p (.bool t))=if t=want then aaL P frz o s (at6 P frz ops r i acc K o.dst s) () else anl P frz ops r (i+1) acc K ⟨put o.dst (.p (.tup [])) s.env,s.heap⟩:=agL
theorem ame:anV P frz ops o r i acc K want s (.p (.tup []))=anl P frz ops r (i+1) acc K ⟨put o.dst (.p (.tup [])) s.env,s.heap⟩:=aie
end guards
theorem akT {id:Nat} {Q:aan→St→Prop} {s:St}:aiR id Q .normal s=Q .normal s:=(rfl)
theorem aok {id i:Nat} {Q:aan→St→Prop} {s:St}:aiR id Q (.exit i) s=if i=id then Q .normal s else Q (.exit i) s:=(rfl)
theorem arb {id:Nat} {Q:aan→St→Prop} {s:St}:aiR id Q .ret s=Q .ret s:=(rfl)
section makeFunc
variable {dst:Option Tmp} {ty:Nat} {pos:String} {af:Array Edge} {g:Option (Nat×Bool)} {env:Env} {heap:Heap} {L:St→Prop} {K:Eff→Prop} {f:FuncId} {fi ca:Array Operand}
theorem ank (hf:frz f=false):aaP P frz ⟨dst,.makeFunc (.func f) fi ca,ty,pos,af,g⟩ L ⟨env,heap⟩ ()=runS (appS dst ⟨env,heap⟩ L) (anA f (fi.toList.map (ev env)) (ca.toList.map (ev env))):=ajr hf
theorem an4 (hf:frz f=false):aaL P frz ⟨dst,.makeFunc (.func f) fi ca,ty,pos,af,g⟩ ⟨env,heap⟩ K ()=runS K (anA f (fi.toList.map (ev env)) (ca.toList.map (ev env))):=ajD hf
end makeFunc
theorem ar7 {p:Prop} {e:Eff} {K:Eff→Prop}:runS K (some (p,e))=(p∧K e):=(rfl)
theorem ar8 {K:Eff→Prop}:runS K none=False:=(rfl)
theorem aqm {ops:Array Oper}:aoK ops []=true:=(rfl)
theorem amV {ops:Array Oper} {t:Touch} {r:List Touch}:aoK ops (t::r)=(r.all (fun u=>!aeR u t || reachS ops u.i t.i) && aoK ops r):=(rfl)
theorem atG {rs:List ResultVar} {v:PV} {s:St}:aov P rs v .ret s = ∃ vs,aaO P s rs=some vs∧Pur s.heap 9 (oneOf vs) v:=by simp [aov]
theorem amp {rs:List ResultVar} {v:PV} {s:St}:aov P rs v .normal s = ∃ vs,aaO P s rs=some vs∧Pur s.heap 9 (oneOf vs) v:=by simp [aov]
section pur
variable {H:Heap}
theorem pur_p {n:Nat} {a v:PV}:Pur H n (.p a) v=Wk a v:=by cases n <;> rfl
theorem aw9 {n b ver z off len : Nat} {fs : List PV} : Pur H (n + 1) (.sl b ver z off len) (.seq fs) = match H[b]? with
    | some (.arr _ ver' z' es)=>ver=ver'∧z=z'∧off+len≤es.length∧Purl H n ((es.drop off).take len) fs
    | _=>False:=(rfl)
theorem pur_st {n:Nat} {u u':TypeId} {xs:List AV} {vs:List PV}:Pur H (n+1) (.st u xs) (.st u' vs)=(u=u'∧Purl H n xs vs):=(rfl)
theorem pur_tup {n:Nat} {xs:List AV} {vs:List PV}:Pur H (n+1) (.tup xs) (.tup vs)=Purl H n xs vs:=(rfl)
theorem asv {n b : Nat} {es : List (PV × PV)} : Pur H (n + 1) (.map b) (.fmap es) = match H[b]? with
    | some (.map _ es')=>es'=es
    | _=>False:=(rfl)
theorem pur_fn {n:Nat} {f f':FuncId} {xs ys:List AV} {vs us:List PV}:Pur H (n+1) (.func f xs ys) (.func f' vs us)=(f=f'∧Purl H n xs vs∧Purl H n ys us):=(rfl)
theorem ag2 {n:Nat} {vs:List PV}:Purl H n [] vs=(vs=[]):=(rfl)
theorem ahH {n:Nat} {x:AV} {xs:List AV} {v:PV} {vs:List PV}:Purl H n (x::xs) (v::vs)=(Pur H n x v∧Purl H n xs vs):=(rfl)
theorem ao1 {α:Type} {n:Nat} {g:α→AV} {f:α→PV}:∀ {l:List α},Purl H n (l.map g) (l.map f) = ∀ x∈l,Pur H n (g x) (f x)
 | []=>by simp [ag2]
 | a::l=>by simp [ahH,ao1 (l:=l)]
theorem af9 (n:Nat) (ih:∀ (x:AV) (v:PV),Pur H n x v→∃ v',purR H n x=some v'∧Wk v' v):∀ (xs:List AV) (vs:List PV),Purl H n xs vs→∃ ps,mapO (purR H n) xs=some ps∧Wkl ps vs
 | [],vs,h=>by rw [ag2] at h; subst h; exact ⟨[],rfl,by simp [Wkl]⟩
 | x::xs,vs,h=>by
  cases vs with
  | nil=>exact h.elim
  | cons v vs =>
   rw [ahH] at h;obtain ⟨p,h1,h2⟩:=ih x v h.1;obtain ⟨ps,h3,h4⟩:=af9 n ih xs vs h.2;exact ⟨p::ps,by simp [mapO,h1,h3],by simp only [Wkl]; exact ⟨h2,h4⟩⟩
theorem ahI:∀ (n:Nat) (x:AV) (v:PV),Pur H n x v→∃ v',purR H n x=some v'∧Wk v' v
 | 0,x,v,h=>by
  cases x with
  | p a=>exact ⟨_,rfl,h⟩
  | _=>exact h.elim
 | n+1,x,v,h=>by
  cases x with
  | p a=>rw [pur_p] at h; exact ⟨_,rfl,h⟩
  | sl b ver z off len =>
   cases v with
   | seq fs =>
    rw [aw9] at h
    split at h
    case h_2=>exact h.elim
    rename_i k ver' z' es hob;obtain ⟨rfl,rfl,h1,h2⟩:=h;obtain ⟨ps,h3,h4⟩:=af9 n (ahI n) _ _ h2;simp only [purR,hob,h1,and_self,if_true]
    split
    · rename_i hn;rw [hn.2] at h2;simp only [List.drop_nil,List.take_nil,ag2] at h2;exact ⟨_,rfl,by rw [h2]; simp [Wk]⟩
    · rw [h3]; exact ⟨_,rfl,by simp only [Wk]; exact h4⟩
   | _=>exact h.elim
  | st u xs =>
   cases v with
   | st u' vs =>
    obtain ⟨rfl,h⟩:=h;obtain ⟨ps,h3,h4⟩:=af9 n (ahI n) _ _ h;simp only [purR,h3];exact ⟨_,rfl,by simp only [Wk]; exact ⟨trivial,h4⟩⟩
   | _=>exact h.elim
  | tup xs =>
   cases v with
   | tup vs =>
    obtain ⟨ps,h3,h4⟩:=af9 n (ahI n) _ _ h;simp only [purR,h3];exact ⟨_,rfl,by simp only [Wk]; exact h4⟩
   | _=>exact h.elim
  | ptr b path =>
   cases v with
   | fptr t =>
    change (match H[b]? with
     | some (.box _ y)=>match subA y path with
      | some s=>Pur H n s t
      | none=>False
     | _=>False) at h
    split at h
    case h_2=>exact h.elim
    rename_i hob
    split at h
    case h_2=>exact h.elim
    rename_i s hs;obtain ⟨p,h3,h4⟩:=ahI n _ _ h;simp only [purR,hob,hs,h3];exact ⟨_,rfl,by simp only [Wk]; exact h4⟩
   | _=>exact h.elim
  | eptr _ _ _ _ _=>exact h.elim
  | map b =>
   cases v with
   | fmap es =>
    rw [asv] at h
    split at h
    case h_2=>exact h.elim
    rename_i fz es' hob;subst h;simp only [purR,hob];exact ⟨_,rfl,Wk.refl _⟩
   | _=>exact h.elim
  | func f xs ys =>
   cases v with
   | func f' vs us =>
    obtain ⟨rfl,h,h'⟩:=h;obtain ⟨ps,h3,h4⟩:=af9 n (ahI n) _ _ h;obtain ⟨ps',h3',h4'⟩:=af9 n (ahI n) _ _ h';simp only [purR,h3,h3'];exact ⟨_,rfl,by simp only [Wk]; exact ⟨trivial,h4,h4'⟩⟩
   | _=>exact h.elim
end pur
theorem av3 {f : FuncId} {fn : Func} (frz : FuncId → Bool) (h : IsFn P f fn) (hmix : P.follows .mixedOrders = true) {args : List PV} {v : PV} (hn : args.length ≤ fn.ntmps)
    (hwp:abQ P frz (fn.ntmps,0) (fn.body.getD .skip) (aov P fn.results.toList v) ⟨ab3 0 (args.map .p),[]⟩):aot P f args v:=by
 have hs:=h.stat;simp only [Bool.and_eq_true,bne_iff_ne] at hs;have hb:fn.body=some (fn.body.getD .skip):=by
  have h1:=hs.1.1;clear hwp hs;cases hfb:fn.body with
  | none=>rw [hfb] at h1; simp at h1
  | some c=>rfl
 obtain ⟨e,s,⟨h1,vs,h2,h3⟩,h5⟩:=abW _ _ _ (ab0 (Q':=aov P fn.results.toList v) _ (fun _ _ h=>h) hwp);obtain ⟨v',h3,h4⟩:=ahI _ _ _ h3;have hg:aot P f args v':=apD (aa2 frz) (aeI (aa2 frz) hmix) h.enters h.func hb hs.2 hn (h5 (Ends P fn.results.toList v') ⟨by cases e <;> exact h1,vs,h2,h3⟩);exact hg.weak (Wkl.refl _) h4
theorem aad {f : FuncId} {fn : Func} (frz : FuncId → Bool) (h : IsFn P f fn) (hmix : P.follows .mixedOrders = true) {args : List PV} {v : PV} (hn : args.length ≤ fn.ntmps)
    (hwp:abQ P frz (fn.ntmps,0) (fn.body.getD .skip) (aov P fn.results.toList v) ⟨ab3 0 (args.map .p),[]⟩):aab P f args v:=.inl (av3 frz h hmix hn hwp)
theorem rl_p {α:Type} {N:Nat×Nat→Prop} {f:α→PV} {l:List α}:aac N (l.map fun x=>.p (f x))=True:=by
 rw [aag,eq_iff_iff,iff_true]; intro v hv; simp only [List.mem_map] at hv; obtain ⟨x,_,rfl⟩:=hv; trivial
theorem rl_take {α:Type} {N:Nat×Nat→Prop} {f:α→PV} {l:List α} {i:Nat}:aac N ((l.map fun x=>.p (f x)).take i)=True:=by
 rw [aag,eq_iff_iff,iff_true]; intro v hv; have hv:=List.mem_of_mem_take hv; simp only [List.mem_map] at hv; obtain ⟨x,_,rfl⟩:=hv; trivial
theorem asg {N:Nat×Nat→Prop} {a b:List AV}:aac N (a ++ b)=(aac N a∧aac N b):=by
 simp only [aag,List.mem_append,eq_iff_iff];exact ⟨fun h=>⟨fun v hv=>h v (.inl hv),fun v hv=>h v (.inr hv)⟩,fun h v hv=>hv.elim (h.1 v) (h.2 v)⟩
theorem ai1 {α:Type} {l:List α} {i:Nat}:(l.take i).take i=l.take i:=by simp [List.take_take]
theorem ahq {α β:Type} {f:α→β} {l:List α}:(l.map f).take l.length=l.map f:=List.take_of_length_le (by simp)
section loops
variable {α:Type} (N:Nat) (mk:α→St) (ok:α→Prop) (m:α→Nat) (n:Nat) (Q:aan→St→Prop)
def RndS (s:Tg (N,mk,ok,m,n) St):Prop:=Rnd N mk ok m n s
def avN (e:Tg (N,mk,ok,m,n,Q) aan) (s:Tg (N,mk,ok,m,n,Q) St):Prop:=anD N mk ok m n Q e s
variable {N} {mk} {ok} {m} {n} {Q} {s s':St}
theorem alV:avN N mk ok m n Q .normal s=RndS N mk ok m n s:=(rfl)
theorem aqL {id:Nat}:avN N mk ok m n Q (.exit id) s=Q (.exit id) s:=(rfl)
theorem as6:avN N mk ok m n Q .ret s=Q .ret s:=(rfl)
theorem lp {N0 : Nat} {b : Code} (mk : α → St) (ok : α → Prop) (m : α → Nat) (a0 : α) (hok : ok a0) (ade : ∀ a, ok a → abQ P frz (N0, N) b (avN N mk ok m (m a) Q) (mk a))
    (hn:(mk a0).heap.take N=s.heap.take N:=by simp) (he:aeA (mk a0).heap s.env (mk a0).env:=by simp) (hh:acu (mk a0).heap s.heap (mk a0).heap:=by simp) (hr:aez (mk a0).heap (mk a0).env:=by simp) (hr2:acD (mk a0).heap (mk a0).heap:=by simp) :
    abQ P frz (N0,N) (.loop b) Q s:=wl (q:=(N0,N)) mk ok m a0 hok ade hn he hh hr hr2
theorem rd (a' : α) (h2 : ok a') (h1 : m a' < n := by omega) (hn : (mk a').heap.take N = s.heap.take N := by simp) (he : aeA (mk a').heap s.env (mk a').env := by simp) (hh : acu (mk a').heap s.heap (mk a').heap := by simp) (hr : aez (mk a').heap (mk a').env := by simp) (hr2 : acD (mk a').heap (mk a').heap := by simp) :
    RndS N mk ok m n s:=rnd a' h2 h1 hn he hh hr hr2
end loops
section calls
variable {f:FuncId} {H H1:Heap} {K:AV→Heap→Prop} {L:Eff→Prop} {v a b c d e a' b' c' d' e':PV}
theorem c0 (h:aab P f [] v) (hk:K (.p v) H):agy P false f K [] H:=cw0 h hk
theorem c1 (h:aab P f [a'] v) (hk:K (.p v) H) (h1:Wk a a':=by first | exact Wk.refl _ | simp):agy P false f K [.p a] H:=cw1 h hk h1
theorem c2 (h:aab P f [a',b'] v) (hk:K (.p v) H) (h1:Wk a a':=by first | exact Wk.refl _ | simp) (h2:Wk b b':=by first | exact Wk.refl _ | simp):agy P false f K [.p a,.p b] H:=cw2 h hk h1 h2
theorem c3 (h:aab P f [a',b',c'] v) (hk:K (.p v) H) (h1:Wk a a':=by first | exact Wk.refl _ | simp) (h2:Wk b b':=by first | exact Wk.refl _ | simp) (h3:Wk c c':=by first | exact Wk.refl _ | simp):agy P false f K [.p a,.p b,.p c] H:=cw3 h hk h1 h2 h3
theorem c4 (h:aab P f [a',b',c',d'] v) (hk:K (.p v) H) (h1:Wk a a':=by first | exact Wk.refl _ | simp) (h2:Wk b b':=by first | exact Wk.refl _ | simp) (h3:Wk c c':=by first | exact Wk.refl _ | simp) (h4:Wk d d':=by first | exact Wk.refl _ | simp):agy P false f K [.p a,.p b,.p c,.p d] H:=cw4 h hk h1 h2 h3 h4
theorem c5 (h:aab P f [a',b',c',d',e'] v) (hk:K (.p v) H) (h1:Wk a a':=by first | exact Wk.refl _ | simp) (h2:Wk b b':=by first | exact Wk.refl _ | simp) (h3:Wk c c':=by first | exact Wk.refl _ | simp) (h4:Wk d d':=by first | exact Wk.refl _ | simp) (h5:Wk e e':=by first | exact Wk.refl _ | simp):agy P false f K [.p a,.p b,.p c,.p d,.p e] H:=cw5 h hk h1 h2 h3 h4 h5
theorem e0 (h:aab P f [] v) (hk:L { v:=.p v }):afX P f L [] H:=ce0 h hk
theorem e1 (h:aab P f [a'] v) (hk:L { v:=.p v }) (h1:Wk a a':=by first | exact Wk.refl _ | simp):afX P f L [.p a] H:=ce1 h hk h1
theorem e2 (h:aab P f [a',b'] v) (hk:L { v:=.p v }) (h1:Wk a a':=by first | exact Wk.refl _ | simp) (h2:Wk b b':=by first | exact Wk.refl _ | simp):afX P f L [.p a,.p b] H:=ce2 h hk h1 h2
theorem e3 (h:aab P f [a',b',c'] v) (hk:L { v:=.p v }) (h1:Wk a a':=by first | exact Wk.refl _ | simp) (h2:Wk b b':=by first | exact Wk.refl _ | simp) (h3:Wk c c':=by first | exact Wk.refl _ | simp):afX P f L [.p a,.p b,.p c] H:=ce3 h hk h1 h2 h3
theorem e4 (h:aab P f [a',b',c',d'] v) (hk:L { v:=.p v }) (h1:Wk a a':=by first | exact Wk.refl _ | simp) (h2:Wk b b':=by first | exact Wk.refl _ | simp) (h3:Wk c c':=by first | exact Wk.refl _ | simp) (h4:Wk d d':=by first | exact Wk.refl _ | simp):afX P f L [.p a,.p b,.p c,.p d] H:=ce4 h hk h1 h2 h3 h4
theorem e5 (h:aab P f [a',b',c',d',e'] v) (hk:L { v:=.p v }) (h1:Wk a a':=by first | exact Wk.refl _ | simp) (h2:Wk b b':=by first | exact Wk.refl _ | simp) (h3:Wk c c':=by first | exact Wk.refl _ | simp) (h4:Wk d d':=by first | exact Wk.refl _ | simp) (h5:Wk e e':=by first | exact Wk.refl _ | simp):afX P f L [.p a,.p b,.p c,.p d,.p e] H:=ce5 h hk h1 h2 h3 h4 h5
theorem cp {args:List AV} {vs vs':List PV} (h:aab P f vs' v) (ha:purL H args=some (vs,H1)) (hk:K (.p v) H1) (h1:Wkl vs vs':=by first | exact Wkl.refl _ | simp):agy P false f K args H:=cwp h ha hk h1
theorem ep {args:List AV} {vs vs':List PV} {bs:List Nat} {hin hset:List (Nat×Obj)} (h:aab P f vs' v) (ha:aj9 H args=some (vs,bs)) (hf:ad9 H bs=some (hin,hset)) (hk:L { v:=.p v,hin,hset }) (h1:Wkl vs vs':=by first | exact Wkl.refl _ | simp):afX P f L args H:=cep h ha hf hk h1
theorem ci {args:List AV} {H':Heap} {v:AV} (h:abp P f H args H' v) (hk:K v H'):agy P false f K args H:=.inr ⟨rfl,.inr (.inl ⟨H',v,h,hk⟩)⟩
end calls
attribute [simp] rl_p rl_take asg ai1 pur_p aw9 pur_st pur_tup asv pur_fn ag2 ahH ao1 ahq aac akT aok arb amf anU akt ame ank an4 ar7 ar8 aqm amV atG amp alV aqL as6 purL purA aj9 purE ad9 aih
 w_skip' auS w_exit' w_ret' auQ w_draw' auR aai aoy w_cond' alg aqv ar2 an6 at5 awL avl wd_nil' auP arq wp_nil' auO arl d_move' atX d_pick' awj d_box' awi akF d_load' awd d_bin' d_un' d_conv' aq1 amw amv awg d_len' d_call' p_move' asG p_pick' avw p_box' avu akb p_load' avo p_bin' p_un' p_conv' aqE alA alz avr p_len' p_call' awe avp atT asC ams alw atU asD awf avq d_next' p_next' amt alx an3 anj d_min' p_min' d_max' p_max' aq0 aqD atY asH d_copy' p_copy' cv_fn' cvd_fn' cv_p' cvd_p'
end
section
variable {P:Program} {frz:FuncId→Bool} {q:Cx}
theorem ali {r:Res} {K K':Eff→Prop} (hk:∀ e,K e→K' e) (h:runR r K):runR r K':=by
 unfold runR at h ⊢
 split at h
 · exact ⟨h.1,hk _ h.2⟩
 · exact h.elim
theorem aqJ {o:Oper} {e:Env} {H:Heap} {K K':Eff→Prop} (hk:∀ e,K e→K' e) (h:ab7 P frz o (ev e) H K):ab7 P frz o (ev e) H K':=by
 obtain ⟨x,h1,h2⟩:=am3 (frz:=frz) o (ev e) H K h;exact h2 K' (hk x h1)
theorem apa {o:Oper} {e:Env} {H:Heap} {K K':Eff→Prop} (hk:∀ e,K e→K' e) (h:opW P frz o e H K):opW P frz o e H K':=by
 unfold opW at h ⊢
 repeat' split at h
 all_goals first | exact hk _ h | exact ali hk h | exact ⟨h.1,ali hk h.2⟩ | exact aqJ hk h | exact h.elim
theorem aiH {d:Bool} {f:FuncId} {args:List AV} {H:Heap} {K K':AV→Heap→Prop} (hk:∀ v H,K v H→K' v H) (h:abM P d f args H K):abM P d f args H K':=by
 rcases h with ⟨vs,v,h1,h2,h3⟩ | ⟨hd,⟨vs,H1,v,h1,h2,h3⟩ | ⟨H',v,h1,h2⟩ | ⟨e,h1,h2,h3⟩ | ⟨hin,v,h1,h2,h3⟩⟩
 · exact .inl ⟨vs,v,h1,h2,hk _ _ h3⟩
 · exact .inr ⟨hd,.inl ⟨vs,H1,v,h1,h2,hk _ _ h3⟩⟩
 · exact .inr ⟨hd,.inr (.inl ⟨H',v,h1,hk _ _ h2⟩)⟩
 · exact .inr ⟨hd,.inr (.inr (.inl ⟨e,h1,h2,hk _ _ h3⟩))⟩
 · exact .inr ⟨hd,.inr (.inr (.inr ⟨hin,v,h1,h2,hk _ _ h3⟩))⟩
theorem ajJ {f:FuncId} {args:List AV} {H:Heap} {K K':Eff→Prop} (hk:∀ e,K e→K' e) (h:adj P f args H K):adj P f args H K':=by
 rcases h with ⟨vs,v,h1,h2,h3⟩ | ⟨vs,bs,hin,hset,v,h1,h2,h3,h4⟩ | ⟨e,h1,h2,h3⟩ | ⟨hin,v,h1,h2,h3⟩
 · exact .inl ⟨vs,v,h1,h2,hk _ h3⟩
 · exact .inr (.inl ⟨vs,bs,hin,hset,v,h1,h2,h3,hk _ h4⟩)
 · exact .inr (.inr (.inl ⟨e,h1,h2,hk _ h3⟩))
 · exact .inr (.inr (.inr ⟨hin,v,h1,h2,hk _ h3⟩))
theorem ahL {o:Oper} {K K':St→Prop} {s:St} (hk:∀ s,K s→K' s) (h:aaA P frz o K s):aaA P frz o K' s:=by
 unfold aaA at h ⊢
 split at h
 · rename_i f args aT hop;unfold an8 at h ⊢
   split at h
   · exact aiH (fun v H hh=>hk _ hh) h
   · exact aiH (fun v H hh=>hk _ hh) h
   · obtain ⟨H',v,h1,h2⟩:=h; exact ⟨H',v,h1,hk _ h2⟩
   · exact h.elim
 · exact apa (fun e hh=>hk _ hh) h
theorem ait {o:Oper} {s:St} {K K':Eff→Prop} (hk:∀ e,K e→K' e) (h:aaB P frz o s K):aaB P frz o s K':=by
 unfold aaB at h ⊢
 split at h
 · rename_i f args aT hop;unfold aiI at h ⊢
   split at h
   · exact ajJ hk h
   · exact ajJ hk h
   · obtain ⟨e,h1,h2,h3⟩:=h; exact ⟨e,h1,h2,hk _ h3⟩
   · exact h.elim
 · exact apa hk h
theorem ael {ops:Array Oper}:∀ (l:List Oper) {K K':St→Prop} {s:St},(∀ s,K s→K' s)→opsW P frz ops l K s→opsW P frz ops l K' s
 | [],K,K',s,hk,h=>hk s h
 | o::l,K,K',s,hk,h=>by
  simp only [opsW] at h ⊢
  split at h
  · exact ahL (fun s hs=>ael l hk hs) h
  · split at h
    · split at h
      · rename_i ht; rw [if_pos ht]; exact ahL (fun s hs=>ael l hk hs) h
      · rename_i ht; rw [if_neg ht]; exact ael l hk h
    · exact ael l hk h
    · exact h.elim
theorem adq {ops:Array Oper}:∀ (l:List Oper) {i:Nat} {acc:List Touch} {K K':St→Prop} {s:St},(∀ s,K s→K' s)→acN P frz ops l i acc K s→acN P frz ops l i acc K' s
 | [],i,acc,K,K',s,hk,h=>⟨h.1,hk s h.2⟩
 | o::l,i,acc,K,K',s,hk,h=>by
  simp only [acN] at h ⊢
  split at h
  · exact ait (fun e hs=>adq l hk hs) h
  · split at h
    · split at h
      · rename_i ht; rw [if_pos ht]; exact ait (fun e hs=>adq l hk hs) h
      · rename_i ht; rw [if_neg ht]; exact adq l hk h
    · exact adq l hk h
    · exact h.elim
theorem abH:∀ (c:Code) {Q Q':aan→St→Prop} {s:St},(∀ e s,Q e s→Q' e s)→aaV P frz q c Q s→aaV P frz q c Q' s
 | .skip,Q,Q',s,hq,h=>hq _ _ h
 | .label _,Q,Q',s,hq,h=>hq _ _ h
 | .exit _,Q,Q',s,hq,h=>hq _ _ h
 | .ret,Q,Q',s,hq,h=>hq _ _ h
 | .region _ ops draw,Q,Q',s,hq,h=>by
  simp only [aaV] at h ⊢
  split at h
  · rename_i hd; rw [if_pos hd]; exact adq _ (fun s hs=>hq _ _ hs) h
  · rename_i hd; rw [if_neg hd]; exact ael _ (fun s hs=>hq _ _ hs) h
 | .seq a b,Q,Q',s,hq,h=>by
  simp only [aaV] at h ⊢;refine abH a (fun e s he=>?_) h;cases e with
  | normal=>exact abH b hq he
  | exit i=>exact hq _ _ he
  | ret=>exact hq _ _ he
 | .cond c a b,Q,Q',s,hq,h=>by
  simp only [aaV] at h ⊢;unfold aq2 at h ⊢
  split at h
  · split at h
    · rename_i ht; rw [if_pos ht]; exact abH a hq h
    · rename_i ht; rw [if_neg ht]; exact abH b hq h
  · exact h.elim
 | .block id b,Q,Q',s,hq,h=>by
  simp only [aaV] at h ⊢;refine abH b (fun e s he=>?_) h;cases e with
  | normal=>exact hq _ _ he
  | exit i =>
   simp only [afR] at he ⊢
   by_cases hi:i=id
   · simp only [hi,if_true] at he ⊢; exact hq _ _ he
   · simp only [hi,if_false] at he ⊢; exact hq _ _ he
  | ret=>exact hq _ _ he
 | .scope b,Q,Q',s,hq,h=>abH b hq h
 | .loop b,Q,Q',s,hq,h=>by
  simp only [aaV] at h ⊢;obtain ⟨I,h1,h2⟩:=h;refine ⟨I,h1,fun n t hI=>abH b (fun e s he=>?_) (h2 n t hI)⟩;cases e with
  | normal=>exact he
  | exit id=>exact hq _ _ he
  | ret=>exact hq _ _ he
 | .rangeFunc f ps a b,Q,Q',s,hq,h=>by
  simp only [aaV] at h ⊢;exact ⟨h.1,al5 (fun H=>alC hq) h.2⟩
 | .goto _,_,_,_,_,h=>h.elim
 | .refuse _,_,_,_,_,h=>h.elim
def anQ (R:St→Prop) (Q:aan→St→Prop) (e:Tg (R,Q) aan) (s:Tg (R,Q) St):Prop:=match e with
 | .normal=>R s
 | e=>Q e s
theorem al4 {R:St→Prop} {Q:aan→St→Prop} {s:St}:anQ R Q .normal s=R s:=(rfl)
theorem aqR {R:St→Prop} {Q:aan→St→Prop} {id:Nat} {s:St}:anQ R Q (.exit id) s=Q (.exit id) s:=(rfl)
theorem atg {R:St→Prop} {Q:aan→St→Prop} {s:St}:anQ R Q .ret s=Q .ret s:=(rfl)
theorem join {a b:Code} {Q:aan→St→Prop} {s:St} (R:St→Prop) (h1:abQ P frz q a (anQ R Q) s) (h2:∀ s',R s'→abQ P frz q b Q s'):abQ P frz q (.seq a b) Q s:=by
 rw [aai];refine abH a (fun e s he=>?_) h1;cases e with
 | normal=>exact h2 s he
 | exit i=>exact he
 | ret=>exact he
theorem rl_pc {α:Type} {N:Nat×Nat→Prop} {f:α→PV} {l:List α}:aac N (l.map (AV.p∘f))=True:=rl_p
attribute [simp] al4 aqR atg rl_pc
end
section
variable {P:Program} {frz:FuncId→Bool}
def amN (P:Program) (rs:List ResultVar) (N:Nat) (H':Heap) (v:AV) (e:Tg (rs,N,H',v) aan) (s:Tg (rs,N,H',v) St):Prop:=arf P rs N H' v e s
theorem aqW {rs:List ResultVar} {N:Nat} {H':Heap} {v:AV} {s:St}:amN P rs N H' v .ret s = ∃ vs,aaO P s rs=some vs∧oneOf vs=v∧(H'=s.heap∨(aaD N s ⟨[],H'⟩∧aaa (InH H') v)):=by simp [amN,arf]
theorem akB {rs:List ResultVar} {N:Nat} {H':Heap} {v:AV} {s:St}:amN P rs N H' v .normal s = ∃ vs,aaO P s rs=some vs∧oneOf vs=v∧(H'=s.heap∨(aaD N s ⟨[],H'⟩∧aaa (InH H') v)):=by simp [amN,arf]
theorem adT {f : FuncId} {fn : Func} (frz : FuncId → Bool) (h : IsFn P f fn) (hmix : P.follows .mixedOrders = true) {args : List AV} {H H' : Heap} {v : AV} (hn : args.length ≤ fn.ntmps)
    (hwp:abQ P frz (fn.ntmps,H.length) (fn.body.getD .skip) (amN P fn.results.toList H.length H' v) ⟨ab3 0 args,H⟩):abp P f H args H' v :=
 goodI frz h hmix hn (ab0 (Q':=arf P fn.results.toList H.length H' v) _ (fun _ _ h=>h) hwp)
theorem sig_nil {n i:Nat}:sig [] n i=n+i:=by simp [sig]
theorem cn {f:FuncId} {H H':Heap} {K:AV→Heap→Prop} {v:AV} {args:List PV} (h:abp P f [] (args.map .p) H' v) (hk:K (ren (sig [] H.length) v) (H ++ H'.map (renO (sig [] H.length)))):agy P false f K (args.map .p) H:=by
 refine .inr ⟨rfl,.inr (.inr (.inl ⟨effF [] H.length [] H' v,?_,⟨by simp [effF],by simp [effF]⟩,?_⟩))⟩
 · have hr:aac (InH ([]:Heap)) (args.map .p):=by rw [aag]; intro v hv; obtain ⟨x,_,rfl⟩:=List.mem_map.1 hv; trivial
   have:=h.frame [] H.length rfl List.nodup_nil (by simp) (by simp) hr (by simp);have e:renL (sig [] H.length) (args.map .p)=args.map .p:=by
    clear h hr this hk
    induction args with
    | nil=>rfl
    | cons a r ih=>simp only [List.map_cons,renL,ren,ih]
   rwa [e] at this
 · simpa [effF,aaj] using hk
theorem cn2 {f:FuncId} {H H':Heap} {K:AV→Heap→Prop} {v:AV} {a b:PV} (h:abp P f [] [.p a,.p b] H' v) (hk:K (ren (sig [] H.length) v) (H ++ H'.map (renO (sig [] H.length)))):agy P false f K [.p a,.p b] H:=cn (args:=[a,b]) h hk
def ayS (P:Program) (T:TypeId) (f:Nat):Option (TypeId×Shp):=match kindOf P T,P.underlying T with
 | .agg u,some (.struct _)=>((aaX P u)[f]?).map fun F=>(u,kindOf P F)
 | _,_=>none
def apH (P:Program) (T:TypeId) (f:Nat) (x:AV):Res:=match ayS P T f,x with
 | some (u,k),.p t=>match (flds t)[f]? with
  | some g=>some (shp t=.agg u∧k=shp g,{ v:=.p g })
  | none=>none
 | _,_=>none
theorem apG {T : TypeId} {x : AV} {f : Nat} {K : Eff → Prop} : (match kindOf P T, P.underlying T, x with
    | .agg u,some (.struct _),.p t=>shp t=.agg u∧(match (flds t)[f]?,(aaX P u)[f]? with
     | some g,some F=>kindOf P F=shp g∧K { v:=.p g }
     | _,_=>False)
    | _,_,_=>False)=runR (apH P T f x) K:=by
 unfold apH ayS;cases h1:kindOf P T with
 | agg u=>cases h2:P.underlying T with
  | none=>simp [runR]
  | some d=>cases d with
   | struct fs=>cases x with
    | p t=>cases hc:(aaX P u)[f]? <;> cases hg:(flds t)[f]? <;> simp [runR,hg,hc,and_assoc]
    | _=>cases hc:(aaX P u)[f]? <;> simp [runR,hc]
   | _=>simp [runR]
 | _=>simp [runR]
section fields
variable {dst:Option Tmp} {ty:Nat} {pos:String} {af:Array Edge} {g:Option (Nat×Bool)} {env:Env} {heap:Heap} {L:St→Prop} {K:Eff→Prop} {T:TypeId} {x:Operand} {f:Nat}
theorem avt:aaP P frz ⟨dst,.field T x f,ty,pos,af,g⟩ L ⟨env,heap⟩ ()=runS (appS dst ⟨env,heap⟩ L) (apH P T f (ev env x)):=apG
theorem awh:aaL P frz ⟨dst,.field T x f,ty,pos,af,g⟩ ⟨env,heap⟩ K ()=runS K (apH P T f (ev env x)):=apG
end fields
theorem ag1 {σ:Nat→Nat} {α:Type} {f:α→PV}:∀ {l:List α},renL σ (l.map (AV.p∘f))=l.map (AV.p∘f)
 | []=>rfl
 | a::l=>by simp only [List.map_cons,renL,ag1 (l:=l)]; rfl
theorem asl {σ:Nat→Nat} {α β:Type} {f:β→PV} {g:α→β} {l:List α}:renL σ (l.map ((AV.p∘f)∘g))=l.map ((AV.p∘f)∘g):=ag1 (f:=f∘g)
theorem rl_pc2 {α β:Type} {N:Nat×Nat→Prop} {f:β→PV} {g:α→β} {l:List α}:aac N (l.map ((AV.p∘f)∘g))=True:=rl_pc (f:=f∘g)
attribute [simp] avt awh asl rl_pc2 aqW akB sig_nil ren renL renO ag1
end
section
variable {P:Program} {frz:FuncId→Bool}
theorem apq {T:Heap}:∀ {h:Heap},acu T h h=True
 | []=>by simp [acu]
 | o::h=>by simp [acu,auI,apq (h:=h)]
theorem alm {T:Heap}:∀ {h k:Heap},acD T (h ++ k)=(acD T h∧acD T k)
 | [],k=>by simp [acD]
 | o::h,k=>by simp [acD,alm (h:=h),and_assoc]
theorem rl_repl {N:Nat×Nat→Prop} {n:Nat} {v:PV}:aac N (List.replicate n (.p v))=True:=by
 rw [aag,eq_iff_iff,iff_true]; intro x hx; rw [(List.mem_replicate.1 hx).2]; trivial
theorem avi {σ:Nat→Nat} {α:Type} {f:α→PV} {l:List α}:renL σ (l.map fun x=>.p (f x))=l.map fun x=>.p (f x):=ag1 (f:=f)
def acs.bz (L:acs):acs:={ L with st:=.busy }
def acs.dn (L:acs) (j:Code):acs:={ L with st:=.done,pending:=some j }
def acs.xh (L:acs):acs:={ L with st:=.exhausted }
def Stream (P:Program) (g:FuncId) (fi ca:List PV) (items:List (List PV)):Prop :=
 ∀ (b k:Nat) (Hs:Nat→Heap) (H':Heap),k≤items.length→(∀ i,i≤k→acD (Hs i) (Hs i)∧aaa (InH (Hs i)) (.map b)) →
  (∀ i a,i<k→items[i]?=some a→ad5 P b (Hs i) (a.map .p) (Hs (i+1)) (.p (.bool true))) →
  (k=items.length∧H'=Hs k∨∃ a,items[k]?=some a∧ad5 P b (Hs k) (a.map .p) H' (.p (.bool false))) →
  abp P g (Hs 0) (fi.map .p ++ [.map b] ++ ca.map .p) H' (.p (.tup []))
theorem cv_map' {b:Nat} {args:List AV} {M:AV→Heap→Prop} {heap:Heap}:awq P heap M (.map b) args = ∃ H' v,ad5 P b heap args H' v∧M v H':=(rfl)
def reS (b:Nat) (L:acs) (N:Nat) (H':Heap) (v:Bool) (e:Tg (b,L,N,H',v) aan) (s:Tg (b,L,N,H',v) St):Prop :=
 match e with
 | .normal=>v=true∧(St.heap s)[b]?=some (.loop L.bz)∧aaD N ⟨[],(St.heap s).set b (.loop L)⟩ ⟨[],H'⟩
 | .exit id=>v=false∧(St.heap s)[b]?=some (.loop L.bz)∧aaD N ⟨[],(St.heap s).set b (.loop (L.dn (.exit id)))⟩ ⟨[],H'⟩
 | .ret=>v=false∧(St.heap s)[b]?=some (.loop L.bz)∧aaD N ⟨[],(St.heap s).set b (.loop (L.dn .ret))⟩ ⟨[],H'⟩
section
variable {b N:Nat} {L:acs} {H':Heap} {v:Bool} {s:St}
theorem aqy:reS b L N H' v .normal s=(v=true∧s.heap[b]?=some (.loop L.bz)∧aaD N ⟨[],s.heap.set b (.loop L)⟩ ⟨[],H'⟩):=(rfl)
theorem avk {id:Nat}:reS b L N H' v (.exit id) s=(v=false∧s.heap[b]?=some (.loop L.bz)∧aaD N ⟨[],s.heap.set b (.loop (L.dn (.exit id)))⟩ ⟨[],H'⟩):=(rfl)
theorem reS_ret:reS b L N H' v .ret s=(v=false∧s.heap[b]?=some (.loop L.bz)∧aaD N ⟨[],s.heap.set b (.loop (L.dn .ret))⟩ ⟨[],H'⟩):=(rfl)
end
def rbS (P:Program) (frz:FuncId→Bool) (q:Cx) (b:Nat) (c:Code) (L:acs) (H':Heap) (v:Bool) (e:Tg (q,b,c,L,H',v) aan) (s:Tg (q,b,c,L,H',v) St):Prop :=
 match e with
 | .normal=>(St.heap s)[b]?=some (.loop L)∧abQ P frz q c (reS b L q.2 H' v) ⟨St.env s,(St.heap s).set b (.loop L.bz)⟩
 | _=>False
theorem aqz {q:Cx} {b:Nat} {c:Code} {L:acs} {H':Heap} {v:Bool} {s:St}:rbS P frz q b c L H' v .normal s=(s.heap[b]?=some (.loop L)∧abQ P frz q c (reS b L q.2 H' v) ⟨s.env,s.heap.set b (.loop L.bz)⟩):=(rfl)
theorem y_round (frz : FuncId → Bool) (hmix : P.follows .mixedOrders = true) {b n : Nat} {L : acs} {H H' : Heap} {args : List AV} {v : Bool} {ps : List Tmp} {a c : Code} {env : Env}
    (hL:L=⟨.ready,none,n,ps,a,c,env⟩) (hb:H[b]?=some (.loop L)) (hlen:args.length=ps.length)
    (hok:(ps.all (fun x=>decide (x<n)) && codeOk fit n a && codeOk fit n c)=true)
    (hwp:abQ P frz (n,H.length) a (rbS P frz (n,H.length) b c L H' v) ⟨ahG ps args env,H⟩):ad5 P b H args H' (.p (.bool v)):=by
 refine goodY frz hmix hb (by rw [hL]; exact hlen) (by rw [hL]; exact hok) ?_;unfold aj3;have e1:L.n=n:=by rw [hL]
 have e2:L.assign=a:=by rw [hL]
 have e3:L.body=c:=by rw [hL]
 have e4:L.params=ps:=by rw [hL]
 have e5:L.env=env:=by rw [hL]
 have e6:L.st=.ready:=by rw [hL]
 rw [e1,e2,e3,e4,e5];refine ab0 (Q:=rbS P frz (n,H.length) b c L H' v) _ (fun e s h=>?_) hwp;cases e with
 | normal =>
  obtain ⟨h1,h2⟩:=h;simp only [aeD,h1];refine ⟨e6,ab0 (Q:=reS b L H.length H' v) _ (fun e s h=>?_) h2⟩;cases e with
  | normal =>
   obtain ⟨rfl,h3,h4⟩:=h;have hh:s.heap[b]?=some (.loop L.bz):=h3;simp only [aeC,hh,abL];refine ⟨rfl,?_⟩;have:({ L.bz with st:=LoopState.ready,pending:=none }:acs)=L:=by subst hL; rfl
   simpa [this] using h4
  | exit id =>
   obtain ⟨rfl,h3,h4⟩:=h;have hh:s.heap[b]?=some (.loop L.bz):=h3;simp only [aeC,hh,abL];exact ⟨rfl,h4⟩
  | ret =>
   obtain ⟨rfl,h3,h4⟩:=h;have hh:s.heap[b]?=some (.loop L.bz):=h3;simp only [aeC,hh,abL];exact ⟨rfl,h4⟩
 | exit id=>exact h.elim
 | ret=>exact h.elim
theorem rf {f : Operand} {ps : Array Tmp} {a c : Code} {Q : aan → St → Prop} {env : Env} {heap : Heap} {q : Cx} {g : FuncId} {fi ca : List PV} {items : List (List PV)} (hst : Stream P g fi ca items) (hf : ev env f = .p (.func g fi ca)) (hq : q.2 ≤ heap.length)
    (X:acs→Nat→Heap) (k:Nat) (hk:k≤items.length) (h0:∀ L,X L 0=heap ++ [.loop L])
    (hx:∀ L,L=⟨.ready,none,q.1,ps.toList,a,c,env⟩→∀ i,i≤k→(X L i)[heap.length]?=some (.loop L)∧aez (X L i) env∧(aez (X L i) env→(∀ x,aaa (InH (X L i)) (getE L.env x))→acD (X L i) (X L i)))
    (hy:∀ L,L=⟨.ready,none,q.1,ps.toList,a,c,env⟩→∀ i x,i<k→items[i]?=some x→ad5 P heap.length (X L i) (x.map .p) (X L (i+1)) (.p (.bool true)))
    (he:∀ L,L=⟨.ready,none,q.1,ps.toList,a,c,env⟩→(k=items.length∧Q .normal ⟨env,(X L k).set heap.length (.loop L.xh)⟩) ∨
     ∃ x j X',items[k]?=some x∧X'[heap.length]?=some (.loop (L.dn j))∧ad5 P heap.length (X L k) (x.map .p) X' (.p (.bool false))∧agj Q (some j) ⟨env,X'.set heap.length (.loop (L.dn j).xh)⟩) :
    abQ P frz q (.rangeFunc f ps a c) Q ⟨env,heap⟩:=by
 obtain ⟨L,hL⟩:∃ L:acs,L=⟨.ready,none,q.1,ps.toList,a,c,env⟩:=⟨_,rfl⟩
 have hS:=hst heap.length k (X L);refine ⟨hq,?_⟩;show acZ P (ev env f) heap.length (heap ++ [.loop ⟨.ready,none,q.1,ps.toList,a,c,env⟩]) (acp heap.length env Q);rw [hf];simp only [acZ];rw [← hL,← h0 L];have hR:∀ i,i≤k→acD (X L i) (X L i)∧aaa (InH (X L i)) (.map heap.length):=by
  intro i hi;obtain ⟨h1,h2,h3⟩:=hx L hL i hi;have e5:L.env=env:=by rw [hL]
  refine ⟨h3 h2 (by rw [e5]; exact h2.get),?_⟩;simp only [aaa,InH,h1];exact ⟨_,rfl,by simp [Obj.has]⟩
 rcases he L hL with ⟨h1,h2⟩ | ⟨x,j,X',h1,h2,h3,h4⟩
 · refine ⟨_,_,hS (X L k) hk hR (hy L hL) (.inl ⟨h1,rfl⟩),?_⟩;have hb:=(hx L hL k (Nat.le_refl k)).1;simp only [acp,hb];refine ⟨by rw [hL]; simp,?_⟩;have:L.pending=none:=by rw [hL]
   simp only [this,agj];have e:L.xh = { L with st:=.exhausted }:=rfl;rw [this] at e;rw [e] at h2;exact h2
 · refine ⟨_,_,hS X' hk hR (hy L hL) (.inr ⟨x,h1,h3⟩),?_⟩;simp only [acp,h2];exact ⟨by simp [acs.dn],h4⟩
section framed
variable {f:FuncId} {H0 H0' H:Heap} {args0 args:List AV} {v0:AV} {K:AV→Heap→Prop} {L:Eff→Prop}
theorem frame_e (h : abp P f H0 args0 H0' v0) (bs : List Nat) (hlen : bs.length = H0.length) (hnd : bs.Nodup) (hlt : ∀ b ∈ bs, b < H.length) (hl : H0.length ≤ H0'.length) (ha : aac (InH H0) args0) (hr : acD H0 H0) (hargs : renL (sig bs H.length) args0 = args) :
    aou P f args H.length (effF bs H.length H0 H0' v0):=by
 have:=h.frame bs H.length hlen hnd hlt hl ha hr.get
 rwa [hargs] at this
theorem cf (h : abp P f H0 args0 H0' v0) (bs : List Nat) (hk : K (ren (sig bs H.length) v0) (aaj H (bs.zip ((H0'.take H0.length).map (renO (sig bs H.length)))) ++ (H0'.drop H0.length).map (renO (sig bs H.length)))) (hin : ∀ p ∈ bs.zip (H0.map (renO (sig bs H.length))), H[p.1]? = some p.2 := by simp [sig]) (hset : ∀ p ∈ bs.zip ((H0'.take H0.length).map (renO (sig bs H.length))), p.1 < H.length ∧ p.2 ≠ .hole := by simp [sig])
    (hlen:bs.length=H0.length:=by simp) (hnd:bs.Nodup:=by simp) (hlt:∀ b∈bs,b<H.length:=by simp) (hl:H0.length≤H0'.length:=by simp) (ha:aac (InH H0) args0:=by simp) (hr:acD H0 H0:=by simp) (hargs:renL (sig bs H.length) args0=args:=by simp [sig]):agy P false f K args H :=
 .inr ⟨rfl,.inr (.inr (.inl ⟨_,frame_e h bs hlen hnd hlt hl ha hr hargs,⟨hin,hset⟩,hk⟩))⟩
end framed
section bytes
variable {dst:Option Tmp} {ty:Nat} {pos:String} {af:Array Edge} {g:Option (Nat×Bool)} {env:Env} {heap:Heap} {L:St→Prop} {K:Eff→Prop}
theorem d_sdata {x : Operand} {aT : Array TypeId} {b ver esz off len : Nat} {k : AK} {es : List AV} (hx : ev env x = .sl b ver esz off len) (hb : heap[b]? = some (.arr k ver esz es)) (h0 : 0 < len) (hl : off + len ≤ es.length)
    (hk:K { v:=.eptr b ver esz off [],hin:=[(b,.arr k ver esz es)] }):aaL P frz ⟨dst,.call { callee:=.builtin .unsafeSliceData,args:=#[x],argTypes:=aT },ty,pos,af,g⟩ ⟨env,heap⟩ K ():=by
 show (match ev env x with
     | .p .nsl=>K { v:=.p .nptr }
     | .sl b ver esz off len=>(match heap[b]? with
      | some (.arr k ver' esz' es)=>ver=ver'∧esz=esz'∧((k.gr=true∧es=[]∧K { v:=.p .nptr,hin:=[(b,.arr k ver' esz' es)] })∨(0<len∧off+len≤es.length∧K { v:=.eptr b ver esz off [],hin:=[(b,.arr k ver' esz' es)] }))
      | _=>False)
     | _=>False)
 rw [hx];simp only [hb];exact ⟨trivial,trivial,.inr ⟨h0,hl,hk⟩⟩
theorem d_ustr {x y : Operand} {aT : Array TypeId} {b ver : Nat} {m : Int} {es : List AV} {l : List Nat} (hx : ev env x = .eptr b ver 1 0 []) (hy : ev env y = .p (.int .i64 m)) (hb : heap[b]? = some (.arr .bytes ver 1 es)) (h0 : 0 < m) (hm : m.toNat ≤ es.length) (h63 : m ≤ 9223372036854775807)
    (ha:aT.size=2) (hT:ptrTo P (aT.getD 0 0)=some Gl.u8) (hu:P.cellsOf Gl.u8=1) (hl:bytesOf (es.take m.toNat)=some l)
    (hk:K { v:=.p (.str l),hin:=[(b,.arr .bytes ver 1 es)],hset:=[(b,.dead)] }):aaL P frz ⟨dst,.call { callee:=.builtin .unsafeString,args:=#[x,y],argTypes:=aT },ty,pos,af,g⟩ ⟨env,heap⟩ K ():=by
 have h:ab7 P frz ⟨dst,.call { callee:=.builtin .unsafeString,args:=#[x,y],argTypes:=aT },ty,pos,af,g⟩ (ev env) heap K:=by
  unfold ab7;simp only [List.map_cons,List.map_nil,hx,hy,hb];exact ⟨trivial,trivial,trivial,trivial,h0,hm,h63,ha,hT,hu,by rw [hl]; exact hk⟩
 exact h
end bytes
theorem rf2 {f : Operand} {ps : Array Tmp} {a c : Code} {Q : aan → St → Prop} {env : Env} {heap : Heap} {q : Cx} {g : FuncId} {fi ca : List PV} {items : List (List PV)} (hst : Stream P g fi ca items) (hf : ev env f = .p (.func g fi ca)) (hq : q.2 ≤ heap.length)
    (X F:acs→Nat→Heap) (okB:Nat→Bool) (j:Code) (k:Nat) (hk:k≤items.length) (hok:∀ i,i<k→okB i=true) (hbad:k=items.length∨(k<items.length∧okB k=false)) (h0:∀ L,X L 0=heap ++ [.loop L])
    (hx:∀ L,L=⟨.ready,none,q.1,ps.toList,a,c,env⟩→∀ i,i≤k→(X L i)[heap.length]?=some (.loop L)∧aez (X L i) env∧(aez (X L i) env→(∀ x,aaa (InH (X L i)) (getE L.env x))→acD (X L i) (X L i)))
    (hy:∀ L,L=⟨.ready,none,q.1,ps.toList,a,c,env⟩→∀ i x,i≤k→items[i]?=some x→ad5 P heap.length (X L i) (x.map .p) (if okB i=true then X L (i+1) else F L (i+1)) (.p (.bool (okB i))))
    (hF:∀ L,(F L (k+1))[heap.length]?=some (.loop (L.dn j)))
    (hend:k=items.length→∀ L,Q .normal ⟨env,(X L k).set heap.length (.loop L.xh)⟩)
    (hstop:k<items.length→∀ L,agj Q (some j) ⟨env,(F L (k+1)).set heap.length (.loop (L.dn j).xh)⟩) :
    abQ P frz q (.rangeFunc f ps a c) Q ⟨env,heap⟩:=by
 refine rf hst hf hq X k hk h0 hx (fun L hL i x hi hi2=>?_) (fun L hL=>?_)
 · have:=hy L hL i x (by omega) hi2;rw [hok i hi] at this;exact this
 · rcases hbad with hb | ⟨hb,hb2⟩
   · exact .inl ⟨hb,hend hb L⟩
   · right;refine ⟨items[k],j,F L (k+1),List.getElem?_eq_getElem hb,hF L,?_,hstop hb L⟩;have:=hy L hL k items[k] (Nat.le_refl _) (List.getElem?_eq_getElem hb);rw [hb2] at this;exact this
attribute [simp] avi rl_repl apq alm aqy avk reS_ret aqz cv_map' ahG
end
section
variable {P:Program} {frz:FuncId→Bool} {w:World} {Imm Prot:Nat→Prop} {β:Bd} {H:Heap}
def ai6 (K:Nat→Bool) (H:Heap):Heap:=H.mapIdx fun i o=>if K i then .dead else o
theorem aia {K:Nat→Bool} {b:Nat}:(ai6 K H)[b]?=(H[b]?).map fun o=>if K b then .dead else o:=by simp [ai6]
theorem aaZ {K:Nat→Bool} {b:Nat} {o:Obj} (h:(ai6 K H)[b]?=some o):∃ o0,H[b]?=some o0∧((K b=true∧o=.dead)∨(K b=false∧o=o0)):=by
 rw [aia,Option.map_eq_some_iff] at h;obtain ⟨o0,h1,h2⟩:=h;refine ⟨o0,h1,?_⟩;cases hk:K b <;> simp [hk] at h2
 · exact .inr ⟨rfl,h2.symm⟩
 · exact .inl ⟨rfl,h2.symm⟩
theorem akq {K:Nat→Bool} {x:Nat×Nat} (h:InH H x):InH (ai6 K H) x:=by
 obtain ⟨o,h1,h2⟩:=h;refine ⟨if K x.1 then .dead else o,by rw [aia,h1]; rfl,?_⟩
 split
 · trivial
 · exact h2
theorem agh {K:Nat→Bool}:aaG β H β (ai6 K H):=by
 refine ⟨fun b _ h=>⟨?_,rfl⟩,fun b _ h=>⟨?_,rfl⟩,fun b _ h=>⟨?_,rfl⟩,fun b ver esz k es _ h=>⟨k,es,?_,Nat.le_refl _,Iff.rfl,fun _=>⟨rfl,rfl⟩⟩,fun b _ h=>⟨?_,rfl⟩⟩
 · obtain ⟨fz,t,h⟩:=h;obtain ⟨o0,h1,h2⟩:=aaZ h;rcases h2 with ⟨_,h2⟩ | ⟨_,rfl⟩
   · cases h2
   · exact ⟨fz,t,h1⟩
 · obtain ⟨s,q,h⟩:=h;obtain ⟨o0,h1,h2⟩:=aaZ h;rcases h2 with ⟨_,h2⟩ | ⟨_,rfl⟩
   · cases h2
   · exact ⟨s,q,h1⟩
 · obtain ⟨s,q,h⟩:=h;obtain ⟨o0,h1,h2⟩:=aaZ h;rcases h2 with ⟨_,h2⟩ | ⟨_,rfl⟩
   · cases h2
   · exact ⟨s,q,h1⟩
 · obtain ⟨o0,h1,h2⟩:=aaZ h;rcases h2 with ⟨_,h2⟩ | ⟨_,rfl⟩
   · cases h2
   · exact h1
 · obtain ⟨L,h⟩:=h;obtain ⟨o0,h1,h2⟩:=aaZ h;rcases h2 with ⟨_,h2⟩ | ⟨_,rfl⟩
   · cases h2
   · exact ⟨L,h1⟩
def ImmK (K:Nat→Bool) (Imm:Nat→Prop) (β:Bd) (H:Heap) (k:Nat):Prop:=Imm k∨∃ (b:Nat) (o:Obj),H[b]?=some o∧o.live∧K b=true∧β.blk b=k
theorem HRel.kill (K:Nat→Bool) (hr:HRel P w Imm β H Prot):HRel P w Imm β (ai6 K H) Prot:=by
 refine ⟨fun b o ho=>?_,fun b b' o o' ho ho' hl hl' hn he=>?_,fun b o ho=>?_,hr.imm,hr.prot,hr.glob⟩
 · obtain ⟨o0,h1,h2⟩:=aaZ ho;rcases h2 with ⟨_,rfl⟩ | ⟨_,rfl⟩
   · trivial
   · exact ORel.carry (fun _ x=>x) (fun _ _=>rfl) agh (hr.refs b o h1) (fun _=>⟨rfl,rfl,rfl⟩) (fun _ _ h=>h) (hr.objs b o h1)
 · obtain ⟨o0,h1,h2⟩:=aaZ ho;obtain ⟨o0',h1',h2'⟩:=aaZ ho';rcases h2 with ⟨_,rfl⟩ | ⟨_,rfl⟩
   · exact hl.elim
   rcases h2' with ⟨_,rfl⟩ | ⟨_,rfl⟩
   · exact hl'.elim
   exact hr.inj b b' _ _ h1 h1' hl hl' hn he
 · obtain ⟨o0,h1,h2⟩:=aaZ ho;rcases h2 with ⟨_,rfl⟩ | ⟨_,rfl⟩
   · trivial
   · exact Obj.afu (fun _ h=>akq h) (hr.refs b o h1)
theorem HRel.killImm (K:Nat→Bool) (hr:HRel P w Imm β H Prot):HRel P w (ImmK K Imm β H) β (ai6 K H) Prot:=by
 have hk:=hr.kill K;have hi:∀ k,Imm k→ImmK K Imm β H k:=fun k h=>.inl h;refine ⟨fun b o ho=>?_,fun b b' o o' ho ho' hl hl' hn he=>hk.inj b b' o o' ho ho' hl hl' (fun h=>hn (hi _ h)) he,hk.refs,fun k h=>?_,hr.prot,⟨fun g=>PVV.mono hi (fun _ _=>rfl) _ _ (hr.glob.val g),fun g cs h=>⟨hi _ (hr.glob.raw g cs h).1,(hr.glob.raw g cs h).2⟩⟩⟩
 · have ho2:=ho;obtain ⟨o0,h1,h2⟩:=aaZ ho;rcases h2 with ⟨_,rfl⟩ | ⟨kb,rfl⟩
   · trivial
   · refine ORel.carry hi (fun _ _=>rfl) (aaG.refl β _) (hk.refs b o ho2) (fun _=>⟨rfl,rfl,rfl⟩) (fun hl fz h=>?_) (hk.objs b o ho2);cases fz with
     | true=>exact hi _ h
     | false =>
      refine ⟨?_,h.2⟩;rintro (h3 | ⟨b1,o1,g1,g2,g3,g4⟩)
      · exact h.1 h3
      · have:=hr.inj b1 b o1 o g1 h1 g2 hl (by rw [g4]; exact h.1) g4;rw [this,kb] at g3; cases g3
 · rcases h with h | ⟨b1,o1,g1,g2,g3,rfl⟩
   · exact hr.imm k h
   · exact hr.ada g1 g2
theorem ORel.held {b:Nat} {o:Obj} (h:ORel P w Imm β H Prot b o) (hl:o.live):Imm (β.blk b)∨¬ Prot (β.blk b):=by
 by_cases hi:Imm (β.blk b)
 · exact .inl hi
 · exact .inr (h.mut hl hi)
theorem abp.pure {f : FuncId} {args : List AV} {H' : Heap} {v : AV} {n : Nat} {p : PV} (K : Nat → Bool) (h : abp P f H args H' v) (hp : purR (ai6 (fun i => !K i) H') n v = some p) (hl : ∀ b L, K b = true → H[b]? ≠ some (.loop L)) :
    abp P f H args (ai6 K H') (.p p):=by
 refine ⟨h.1,fun w Imm Prot β cargs hr ha hre=>(h.2 w Imm Prot β cargs hr ha hre).mono ?_⟩;rintro e w' ⟨cv,β',Imm',rfl,hpo,hv,hrv⟩;have hrel:=hpo.rel;have hk2:=hrel.kill (fun i=>!K i);have hv2:AVV P w' Imm' β' (ai6 (fun i=>!K i) H') v cv:=AVV.mono (fun _ x=>x) (fun _ _=>rfl) agh _ _ hrv hv;have hpv:=aeE hk2 n v p hp (aaa.mono (fun _ h=>akq h) v hrv) cv hv2;refine ⟨cv,β',ImmK K Imm' β' H',rfl,⟨fun k hk=>.inl (hpo.imm k hk),?_,hpo.ext,?_,hrel.killImm K,fun x hx=>akq (hpo.inn x hx),?_⟩,?_,trivial⟩
 · rintro k (hk | ⟨b,o,g1,g2,g3,rfl⟩)
   · exact hpo.fresh k hk
   · rcases (hrel.objs b o g1).held g2 with h | h
     · exact hpo.fresh _ h
     · exact .inr h
 · have hst:=hpo.step;have hk:=agh (K:=K) (β:=β') (H:=H');refine ⟨fun b hb hL=>?_,fun b hb hL=>?_,fun b hb hL=>?_,fun b ver esz k es hb hL=>?_,fun b hb hL=>?_⟩
   · exact hst.box b hb (hk.box b (hpo.inn _ hb) hL).1
   · exact hst.it b hb (hk.it b (hpo.inn _ hb) hL).1
   · exact hst.map b hb (hk.map b (hpo.inn _ hb) hL).1
   · have h3:aaI H' b ver esz k es:=by
      obtain ⟨o0,h1,h2⟩:=aaZ hL;rcases h2 with ⟨_,h2⟩ | ⟨_,rfl⟩
      · cases h2
      · exact h1
     exact hst.arr b ver esz k es hb h3
   · exact hst.loop b hb (hk.loop b (hpo.inn _ hb) hL).1
 · rintro b ⟨L,hL⟩;obtain ⟨L',hL'⟩:=hpo.loop b ⟨L,hL⟩;have hkb:K b=false:=by
    cases hkb:K b with
    | false=>rfl
    | true=>exact (hl b L hkb hL).elim
   exact ⟨L',by rw [aia,hL']; simp [hkb]⟩
 · show PVV P w' _ p cv;refine PVV.mono ?_ (fun _ _=>rfl) _ _ hpv;rintro k (hk | ⟨b,o,g1,g2,rfl⟩)
   · exact .inl hk
   · obtain ⟨o0,h1,h2⟩:=aaZ g1;rcases h2 with ⟨_,rfl⟩ | ⟨kb,rfl⟩
     · exact g2.elim
     · exact .inr ⟨b,o,h1,g2,by simpa using kb,rfl⟩
end
section
variable {P:Program} {w:World} {Imm Prot:Nat→Prop} {β:Bd}
theorem adn {t t':AV} {r:Heap}:aaG β (.box false t::r) β (.box false t'::r):=by
 refine ⟨fun b _ h=>⟨?_,rfl⟩,fun b _ h=>⟨?_,rfl⟩,fun b _ h=>⟨?_,rfl⟩,fun b ver esz k es _ h=>⟨k,es,?_,Nat.le_refl _,Iff.rfl,fun _=>⟨rfl,rfl⟩⟩,fun b _ h=>⟨?_,rfl⟩⟩
 · cases b with
   | zero=>exact ⟨false,t,rfl⟩
   | succ b=>exact h
 · obtain ⟨s,q,h⟩:=h;cases b with
   | zero=>simp at h
   | succ b=>exact ⟨s,q,h⟩
 · obtain ⟨s,q,h⟩:=h;cases b with
   | zero=>simp at h
   | succ b=>exact ⟨s,q,h⟩
 · cases b with
   | zero=>simp [aaI] at h
   | succ b=>exact h
 · obtain ⟨L,h⟩:=h;cases b with
   | zero=>simp at h
   | succ b=>exact ⟨L,h⟩
theorem ae0 {t t':AV} {r:Heap} {x:Nat×Nat} (h:InH (.box false t::r) x):InH (.box false t'::r) x:=by
 obtain ⟨o,h1,h2⟩:=h;obtain ⟨b,v⟩:=x;cases b with
 | zero=>exact ⟨_,rfl,trivial⟩
 | succ b=>exact ⟨o,h1,h2⟩
theorem HRel.swap {t t' : AV} {r : Heap} (hr : HRel P w Imm β (.box false t :: r) Prot) (hc : ∀ cs, AVC P w Imm β (.box false t :: r) t cs → AVC P w Imm β (.box false t :: r) t' cs) (hbx : ∀ T, bxB T (shpA t') = true)
    (href:∀ n,aaa n t→aaa n t'):HRel P w Imm β (.box false t'::r) Prot:=by
 refine ⟨fun b o ho=>?_,fun b b' o o' ho ho' hl hl' hn he=>?_,fun b o ho=>?_,hr.imm,hr.prot,hr.glob⟩
 · cases b with
   | zero =>
    simp at ho; subst ho;obtain ⟨cs,T,h1,h2,h3,h4,h5⟩:=hr.objs 0 _ rfl;have hre:=hr.refs 0 _ rfl;exact ⟨cs,T,h1,AVC.mono (fun _ x=>x) (fun _ _=>rfl) adn _ _ (href _ hre) (hc _ h2),h3,(fun h=>absurd h (by simp)),hbx T⟩
   | succ b=>exact ORel.carry (fun _ x=>x) (fun _ _=>rfl) adn (hr.refs (b+1) o ho) (fun _=>⟨rfl,rfl,rfl⟩) (fun _ _ h=>h) (hr.objs (b+1) o ho)
 · have key:∀ {b:Nat} {o:Obj},(Obj.box false t'::r)[b]?=some o→o.live→∃ o1,(Obj.box false t::r)[b]?=some o1∧o1.live:=by
    intro b o ho hl;cases b with
    | zero=>exact ⟨_,rfl,trivial⟩
    | succ b=>exact ⟨o,ho,hl⟩
   obtain ⟨o1,k1,k2⟩:=key ho hl;obtain ⟨o2,k3,k4⟩:=key ho' hl';exact hr.inj b b' o1 o2 k1 k3 k2 k4 hn he
 · cases b with
   | zero =>
    simp at ho; subst ho;exact aaa.mono (fun _ h=>ae0 h) _ (href _ (hr.refs 0 _ rfl))
   | succ b=>exact Obj.afu (fun _ h=>ae0 h) (hr.refs (b+1) o ho)
theorem aqa {H:Heap} {u:TypeId} {n:Nat} (hu:szs P u=some [n]) {t:AV} {cs:List Value}:AVC P w Imm β H (.st u [t]) cs↔AVC P w Imm β H t cs∧cs.length=n:=by
 simp only [AVC,hu,Option.some.injEq];constructor
 · rintro ⟨l,css,rfl,h1,rfl⟩;simp only [AVCl] at h1;obtain ⟨c,d,rfl,h2,h3,rfl⟩:=h1;simpa using ⟨h2,h3⟩
 · rintro ⟨h1,h2⟩;exact ⟨[n],[cs],rfl,by simp only [AVCl]; exact ⟨cs,[],rfl,h1,h2,rfl⟩,by simp⟩
theorem abp.wrap {f : FuncId} {u : TypeId} {n : Nat} {t t' : AV} {r r' : Heap} {args : List AV} {v : AV} (hu : szs P u = some [n]) (hb : ∀ T, bxB T (.agg u) = true) (hb1 : ∀ T, bxB T (shpA t) = true) (hn : ∀ (w : World) (Imm : Nat → Prop) (β : Bd) (H : Heap) (cs : List Value), AVC P w Imm β H t' cs → cs.length = n)
    (h:abp P f (.box false t::r) (.ptr 0 []::args) (.box false t'::r') v):abp P f (.box false (.st u [t])::r) (.ptr 0 [(u,0)]::args) (.box false (.st u [t'])::r') v:=by
 refine ⟨h.1,fun w Imm Prot β cargs hr ha hre=>?_⟩;have hr1:HRel P w Imm β (.box false t::r) Prot:=hr.swap (fun cs h=>((aqa hu).1 h).1) hb1 (fun n h=>by simpa [aaa,aac] using h);obtain ⟨x,xs,rfl,h1,h2⟩:=ha;have ha1:AVVl P w Imm β (.box false t::r) (.ptr 0 []::args) (x::xs):=by
  refine ⟨x,xs,rfl,?_,AVVl.mono (fun _ x=>x) (fun _ _=>rfl) adn _ _ hre.2 h2⟩;obtain ⟨q1,blk,off,o,q2,q3,q4⟩:=h1;refine ⟨q1,blk,off,0,q2,rfl,fun _=>?_⟩;have ho:o=0:=by simpa [aaW,hu] using q3.symm
  have:=q4 (.inl ⟨false,_,rfl⟩);rw [ho] at this; exact this
 refine (h.2 w Imm Prot β (x::xs) hr1 ha1 ⟨⟨_,rfl,trivial⟩,aac.mono (fun _ h=>ae0 h) _ hre.2⟩).mono ?_;rintro e w' ⟨cv,β',Imm',rfl,hpo,hv,hrv⟩;refine ⟨cv,β',Imm',rfl,⟨hpo.imm,hpo.fresh,hpo.ext,?_,?_,fun x hx=>ae0 (hpo.inn x (ae0 hx)),?_⟩,AVV.mono (fun _ x=>x) (fun _ _=>rfl) adn _ _ hrv hv,aaa.mono (fun _ h=>ae0 h) _ hrv⟩
 · have hst:=hpo.step;have s1:=adn (β:=β) (t:=.st u [t]) (t':=t) (r:=r);have s2:=adn (β:=β') (t:=t') (t':=.st u [t']) (r:=r');have i1:∀ x,InH (.box false (.st u [t])::r) x→InH (.box false t::r) x:=fun x h=>ae0 h;have i2:∀ x,InH (.box false t::r) x→InH (.box false t'::r') x:=hpo.inn;refine ⟨fun b hb hL=>?_,fun b hb hL=>?_,fun b hb hL=>?_,fun b ver esz k es hb hL=>?_,fun b hb hL=>?_⟩
   · obtain ⟨k1,k2⟩:=s2.box b (i2 _ (i1 _ hb)) hL;obtain ⟨k3,k4⟩:=hst.box b (i1 _ hb) k1;exact ⟨(s1.box b hb k3).1,k4⟩
   · obtain ⟨k1,k2⟩:=s2.it b (i2 _ (i1 _ hb)) hL;obtain ⟨k3,k4⟩:=hst.it b (i1 _ hb) k1;exact ⟨(s1.it b hb k3).1,k4⟩
   · obtain ⟨k1,k2⟩:=s2.map b (i2 _ (i1 _ hb)) hL;obtain ⟨k3,k4⟩:=hst.map b (i1 _ hb) k1;exact ⟨(s1.map b hb k3).1,k4⟩
   · have k1:aaI (.box false t'::r') b ver esz k es:=by
      cases b with
      | zero=>simp [aaI] at hL
      | succ b=>exact hL
     obtain ⟨k0,es0,q1,q2⟩:=hst.arr b ver esz k es (i1 _ hb) k1;refine ⟨k0,es0,?_,q2⟩;cases b with
     | zero=>simp [aaI] at q1
     | succ b=>exact q1
   · obtain ⟨k1,k2⟩:=s2.loop b (i2 _ (i1 _ hb)) hL;obtain ⟨k3,k4⟩:=hst.loop b (i1 _ hb) k1;exact ⟨(s1.loop b hb k3).1,k4⟩
 · exact hpo.rel.swap (fun cs h=>(aqa hu).2 ⟨h,hn _ _ _ _ _ h⟩) hb (fun n h=>by simpa [aaa,aac] using h)
 · rintro b ⟨L,hL⟩;have k1:aaN (.box false t::r) b:=by
    cases b with
    | zero=>simp at hL
    | succ b=>exact ⟨L,hL⟩
   obtain ⟨L',k2⟩:=hpo.loop b k1;cases b with
   | zero=>simp at k2
   | succ b=>exact ⟨L',k2⟩
end
section
variable {P:Program} {w:World} {Imm Prot:Nat→Prop} {β:Bd}
def aqZ (n:Nat):Heap:=List.replicate n .dead
theorem abZ {n b:Nat} {o:Obj} (h:(aqZ n)[b]?=some o):o=.dead:=by
 simp only [aqZ,List.getElem?_replicate] at h
 split at h
 · injection h with h; exact h.symm
 · cases h
theorem abp.cut {f:FuncId} {H:Heap} {args:List AV} {n:Nat} {p:PV} (h:abp P f H args (aqZ n) (.p p)):abp P f H args (aqZ H.length) (.p p):=by
 refine ⟨h.1,fun w Imm Prot β cargs hr ha hre=>(h.2 w Imm Prot β cargs hr ha hre).mono ?_⟩;rintro e w' ⟨cv,β',Imm',rfl,hpo,hv,hrv⟩;have no:∀ {m b:Nat} {o:Obj},(aqZ m)[b]?=some o→o.live→False:=fun h hl=>by rw [abZ h] at hl; exact hl
 refine ⟨cv,β',Imm',rfl,⟨hpo.imm,hpo.fresh,hpo.ext,⟨?_,?_,?_,?_,?_⟩,⟨fun b o ho=>by rw [abZ ho]; trivial,fun b b' o o' ho _ hl=>(no ho hl).elim,fun b o ho=>by rw [abZ ho]; trivial,hpo.rel.imm,hpo.rel.prot,hpo.rel.glob⟩,?_,?_⟩,hv,trivial⟩
 · rintro b _ ⟨fz,t,h⟩; cases abZ h
 · rintro b _ ⟨fz,t,h⟩; cases abZ h
 · rintro b _ ⟨fz,t,h⟩; cases abZ h
 · intro b ver esz k es _ h; cases abZ h
 · rintro b _ ⟨L,h⟩; cases abZ h
 · rintro x ⟨o,h1,_⟩;have hlt:=(List.getElem?_eq_some_iff.1 h1).1;exact ⟨.dead,by rw [aqZ,List.getElem?_replicate,if_pos hlt],trivial⟩
 · intro b hb;obtain ⟨L,hL⟩:=hpo.loop b hb;cases abZ hL
theorem abp.weak {f:FuncId} {H H':Heap} {args:List AV} {v v':PV} (h:abp P f H args H' (.p v)) (hv:Wk v v'):abp P f H args H' (.p v'):=by
 refine ⟨h.1,fun w Imm Prot β cargs hr ha hre=>(h.2 w Imm Prot β cargs hr ha hre).mono ?_⟩;rintro e w' ⟨cv,β',Imm',rfl,hpo,h2,hrv⟩;exact ⟨cv,β',Imm',rfl,hpo,PVV.weak _ _ _ hv h2,trivial⟩
end
section
variable {P:Program}
def awP (P:Program) (rs:List ResultVar) (N:Nat) (Q:AV→Heap→Prop) (e:Tg (rs,N,Q) aan) (s:Tg (rs,N,Q) St):Prop :=
 (match e with
  | .exit _=>False
  | _=>True)∧∃ vs,aaO P s rs=some vs∧∃ H',Q (oneOf vs) H'∧(H'=St.heap s∨(aaD N s ⟨[],H'⟩∧aaa (InH H') (oneOf vs)))
theorem atE {rs:List ResultVar} {N:Nat} {Q:AV→Heap→Prop} {s:St}:awP P rs N Q .ret s = ∃ vs,aaO P s rs=some vs∧∃ H',Q (oneOf vs) H'∧(H'=s.heap∨(aaD N s ⟨[],H'⟩∧aaa (InH H') (oneOf vs))):=by simp [awP]
theorem amn {rs:List ResultVar} {N:Nat} {Q:AV→Heap→Prop} {s:St}:awP P rs N Q .normal s = ∃ vs,aaO P s rs=some vs∧∃ H',Q (oneOf vs) H'∧(H'=s.heap∨(aaD N s ⟨[],H'⟩∧aaa (InH H') (oneOf vs))):=by simp [awP]
attribute [simp] atE amn
end
section
variable {P:Program}
theorem aab.heap {f:FuncId} {vs vs':List PV} {v:PV} {H H1:Heap} {args:List AV} (h:aab P f vs v) (hE:Enters P f) (ha:purL H args=some (vs',H1)) (h1:Wkl vs' vs:=by first | exact Wkl.refl _ | simp):abp P f H args H1 (.p v):=by
 refine ⟨hE,fun w Imm Prot β cargs hrel hargs hargr=>?_⟩;obtain ⟨Imm1,p1,p2⟩:=ahJ ha hrel hargs hargr;rcases h.weak h1 (Wk.refl _) with hG | hX
 · intro cs;obtain ⟨e,w',fr',⟨cv,Imm',he,m1,m2,m3,m4,m5,m6,m7⟩,hst,hfn',hlv⟩:=hG.2 w Imm1 _ p1.rel.imm p1.rel.glob p2 cs;subst he;exact ⟨_,w',fr',⟨cv,β,Imm',rfl,p1.trans (p1.rel.later m1 m2 m3 m4 m5 m6),by simpa [AVV] using m7,by simp [aaa]⟩,hst,hfn',hlv⟩
 · obtain ⟨cv,h2,_⟩:=hX w Imm1 _ p2;rw [hE] at h2;cases h2
end
section
variable {P:Program} {frz:FuncId→Bool}
theorem ad5.eff {b : Nat} {H H2 : Heap} {args : List AV} {v : AV} (h : ad5 P b H args H2 v) (hl : H2.length = H.length) (ha : aac (InH H) args) (hr : acD H H) (base : Nat) :
    ajR P b args base { v:=v,hin:=idz H,hset:=idz H2 }:=by
 have hf:=h.frame (List.range H.length) H.length (by simp) List.nodup_range (fun b hb=>by simpa using hb) (by omega) ha hr.get;rw [aw5] at hf;have e:effF (List.range H.length) H.length H H2 v = { v:=v,hin:=idz H,hset:=idz H2 }:=by
  simp only [effF,aw5,ao0];rw [show (renO fun i=>i)=id from funext azE,List.map_id,List.map_id,List.map_id,← hl,List.take_length,List.drop_length,idz,idz,hl]
 rw [e,ae3] at hf;intro H' w Imm Prot β cargs h1 h2 h3 h4 h5;exact hf H' w Imm Prot β cargs h1 h2 h3 h4 (fun i hi=>by simp at hi)
theorem yd {b : Nat} {H H2 J HH : Heap} {args : List PV} {as : List AV} {v : PV} {K : Eff → Prop} (h : ad5 P b H (args.map .p) H2 (.p v)) (hH : HH = H ++ J) (has : as = args.map .p) (hl : H2.length = H.length) (hr : acD H H) (hh : ∀ o ∈ H2, o ≠ .hole)
    (hk:K { v:=.p v,hin:=idz H,hset:=idz H2 }):aue P HH K (.map b) as:=by
 subst hH; subst has;have ha:aac (InH H) (args.map AV.p):=aaE _ _;show ∃ e,ajR P b (args.map .p) (H ++ J).length e∧amO (H ++ J) e∧K e;refine ⟨_,h.eff hl ha hr _,⟨fun p hp=>?_,fun p hp=>?_⟩,hk⟩
 · have h1:=azx hp;rw [List.getElem?_append_left (List.getElem?_eq_some_iff.1 h1).1]; exact h1
 · have h1:=azx hp;have h2:=(List.getElem?_eq_some_iff.1 h1).1;exact ⟨by rw [List.length_append]; omega,hh _ (List.mem_of_getElem? h1)⟩
end
end Go.Abs
