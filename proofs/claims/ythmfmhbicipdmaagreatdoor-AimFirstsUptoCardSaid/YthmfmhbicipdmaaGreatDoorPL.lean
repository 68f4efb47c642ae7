import Derived.Test.YthmfmhbicipdmaaGreatDoorPH
import Derived.Test.YthmfmhbicipdmaaGreatDoorPK
import Derived.Test.YthmfmhbicipdmaaGreatDoorThE
/- Parts of a proof. -/
set_option linter.unusedSimpArgs false
set_option linter.unusedVariables false
set_option linter.unusedSectionVars false
open Go.Proofs.Tryz
open And renaming intro->am
open Go renaming DataW->ao, Field->av
open Go.IntKind renaming i64->ax
open Int renaming tmod_eq_emod_of_nonneg->ay, natCast_emod->aT
open List renaming drop_eq_getElem_cons->a0, map_cons->a1, mem_of_getElem?->a4, zip_cons_cons->a5, zip_nil_left->a6, length_take->a7, range->a8, map_nil->a9, length_map->bb, mem_cons_of_mem->be, mem_cons_self->bf, length_range->bi, length_cons->bl, getElem_mem->bo, mem_map->bv, getElem?_eq_none->bw, mem_iff_getElem->b0, getElem?_range->b1, getElem_take->b2, getElem?_map->b3, map_take->b4
namespace Go.ak
open Go.Proofs Go.Proofs.YthmfmhbicipdmaaGreatDoor
set_option maxRecDepth 100000
section
variable{H:Type}{W:World}{ad:Nat->Prop}
theorem yn:∀d:ao H,1<=Rows.uptoBulk d:=by
 intro d;cases d with
 |lit l=>cases l<;>simp[Rows.uptoBulk]
 |_=>simp[Rows.uptoBulk]
theorem yv{α:Type}{n:Nat}{t e:TypeId}{F:α->PV}{ok:α->Prop}(g:prog.underlying t=some (.slice e))
 (p:∀(d:ao H),(∃c,aU prog W ad (bJ prog n e d) c)->Rows.uptoBulk d<=1048576->∃a,bJ prog n e d=F a/\ok a/\2<=Rows.uptoBulk d)
 {d:ao H}(h:∃cs,aU prog W ad (bJ prog (n+1) t d) cs)(k:Rows.uptoBulk d<=1048576):∃l:List α,bJ prog (n+1) t d=.seq (l.map F)/\(∀a∈l,ok a)/\l.length<=1000000:=by
 obtain⟨cs,h⟩:=h;cases d with
 |nil=>exact⟨[],by simp[bJ,g],(fun _ h=>nomatch h),by simp⟩
 |slice f sp=>
  simp only[bJ,g,aU]at h⊢;have i:∀e'∈f.map (bJ prog n e),∃c,aU prog W ad e' c:=by
   rcases h with⟨h,_⟩|⟨_,_,_,_,w,h,_⟩
   ·rw[h];intro _ h;cases h
   ·exact Gp h
  have key:∀f:List (ao H),(∀e'∈f.map (bJ prog n e),∃c,aU prog W ad e' c)->Rows.uptoBulkAll f<=1048576->∃l:List α,f.map (bJ prog n e)=l.map F/\(∀a∈l,ok a)/\2*l.length<=Rows.uptoBulkAll f:=by
   intro f
   induction f with
   |nil=>intro _ _;exact⟨[],rfl,(fun _ h=>nomatch h),by simp⟩
   |cons d r v=>
    intro i k;rw[Rows.uptoBulkAll]at k⊢;obtain⟨a,q,u,m⟩:=p d (i _ bf) (by omega);obtain⟨l,j,o,y⟩:=v (fun e' s=>i e' (be _ s)) (by omega);refine⟨a::l,by simp only[a1];rw[q,j],fun x hx=>?_,by rw[bl];omega⟩;rcases List.mem_cons.1 hx with rfl|hx
    ·exact u
    ·exact o x hx
  rw[Rows.uptoBulk]at k;obtain⟨l,j,m,o⟩:=key f i (by omega);exact⟨l,by rw[j],m,by omega⟩
 |lit l=>simp only[bJ,g,aU]at h
 |ptr d=>simp only[bJ,g,aU]at h
 |agg l=>simp only[bJ,g,aU]at h
 |iface a b=>simp only[bJ,g,aU]at h
 |map l=>simp only[bJ,g,aU]at h
 |held a=>simp only[bJ,g,aU]at h
theorem vE{n:Nat}{d:ao H}(h:∃cs,aU prog W ad (bJ prog (n+1) 9 d) cs)(a:Rows.uptoBulk d<=1048576):∃s:List Nat,bJ prog (n+1) 9 d=.str s/\jB s:=by
 obtain⟨cs,h⟩:=h;cases d with
 |lit l=>
  cases l with
  |string bytes=>
   refine⟨bytes.map (·.toNat),by simp only[bJ,FE],?_,?_⟩
   ·rw[Rows.uptoBulk]at a;rw[bb];omega
   ·intro c hc;obtain⟨u,_,rfl⟩:=bv.1 hc;exact u.toNat_lt
  |_=>simp only[bJ,FE,aU]at h
 |_=>simp only[bJ,FE,aU]at h
theorem aLV:∃a b:av,prog.underlying 202=some (.struct #[a,b])/\a.type=3/\b.type=3:=⟨_,_,underlying202,rfl,rfl⟩
theorem Su:prog.underlyingId 202=201:=by kernel_rfl
theorem TD{m n:Nat}(j:m=n+1){d:ao H}(h:∃cs,aU prog W ad (bJ prog (m+1) 202 d) cs)(o:Rows.uptoBulk d<=1048576):∃p:dZ,bJ prog (m+1) 202 d=cE p/\True/\2<=Rows.uptoBulk d:=by
 obtain⟨cs,h⟩:=h;obtain⟨f0,f1,f,t0,t1⟩:=aLV;cases d with
 |agg l=>
  simp only[bJ,f,aU]at h⊢;obtain⟨q,k,e,c,_⟩:=h;rw[Su,aLs]at e;cases e
  match l,c with
  |[],c=>simp[bk]at c
  |[x],c=>simp[bk]at c
  |x::y::r,c=>
   have:=yn x;simp only[a5,a1,bk,a6,a9,t0,t1]at c⊢;obtain⟨c0,_,_,g1,_,c1,_,_,g2,_⟩:=c;subst j;obtain⟨a,g⟩:=yu (n:=n) x c0 g1;obtain⟨b,i⟩:=yu (n:=n) y c1 g2;refine⟨⟨a,b⟩,by rw[g,i,Su];rfl,trivial,?_⟩;rw[Rows.uptoBulk,Rows.uptoBulkAll];omega
 |_=>simp only[bJ,f,aU]at h
theorem aLT:∃a b f2 f3:av,prog.underlying 91=some (.struct #[a,b,f2,f3])/\a.type=9/\b.type=3/\f2.type=30/\f3.type=30:=⟨_,_,_,_,underlying91,rfl,rfl,rfl,rfl⟩
theorem Sr:prog.underlyingId 91=90:=by kernel_rfl
theorem S9{m n:Nat}(q:m=n+1){d:ao H}(h:∃cs,aU prog W ad (bJ prog (m+1) 91 d) cs)(o:Rows.uptoBulk d<=1048576):∃p:dV,bJ prog (m+1) 91 d=fL p/\tv p/\2<=Rows.uptoBulk d:=by
 obtain⟨cs,h⟩:=h;obtain⟨f0,f1,f2,f3,g,t0,t1,t2,t3⟩:=aLT;cases d with
 |agg l=>
  have e:∀x∈l,Rows.uptoBulk x<=1048576:=fun x hx=>by
   have:=qE.uT hx;rw[Rows.uptoBulk]at o;omega
  simp only[bJ,g,aU]at h⊢;obtain⟨B,A,f,c,_⟩:=h;rw[Sr,aLw]at f;cases f
  match l,c with
  |[],c=>simp[bk]at c
  |[x],c=>simp[bk]at c
  |[x,y],c=>simp[bk]at c
  |[x,y,z],c=>simp[bk]at c
  |x::y::z::w::r,c=>
   have:=yn x;simp only[a5,a1,bk,a6,a9,t0,t1,t2,t3]at c⊢;obtain⟨c0,_,_,g0,_,c1,_,_,g1,_,c2,_,_,g2,_,c3,_,_,g3,_⟩:=c;subst q;obtain⟨a,i,k⟩:=vE (n:=n) ⟨c0,g0⟩ (e x (by simp));obtain⟨b,j⟩:=yu (n:=n) y c1 g1;obtain⟨u,eu,s⟩:=AQ (n:=n) ⟨c2,g2⟩ (e z (by simp));obtain⟨v,ev,t⟩:=AQ (n:=n) ⟨c3,g3⟩ (e w (by simp));refine⟨⟨a,b,u,v⟩,by rw[i,j,eu,ev,Sr];rfl,⟨k,s,t⟩,?_⟩;rw[Rows.uptoBulk,Rows.uptoBulkAll];omega
 |_=>simp only[bJ,g,aU]at h
theorem aLX:∃a b:av,prog.underlying 141=some (.struct #[a,b])/\a.type=9/\b.type=32:=⟨_,_,underlying141,rfl,rfl⟩
theorem Sw:prog.underlyingId 141=56:=by kernel_rfl
theorem TA{m n:Nat}(s:m=n+2){d:ao H}(h:∃cs,aU prog W ad (bJ prog (m+1) 141 d) cs)(o:Rows.uptoBulk d<=1048576):∃p:cL,bJ prog (m+1) 141 d=bC p/\nT p/\2<=Rows.uptoBulk d:=by
 obtain⟨cs,h⟩:=h;obtain⟨f0,f1,g,t0,t1⟩:=aLX;cases d with
 |agg l=>
  have f:∀x∈l,Rows.uptoBulk x<=1048576:=fun x hx=>by
   have:=qE.uT hx;rw[Rows.uptoBulk]at o;omega
  simp only[bJ,g,aU]at h⊢;obtain⟨u,t,e,c,_⟩:=h;rw[Sw,Sn]at e;cases e
  match l,c with
  |[],c=>simp[bk]at c
  |[x],c=>simp[bk]at c
  |x::y::r,c=>
   have:=yn x;simp only[a5,a1,bk,a6,a9,t0,t1]at c⊢;obtain⟨c0,_,_,g1,_,c1,_,_,g2,_⟩:=c;subst s;obtain⟨a,i,k⟩:=vE (n:=n+1) ⟨c0,g1⟩ (f x (by simp));obtain⟨b,j,q⟩:=Dr (n:=n) ⟨c1,g2⟩ (f y (by simp));refine⟨⟨a,b⟩,by rw[i,j,Sw];rfl,⟨k,q⟩,?_⟩;rw[Rows.uptoBulk,Rows.uptoBulkAll];omega
 |_=>simp only[bJ,g,aU]at h
theorem aLY:∃a b f2 f3:av,prog.underlying 26=some (.struct #[a,b,f2,f3])/\a.type=22/\b.type=3/\f2.type=23/\f3.type=24:=⟨_,_,_,_,underlying26,rfl,rfl,rfl,rfl⟩
theorem Sx:prog.underlyingId 26=25:=by kernel_rfl
theorem aLx{m n:Nat}(p:m=n+4){d:ao H}(h:∃cs,aU prog W ad (bJ prog (m+1) 26 d) cs)(e:Rows.uptoBulk d<=1048576):∃t:aw,bJ prog (m+1) 26 d=cC t/\True/\jr t:=by
 obtain⟨cs,h⟩:=h;obtain⟨f0,f1,f2,f3,j,t0,t1,t2,t3⟩:=aLY;cases d with
 |agg l=>
  have g:∀x∈l,Rows.uptoBulk x<=1048576:=fun x hx=>by
   have:=qE.uT hx;rw[Rows.uptoBulk]at e;omega
  simp only[bJ,j,aU]at h⊢;obtain⟨E,D,i,c,_⟩:=h;rw[Sx,aLt]at i;cases i
  match l,c with
  |[],c=>simp[bk]at c
  |[x],c=>simp[bk]at c
  |[x,y],c=>simp[bk]at c
  |[x,y,z],c=>simp[bk]at c
  |x::y::z::w::r,c=>
   simp only[a5,a1,bk,a6,a9,t0,t1,t2,t3]at c⊢;obtain⟨c0,_,_,g0,_,c1,_,_,g1,_,c2,_,_,g2,_,c3,_,_,g3,_⟩:=c;subst p;obtain⟨a,k,_,A⟩:=yv (n:=n+3) aLO (F:=cE) (ok:=fun _=>True) (fun d f e=>TD (n:=n+1) rfl f e) ⟨c0,g0⟩ (g x (by simp));obtain⟨b,o⟩:=yu (n:=n+3) y c1 g1;obtain⟨u,eu,q,B⟩:=yv (n:=n+3) aLP (F:=fL) (ok:=tv) (fun d f e=>S9 (n:=n+1) rfl f e) ⟨c2,g2⟩ (g z (by simp));obtain⟨v,ev,s,C⟩:=yv (n:=n+3) aLQ (F:=bC) (ok:=nT) (fun d f e=>TA (n:=n) rfl f e) ⟨c3,g3⟩ (g w (by simp));exact⟨⟨a,b,u,v⟩,by rw[k,o,eu,ev,Sx];rfl,trivial,A,B,C,q,s⟩
 |_=>simp only[bJ,j,aU]at h
end
open Go.Proofs
set_option maxHeartbeats 4000000
def fE(p:dV):PV:=.st 90 [.str p.name,.int .i64 p.fg,.str p.a,.str p.b]
def gY(p:cL):PV:=.st 56 [.str p.name,dm p.pt]
def bR(t:aw):PV:=.st 43 [.seq (t.cs.map cE),.int .i64 t.ba,.seq (t.bn.map fE),.seq (t.an.map gY)]
@[simp] theorem aPu(p:dV):aI (fE p)=.agg 90:=rfl
@[simp] theorem aNV(p:dV):bW (fE p)=[.str p.name,.int .i64 p.fg,.str p.a,.str p.b]:=rfl
@[simp] theorem aPB(p:cL):aI (gY p)=.agg 56:=rfl
@[simp] theorem aN2(p:cL):bW (gY p)=[.str p.name,dm p.pt]:=rfl
@[simp] theorem aPE(t:aw):aI (bR t)=.agg 43:=rfl
@[simp] theorem aN4(t:aw):bW (bR t)=[.seq (t.cs.map cE),.int .i64 t.ba,.seq (t.bn.map fE),.seq (t.an.map gY)]:=rfl
@[simp] theorem aM7:prog.cellsOf 43=4:=by kernel_rfl
theorem ato(p:dZ):au prog 217 [cE p] (.bool (gl p)):=by
 obtain⟨x,y⟩:=p;refine aG nf HZ mix (by simp[f217]) ?_;have e1:max x y=if x<y then y else x:=by split<;>omega
 have e2:min x y=if y<x then y else x:=by split<;>omega
 rw[gl,e1,e2]
 by_cases h:(if x<y then y else x)<=10000
 ·have a:¬10000<(if x<y then y else x):=by omega
  by_cases b:(if y<x then y else x)< -10000
  ·simp[f217,aa,h,a,b]
  ·simp[f217,aa,h,a,b]
 ·have a:10000<(if x<y then y else x):=by omega
  simp[f217,aa,h,a]
def idxFrom{α:Type}(p:α->Bool):List α->Nat->Int
 |[],_=>-1
 |x::r,i=>if p x then(i:Int)else idxFrom p r (i+1)
theorem qU{α:Type}(p:α->Bool):∀(l:List α)(i:Nat),decide (0<=idxFrom p l i)=l.any p
 |[],i=>by simp[idxFrom]
 |x::r,i=>by
  by_cases h:p x
  ·simp[idxFrom,h]
  ·simp[idxFrom,h,qU p r]
theorem S7(l:List dZ)(h:l.length<=1000000):
 au prog 275 [.seq (l.map cE),.func 217 [] []] (.int .i64 (idxFrom gl l 0)):=by
 refine aG nf IF mix (by simp[f275]) ?_;simp[f275];refine lp (α:=Nat) (fun i=>⟨[(8,.p (.int .i64 i)),(7,.p (.int .i64 l.length)),(1,.p (.func 217 [] [])),(0,.p (.seq (l.map cE)))],[]⟩) (fun i=>i<=l.length/\idxFrom gl l 0=idxFrom gl (l.drop i) i) (fun i=>l.length-i) 0 (by simp) ?_;rintro i ⟨k1,k2⟩
 by_cases hi:i<l.length
 ·rw[a0 hi]at k2;have b:=ct (i:=i) (by omega);simp[hi];refine c1 (ato l[i]) ?_
  by_cases a:gl l[i]
  ·simp[idxFrom,a]at k2;simp[a,k2]
  ·simp[idxFrom,a]at k2;simp[a,b];exact rd (i+1) ⟨hi,k2⟩
 ·have:i=l.length:=by omega
  subst this;simp[idxFrom]at k2;simp[k2]
theorem SQ(l:List dZ)(h:l.length<=1000000):
 au prog 216 [.seq (l.map cE),.func 217 [] []] (.bool (l.any gl)):=by
 refine aG nf H3 mix (by simp[f216]) ?_;simp[f216];refine c2 (S7 l h) ?_;simp[<-qU gl l 0]
def nq(l:List dZ):List (PV×PV):=l.map (fun p=>(cE p,PV.bool true))
theorem GV{p q:dZ}(h:¬p=q):¬(p.x=q.x/\p.y=q.y):=fun⟨a,b⟩=>h (by cases p;cases q;simp_all)
theorem aAa(a b c d:Int):gh prog 9 202 (.st 201 [.int .i64 a,.int .i64 b]) (.st 201 [.int .i64 c,.int .i64 d])=some ((a==c)&&((b==d)&&true)):=by kernel_rfl
@[simp] theorem BZ(p q:dZ):gh prog 9 202 (cE p) (cE q)=some (decide (p=q)):=by
 rw[cE,cE,aAa]
 by_cases h:p=q
 ·subst h;simp
 ·rw[decide_eq_false h];have:=GV h
  by_cases a:p.x=q.x
  ·have b:¬p.y=q.y:=fun b=>this ⟨a,b⟩;simp[a,b]
  ·simp[a]
theorem GU(p q:dZ):j0 (cE p) (cE q)=some (decide (p=q)):=by
 by_cases h:p=q
 ·subst h;simp[cE,j0,xW]
 ·rw[decide_eq_false h];have:=GV h
  by_cases a:p.x=q.x
  ·have b:¬p.y=q.y:=fun b=>this ⟨a,b⟩;simp[cE,j0,xW,a,beq_false_of_ne b]
  ·simp[cE,j0,xW,beq_false_of_ne a]
theorem az9(p q:dZ):qJ prog 202 (cE p) (cE q)=some (decide (p=q)):=by
 have e1:=BZ p q;have e2:=GU p q;rw[cE]at e1 e2⊢;rw[qJ,e1,e2];simp
@[simp] theorem Gk(q:dZ):∀l:List dZ,ga prog 202 (nq l) (cE q)=some (if q∈l then some (.bool true)else none)
 |[]=>rfl
 |p::r=>by
  rw[nq,a1,ga,az9]
  by_cases h:q=p
  ·simp[h]
  ·have:=Gk q r;rw[nq]at this;simp[h,this]
theorem S2{q:dZ}{l:List dZ}(h:¬q∈l):mH prog 202 (nq l) (cE q)=some none:=by
 have:=Gk q l;rw[if_neg h]at this;rw[cE]at this⊢;rw[mH,this]
theorem Gm{q:dZ}:∀{l:List dZ},¬q∈l->gA (nq l) (cE q) (.bool true)=nq (l++[q])
 |[],_=>rfl
 |p::r,h=>by
  have a:¬q=p:=fun e=>h (e▸bf);have b:¬q∈r:=fun e=>h (be _ e);have:=Gm b;rw[nq]at this⊢;rw[a1,gA,GU,this];simp[a,nq]
theorem aJ0:nR prog 202=true:=by kernel_rfl
@[simp high] theorem aMR(c:Bool)(H:aj)(p q:dZ):jL prog .neq 202 c H (.p (cE p)) (.p (cE q))=some (True,{v:=.p (.bool !(decide (p=q)))}):=by
 have e:=BZ p q;rw[cE,cE]at*;simp[jL,e,aJ0]
@[simp high] theorem aNI(q:dZ):gB prog 202 (cE q)=true:=by
 have e1:=BZ q q;rw[cE]at e1⊢;rw[gB];simp[e1]
theorem Tt(a c:dZ):lP a a c=0:=by simp[lP]
theorem S4(a b:dZ):lP a b a=0:=by simp[lP]
theorem Tk{t:aw}(e:3<=t.cs.length){j k:Nat}(c:j<t.cs.length)(hk:k<t.cs.length)(d:j≠k)(b:t.at j=t.at k):t.fX=false:=by
 rw[aw.fX,decide_eq_false_iff_not];intro h
 by_cases hx:k=t.nx j
 ·obtain⟨m,m1,m2,m3⟩:∃m,m<t.cs.length/\m≠j/\m≠k:=by
   rcases Nat.lt_trichotomy j k with a|a|a
   ·by_cases e0:j=0
    ·by_cases e1:k=1
     ·exact⟨2,by omega,by omega,by omega⟩
     ·exact⟨1,by omega,by omega,by omega⟩
    ·exact⟨0,by omega,by omega,by omega⟩
   ·exact(d a).elim
   ·by_cases e0:k=0
    ·by_cases e1:j=1
     ·exact⟨2,by omega,by omega,by omega⟩
     ·exact⟨1,by omega,by omega,by omega⟩
    ·exact⟨0,by omega,by omega,by omega⟩
  have:=h j c m m1 m2 (hx▸m3);rw[<-hx,<-b,Tt]at this;omega
 ·have:=h j c k hk (Ne.symm d) hx;rw[<-b,S4]at this;omega
theorem Tw(t:aw)(ai:3<=t.cs.length)(aj:t.cs.length<=1000000)(F:∀p∈t.cs,dW p):au prog 218 [bR t] (.bool t.fX):=by
 refine aG nf HY mix (by simp[f218]) ?_;generalize q:t.cs.length=n at*;simp[f218,aa,q];refine lp (α:=Nat) (fun i=>⟨[(16,.p (.int .i64 i)),(15,.p (.int .i64 n)),(14,.p (.seq (t.cs.map cE))),(3,.map 1),(1,.ptr 0 [])],[.box false (.p (bR t)),.map false (nq (t.cs.take i))]⟩) (fun i=>i<=n/\∀j k,j<k->k<i->t.at j≠t.at k) (fun i=>n-i) 0 (by simp) ?_ (hh:=by simp[nq]);rintro i ⟨ah,E⟩
 by_cases hi:i<n
 ·have H:=aw.get (t:=t) (i:=i) (by omega);have z:=ct (i:=i) (by omega);have W:t.cs.take (i+1)=t.cs.take i++[t.at i]:=by rw[List.take_add_one,H];rfl
  simp[-gB,hi,q,H,aa]
  by_cases f:t.at i∈t.cs.take i
  ·obtain⟨j,s,r⟩:=b0.1 f;rw[a7]at s;rw[b2,aw.aN (by omega)]at r;have Q:=Tk (by omega) (j:=j) (k:=i) (by omega) (by omega) (by omega) r;simp[f,Q]
  ·have hI:=S2 f;have I:=Gm f;rw[<-W]at I;simp[-gB,-mH,f,hI,I,z];exact rd (i+1) ⟨hi,fun j k w hk=>by
    by_cases T:k=i
    ·subst T;intro r;exact f (r▸a4 (i:=j) (by rw[List.getElem?_take,if_pos w];exact aw.get (by omega)))
    ·exact E j k w (by omega)⟩
 have R:i=n:=by omega
 subst R;have inj:∀j k,j<i->k<i->t.at j=t.at k->j=k:=fun j k s hk r=>by
  rcases Nat.lt_trichotomy j k with h|h|h
  ·exact(E j k h hk r).elim
  ·exact h
  ·exact(E k j h s r.symm).elim
 simp[q,aa];refine lp (α:=Nat) (fun m=>⟨[(32,.p (.int .i64 m)),(31,.p (.int .i64 i)),(30,.p (.seq (t.cs.map cE))),(6,.p (.int .i64 i)),(1,.ptr 0 [])],[.box false (.p (bR t))]⟩) (fun m=>m<=i/\∀j,j<m->t.nY j i) (fun m=>i-m) 0 (by simp) ?_;rintro m ⟨g1,g2⟩;have U:¬i=0:=by omega
 by_cases f:m<i
 ·have M:=aw.get (t:=t) (i:=m) (by omega);have z:=ct (i:=m) (by omega);have V:t.nx m<i:=by rw[<-q];exact t.kl (by omega) m
  have N:=aw.get (t:=t) (i:=t.nx m) (by omega);have e1:((m:Int)+1).tmod (i:Int)=((t.nx m:Nat):Int):=by
   rw[aw.nx,q,aT,ay (by omega)];rfl
  simp[f,q,M,N,z,e1,U,aa];refine⟨by repeat' first|rfl|apply am,?_⟩;refine lp (α:=Nat) (fun k=>⟨[(48,.p (.int .i64 k)),(47,.p (.int .i64 i)),(46,.p (.seq (t.cs.map cE))),(9,.ptr 2 []),(8,.ptr 1 []),(32,.p (.int .i64 m)),(31,.p (.int .i64 i)),(30,.p (.seq (t.cs.map cE))),(6,.p (.int .i64 i)),(1,.ptr 0 [])],[.box false (.p (bR t)),.box false (.p (cE (t.at m))),.box false (.p (cE (t.at (t.nx m))))]⟩) (fun k=>k<=i/\t.nY m k) (fun k=>i-k) 0 (by simp[aw.nY]) ?_;rintro k ⟨q1,D⟩
  by_cases hk:k<i
  ·have gk:=aw.get (t:=t) (i:=k) (by omega);have G:=ct (i:=k) (by omega)
   by_cases c1:t.at k=t.at m
   ·have:=inj _ _ hk f c1;subst this;simp[-jL,jL.eq_1,hk,gk,G,aa];exact rd (k+1) ⟨hk,fun j s=>by
     by_cases w:j=k
     ·intro h;exact(h w).elim
     ·exact D j (by omega)⟩
   ·by_cases c2:t.at k=t.at (t.nx m)
    ·have:=inj _ _ hk V c2;have c3:¬t.at (t.nx m)=t.at m:=by rw[<-c2];exact c1
     simp[-jL,jL.eq_1,hk,gk,G,c2,c3,aa];exact rd (k+1) ⟨hk,fun j s=>by
      by_cases w:j=k
      ·intro _ h;exact(h (by omega)).elim
      ·exact D j (by omega)⟩
    ·have L:k≠m:=fun e=>c1 (by rw[e]);have nx:k≠t.nx m:=fun e=>c2 (by rw[e]);have P:lP (t.at m) (t.at (t.nx m)) (t.at k)=((t.at (t.nx m)).x-(t.at m).x)*((t.at k).y-(t.at m).y)-((t.at (t.nx m)).y-(t.at m).y)*((t.at k).x-(t.at m).x):=rfl;have X:=aw.fj F (i:=m) (by omega);have Y:=aw.fj F (i:=t.nx m) (by omega);have Z:=aw.fj F (i:=k) (by omega);have K:t.nY m (k+1)↔0<lP (t.at m) (t.at (t.nx m)) (t.at k):=⟨fun h=>h k (by omega) L nx,fun h j s u v=>by
      by_cases w:j=k
      ·subst w;exact h
      ·exact D j (by omega) u v⟩
     have J:¬0<lP (t.at m) (t.at (t.nx m)) (t.at k)->t.fX=false:=fun h=>by
      rw[aw.fX,decide_eq_false_iff_not];intro O;exact h (O m (by omega) k (by omega) L nx)
     rw[P]at K J;simp[-jL,jL.eq_1,hk,gk,G,c1,c2,aa];simp only[dW]at X Y Z;generalize t.at m=A at*;generalize t.at (t.nx m)=B at*;generalize t.at k=C at*;obtain⟨c,d⟩:=A;obtain⟨bx,g⟩:=B;obtain⟨l,o⟩:=C;dsimp only at*;have w1:ax.wrap (bx-c)=bx-c:=aO _ (by omega) (by omega);have ab:ax.wrap (o-d)=o-d:=aO _ (by omega) (by omega);have ac:ax.wrap (g-d)=g-d:=aO _ (by omega) (by omega)
     have ad:ax.wrap (l-c)=l-c:=aO _ (by omega) (by omega);have ak:=yo (a:=bx-c) (b:=o-d) (A:=20000) (B:=20000) (by omega) (by omega) (by omega) (by omega);have al:=yo (a:=g-d) (b:=l-c) (A:=20000) (B:=20000) (by omega) (by omega) (by omega) (by omega);have ae:ax.wrap ((bx-c)*(o-d))=(bx-c)*(o-d):=aO _ (by omega) (by omega);have af:ax.wrap ((g-d)*(l-c))=(g-d)*(l-c):=aO _ (by omega) (by omega);have ag:ax.wrap ((bx-c)*(o-d)-(g-d)*(l-c))=(bx-c)*(o-d)-(g-d)*(l-c):=aO _ (by omega) (by omega);simp[w1,ab,ac,ad,ae,af,ag]
     by_cases hc:(bx-c)*(o-d)-(g-d)*(l-c)<=0
     ·have:=J (by omega);simp[hc,this]
     ·simp[hc];exact rd (k+1) ⟨hk,K.2 (by omega)⟩
  ·have:k=i:=by omega
   subst this;simp[z];exact rd (m+1) ⟨f,fun j s=>by
    by_cases S:j=m
    ·subst S;exact D
    ·exact g2 j (by omega)⟩
 ·have:m=i:=by omega
  subst this;have:t.fX=true:=by
   rw[aw.fX,decide_eq_true_eq,q];exact g2
  simp[this]
noncomputable def fM(v:NV):PV:=.st 288 [eF v.x,eF v.y]
@[simp] theorem aPD(v:NV):aI (fM v)=.agg 288:=rfl
@[simp] theorem aN3(v:NV):bW (fM v)=[eF v.x,eF v.y]:=rfl
@[simp] theorem aM6:prog.cellsOf 288=8:=by kernel_rfl
theorem B0(x y:NF):fM ⟨x,y⟩=.st 288 [eF x,eF y]:=rfl
noncomputable def u4(a b:NV):PV:=.st 340 [fM a,fM b]
@[simp] theorem aPk(a b:NV):aI (u4 a b)=.agg 340:=rfl
@[simp] theorem aNL(a b:NV):bW (u4 a b)=[fM a,fM b]:=rfl
theorem EV(p:cw)(d:b6 p.x=0)(e:b6 p.y=0)(a:iV p):au prog 232 [dm p] (fM (.from p)):=by
 have b:=l9 p.x d a.1.1;have c:=l9 p.y e a.2.1;refine aG nf P0 mix (by simp[f232]) ?_;rw[NV.from,B0];simp[f232,aa];refine e1 b ?_;simp[aa];refine e1 c ?_;simp[aa]
def cZ(p:dZ):NV:=⟨.int p.x,.int p.y⟩
theorem FY(p:dZ)(h:dW p):au prog 347 [cE p] (fM (cZ p)):=by
 simp only[dW]at h;have a:=ma p.x (by omega) (by omega);have b:=ma p.y (by omega) (by omega);refine aG nf Ih mix (by simp[f347]) ?_;rw[cZ,B0];simp[f347,aa];refine e1 a ?_;simp[aa];refine e1 b ?_;simp[aa]
theorem B3(v w:NV)(a:bt kQ v.q)(b:bt kQ w.q):au prog 288 [fM v,fM w] (fM (v.sub w)):=by
 have c:=mP v.x w.x (dM a.1) (dM b.1);have d:=mP v.y w.y (dM a.2) (dM b.2);refine aG nf Iz mix (by simp[f288]) ?_;rw[NV.sub,B0];simp[f288,aa];refine e2 c ?_;simp[aa];refine e2 d ?_;simp[aa]
theorem Tm(v w:NV)(a:bt kQ v.q)(b:bt kQ w.q):au prog 289 [fM v,fM w] (eF (v.bL w)):=by
 have c:=ft v.x w.y (dM a.1) (dM b.2);have d:=ft v.y w.x (dM a.2) (dM b.1);have e:=mP (v.x.mul w.y) (v.y.mul w.x) ((cW a.1 b.2).mono (by decide)) ((cW a.2 b.1).mono (by decide));refine aG nf Iy mix (by simp[f289]) ?_;rw[NV.bL];simp[f289,aa];refine e2 c ?_;simp[aa];refine e2 d ?_;simp[aa];refine e2 e ?_;simp[aa]
theorem as0(t:aw)(i:Nat)(hi:i<t.cs.length)(k:t.cs.length<=1000000)(g:∀p∈t.cs,dW p):au prog 324 [bR t,.int .i64 i] (u4 (cZ (t.at i)) (cZ (t.at (t.nx i)))):=by
 have a:=t.kl (by omega) i;have h:=FY (t.at i) (aw.fj g hi);have j:=FY (t.at (t.nx i)) (aw.fj g a);have w1:=ct (i:=i) (by omega);have e1:((i:Int)+1).tmod (t.cs.length:Int)=((t.nx i:Nat):Int):=by
  rw[aw.nx,aT,ay (by omega)];rfl
 have f:¬t.cs.length=0:=by omega
 have d:¬t.cs=[]:=by intro e;rw[e]at hi;simp at hi
 have b:=aw.get hi;have c:=aw.get a;refine aG nf Io mix (by simp[f324]) ?_;rw[u4];simp[f324,aa,w1,e1,f,d,b,c,hi,a];refine Go.ak.e1 h ?_;simp[aa,w1,e1,f,d,b,c,hi,a];refine Go.ak.e1 j ?_;simp[aa,w1,e1,f,d,b,c,hi,a]
theorem awu(t:aw):au prog 287 [bR t] (.func 323 [] [.cm (bR t)]):=by
 refine aG nf IA mix (by simp[f287]) ?_;simp[f287];show gH [.box false (.p (bR t))] 7 (.p (bR t)) (bR t);rw[yz];exact Wk.refl _
noncomputable def yx(t:aw)(i:Nat):List PV:=[.int .i64 i,u4 (cZ (t.at i)) (cZ (t.at (t.nx i)))]
theorem BN{t:aw}{i:Nat}(h:i<t.cs.length):((a8 t.cs.length).map (yx t))[i]?=some (yx t i):=by
 rw[b3,b1 h];rfl
theorem aK3(t:aw)(g:t.cs.length<=1000000)(h:∀p∈t.cs,dW p):Stream prog 323 [] [.cm (bR t)] ((a8 t.cs.length).map (yx t)):=by
 intro b k e H' hk a l d;rw[bb,bi]at hk d;refine gM nf Ip mix (by simp[f323]) ?_;simp[f323,aa];refine lp (α:=Nat) (fun i=>⟨[(7,.p (.int .i64 i)),(6,.p (.int .i64 t.cs.length)),(1,.p (.cm (bR t))),(0,.map b)],e i⟩) (fun i=>i<=k) (fun i=>k-i) 0 (by simp) ?_ (hr:=by simp;exact(a 0 (by omega)).2) (hr2:=(a 0 (by omega)).1);rintro i m
 by_cases hi:i<t.cs.length
 ·have f:=as0 t i hi g h;have j:=ct (i:=i) (by omega);simp[hi];refine c2 f ?_;simp
  by_cases c:i<k
  ·refine⟨e (i+1),_,l i _ c (BN hi),?_⟩;simp[j];exact rd (i+1) c (hr:=by simp;exact(a (i+1) c).2) (hr2:=(a (i+1) c).1)
  ·have:i=k:=by omega
   subst this;rcases d with⟨e1,_⟩|⟨y,e1,e2⟩
   ·omega
   ·rw[BN hi]at e1;injection e1 with e1
    subst e1;refine⟨H',_,e2,?_⟩;simp
 ·have:i=t.cs.length:=by omega
  subst this;rcases d with⟨e1,e2⟩|⟨y,e1,e2⟩
  ·have:t.cs.length=k:=by omega
   subst this;simp[e2]
  ·rw[bw (by simp;omega)]at e1;cases e1
noncomputable def ya(t:aw)(v:NV)(L:ek)(i:Nat):aj:=[.box false (.p (bR t)),.box false (.p (fM v)),.box false (.p (.int .i64 (t.qM v.q i))),.loop L]
theorem Qy(t:aw)(v:NV)(m:t.cs.length<=1000000)(c:∀p∈t.cs,dW p)(g:bt 3000 v.q):au prog 233 [bR t,fM v] (.int .i64 (t.on v.q)):=by
 refine aG nf PZ mix (by simp[f233]) ?_;simp[f233,aa];refine c1 (awu t) ?_;simp;refine rf (aK3 t m c) rfl (by simp) (ya t v) t.cs.length (by simp) (fun L=>rfl) ?_ ?_ ?_
 ·intro L a i hi;refine⟨rfl,by simp[ya],fun _ hx=>?_⟩;simp[ya]at hx⊢;exact hx
 ·intro L a i x hi hx;rw[BN hi]at hx;injection hx with hx
  subst hx;have b:=jj (aw.fj c hi);have h:=jj (aw.fj c (t.kl (by omega) i));have q1:bt 29 ((cZ (t.at (t.nx i))).sub (cZ (t.at i))).q:=by rw[NV.fu];exact iH h b
  have n:bt 3015 (v.sub (cZ (t.at i))).q:=by rw[NV.fu];exact iH g b
  have j:=B3 (cZ (t.at (t.nx i))) (cZ (t.at i)) (h.mono (by decide)) (b.mono (by decide));have k:=B3 v (cZ (t.at i)) (g.mono (by decide)) (b.mono (by decide));have l:=Tm ((cZ (t.at (t.nx i))).sub (cZ (t.at i))) (v.sub (cZ (t.at i))) (q1.mono (by decide)) (n.mono (by decide));have e:=l8 (((cZ (t.at (t.nx i))).sub (cZ (t.at i))).bL (v.sub (cZ (t.at i))));have d:bX (((cZ (t.at (t.nx i))).sub (cZ (t.at i))).bL (v.sub (cZ (t.at i)))).q=t.side i v.q:=by
   rw[NV.nr,NV.fu,NV.fu];rfl
  rw[bX]at d;rw[d]at e;have hs:=aw.F0 t v.q i;rw[GA]at hs;refine tF nf mix a rfl rfl (by kernel_rfl) ?_;have f:=congrArg ek.env a;dsimp only at f;clear a d;generalize (cZ (t.at (t.nx i))).sub (cZ (t.at i))=W at*;generalize v.sub (cZ (t.at i))=U at*;generalize W.bL U=C at*;simp[ya,yx,u4,aa];refine e2 j ?_;simp[aa];refine e2 k ?_;simp[aa];refine e2 l ?_;simp[aa];refine e1 e ?_;simp[aa];refine⟨by repeat' first|rfl|apply am,?_⟩;rw[<-hs];refine de.og (by simp) (by simp) (by simp) (by simp) ?_;simp;exact vF f (by simp)
 ·intro L a;refine .inl ⟨by simp,?_⟩;simp[ya,aw.on]
theorem F2(s:List Nat)(hs:jB s)(h:b6 s=0):au prog 280 [.str s] (.int .i64 (fO (bg s))):=by
 have o:=gU h;have d:=l9 s h hs.1;have c:=l8 ⟨bg s,false⟩;have g:=ma 1 (by decide) (by decide);have e:=qB ⟨bg s,false⟩ (.int 1) (o.mono (by decide)) ((show br 1 (NF.int 1).q from⟨by decide,by decide⟩).mono (by decide));have e2:(if(⟨bg s,false⟩:NF).q<0 then(-1:Int)else if(⟨bg s,false⟩:NF).q=0 then 0 else 1)=bX (bg s):=rfl;have e4:dA (⟨bg s,false⟩:NF).q (NF.int 1).q=dA (bg s) 1:=rfl;rw[e2]at c;rw[e4]at e;have f:=fun b=>ji b 3;refine aG nf GF mix (by simp[f280]) ?_;rw[fO];clear e2 e4 o;generalize bX (bg s)=x at*;generalize dA (bg s) 1=y at*;generalize (⟨bg s,false⟩:NF)=v at*
 by_cases a:x<0
 ·simp[f280,aa];refine c1 d ?_;simp[aa];refine Go.ak.e1 c ?_;simp[a,aa];refine Go.ak.e2 (f true) ?_;simp[aY];omega
 ·by_cases b:0<y
  ·simp[f280,aa];refine c1 d ?_;simp[aa];refine Go.ak.e1 c ?_;simp[a,aa];refine Go.ak.e1 g ?_;simp[a,aa];refine Go.ak.e2 e ?_;simp[a,b,aa];refine Go.ak.e2 (f true) ?_;simp[aY];omega
  ·simp[f280,aa];refine c1 d ?_;simp[aa];refine Go.ak.e1 c ?_;simp[a,aa];refine Go.ak.e1 g ?_;simp[a,aa];refine Go.ak.e2 e ?_;simp[a,b,aa];refine Go.ak.e2 (f false) ?_;simp[aY];omega
def qZ(p:dV):Prop:=tv p/\b6 p.a=0/\b6 p.b=0
theorem aup(p o:dV)(r:qZ p)(q:qZ o):au prog 279 [fE p,fE o] (.bool (il o p)):=by
 obtain⟨⟨_,u,v⟩,l,m⟩:=r;obtain⟨⟨_,s,t⟩,j,k⟩:=q;have d:=l9 p.a l u.1;have e:=l9 o.b k t.1;have c:=qB ⟨bg p.a,false⟩ ⟨bg o.b,false⟩ ((gU l).mono (by decide)) ((gU k).mono (by decide));have g:=l9 o.a j s.1;have i:=l9 p.b m v.1;have f:=qB ⟨bg o.a,false⟩ ⟨bg p.b,false⟩ ((gU j).mono (by decide)) ((gU m).mono (by decide));dsimp only at c f;refine aG nf GG mix (by simp[f279]) ?_;rw[il];generalize dA (bg p.a) (bg o.b)=x at*;generalize dA (bg o.a) (bg p.b)=y at*;generalize (⟨bg p.a,false⟩:NF)=v1 at*;generalize (⟨bg p.b,false⟩:NF)=v2 at*;generalize (⟨bg o.a,false⟩:NF)=v3 at*;generalize (⟨bg o.b,false⟩:NF)=v4 at*
 by_cases c1:o.fg=p.fg
 case neg=>
  have n:¬p.fg=o.fg:=fun h=>c1 h.symm;simp[f279,aa,c1,n]
 by_cases c2:x<=0
 ·by_cases c3:y<=0
  ·simp[f279,aa,c1];refine Go.ak.e1 d ?_;simp[aa,c1];refine Go.ak.e1 e ?_;simp[aa,c1];refine Go.ak.e2 c ?_;simp[aa,c1,c2];refine Go.ak.e1 g ?_;simp[aa,c1,c2];refine Go.ak.e1 i ?_;simp[aa,c1,c2];refine Go.ak.e2 f ?_;simp[aa,c1,c2,c3]
  ·simp[f279,aa,c1];refine Go.ak.e1 d ?_;simp[aa,c1];refine Go.ak.e1 e ?_;simp[aa,c1];refine Go.ak.e2 c ?_;simp[aa,c1,c2];refine Go.ak.e1 g ?_;simp[aa,c1,c2];refine Go.ak.e1 i ?_;simp[aa,c1,c2];refine Go.ak.e2 f ?_;simp[aa,c1,c2,c3]
 ·simp[f279,aa,c1];refine Go.ak.e1 d ?_;simp[aa,c1];refine Go.ak.e1 e ?_;simp[aa,c1];refine Go.ak.e2 c ?_;simp[aa,c1,c2]
theorem Tj(p o:dV):cS prog 277 [.box false (.p (fE p))] [.p (fE o),.ptr 0 []] [.box false (.p (fE p))] (.p (.bool (decide (o.name=p.name)))):=by
 refine gM nf GI mix (by simp[f277]) ?_
 by_cases h:o.name=p.name
 ·simp[f277,aa,h];exact de.og (by simp) (by simp) (by simp) (by simp) (by simp)
 ·simp[f277,aa,h];exact de.og (by simp) (by simp) (by simp) (by simp) (by simp)
theorem Tq(p:dV)(l:List dV)(h:l.length<=1000000):
 cS prog 164 [.box false (.p (fE p))] [.p (.seq (l.map fE)),.func 277 [] [.ptr 0 []]] [.box false (.p (fE p))] (.p (.int .i64 (idxFrom (fun o=>decide (o.name=p.name)) l 0))):=by
 refine gM nf EN mix (by simp[f164]) ?_;simp[f164];refine lp (α:=Nat) (fun i=>⟨[(8,.p (.int .i64 i)),(7,.p (.int .i64 l.length)),(1,.func 277 [] [.ptr 0 []]),(0,.p (.seq (l.map fE)))],[.box false (.p (fE p))]⟩) (fun i=>i<=l.length/\idxFrom (fun o=>decide (o.name=p.name)) l 0=idxFrom (fun o=>decide (o.name=p.name)) (l.drop i) i) (fun i=>l.length-i) 0 (by simp) ?_;rintro i ⟨k1,k2⟩;have a:=ct (i:=i) (by omega)
 by_cases hi:i<l.length
 ·rw[a0 hi,idxFrom]at k2;simp[hi];refine cf (Tj p l[i]) [0] ?_
  by_cases hk:l[i].name=p.name
  ·simp[hk]at k2;simp[hk,k2,bm]
  ·simp[hk]at k2;simp[hk,a,bm];exact rd (i+1) ⟨hi,k2⟩
 ·have:i=l.length:=by omega
  subst this;simp[idxFrom]at k2;simp[k2]
theorem Td(p:dV)(l:List dV)(h:l.length<=1000000):
 cS prog 276 [.box false (.p (fE p))] [.p (.seq (l.map fE)),.func 277 [] [.ptr 0 []]] [.box false (.p (fE p))] (.p (.bool (l.any (fun o=>decide (o.name=p.name))))):=by
 refine gM nf B7 mix (by simp[f276]) ?_;simp[f276];refine cf (Tq p l h) [0] ?_;have:=qU (fun o=>decide (o.name=p.name)) l 0;simp[bm,<-this]
theorem Ti(p o:cL):cS prog 282 [.box false (.p (gY p))] [.p (gY o),.ptr 0 []] [.box false (.p (gY p))] (.p (.bool (decide (o.name=p.name)))):=by
 refine gM nf ID mix (by simp[f282]) ?_
 by_cases h:o.name=p.name
 ·simp[f282,aa,h];exact de.og (by simp) (by simp) (by simp) (by simp) (by simp)
 ·simp[f282,aa,h];exact de.og (by simp) (by simp) (by simp) (by simp) (by simp)
theorem SZ(p:cL)(l:List cL)(h:l.length<=1000000):
 cS prog 320 [.box false (.p (gY p))] [.p (.seq (l.map gY)),.func 282 [] [.ptr 0 []]] [.box false (.p (gY p))] (.p (.int .i64 (idxFrom (fun o=>decide (o.name=p.name)) l 0))):=by
 refine gM nf OR mix (by simp[f320]) ?_;simp[f320];refine lp (α:=Nat) (fun i=>⟨[(8,.p (.int .i64 i)),(7,.p (.int .i64 l.length)),(1,.func 282 [] [.ptr 0 []]),(0,.p (.seq (l.map gY)))],[.box false (.p (gY p))]⟩) (fun i=>i<=l.length/\idxFrom (fun o=>decide (o.name=p.name)) l 0=idxFrom (fun o=>decide (o.name=p.name)) (l.drop i) i) (fun i=>l.length-i) 0 (by simp) ?_;rintro i ⟨k1,k2⟩;have a:=ct (i:=i) (by omega)
 by_cases hi:i<l.length
 ·rw[a0 hi,idxFrom]at k2;simp[hi];refine cf (Ti p l[i]) [0] ?_
  by_cases hk:l[i].name=p.name
  ·simp[hk]at k2;simp[hk,k2,bm]
  ·simp[hk]at k2;simp[hk,a,bm];exact rd (i+1) ⟨hi,k2⟩
 ·have:i=l.length:=by omega
  subst this;simp[idxFrom]at k2;simp[k2]
theorem Tc(p:cL)(l:List cL)(h:l.length<=1000000):
 cS prog 281 [.box false (.p (gY p))] [.p (.seq (l.map gY)),.func 282 [] [.ptr 0 []]] [.box false (.p (gY p))] (.p (.bool (l.any (fun o=>decide (o.name=p.name))))):=by
 refine gM nf IE mix (by simp[f281]) ?_;simp[f281];refine cf (SZ p l h) [0] ?_;have:=qU (fun o=>decide (o.name=p.name)) l 0;simp[bm,<-this]
theorem Tf(p:dV)(c:qZ p)(l:List dV)(h:l.length<=1000000)(b:∀o∈l,qZ o):
 au prog 164 [.seq (l.map fE),.func 279 [fE p] []] (.int .i64 (idxFrom (fun o=>il o p) l 0)):=by
 refine aG nf EN mix (by simp[f164]) ?_;simp[f164];refine lp (α:=Nat) (fun i=>⟨[(8,.p (.int .i64 i)),(7,.p (.int .i64 l.length)),(1,.p (.func 279 [fE p] [])),(0,.p (.seq (l.map fE)))],[]⟩) (fun i=>i<=l.length/\idxFrom (fun o=>il o p) l 0=idxFrom (fun o=>il o p) (l.drop i) i) (fun i=>l.length-i) 0 (by simp) ?_;rintro i ⟨k1,k2⟩;have d:=ct (i:=i) (by omega)
 by_cases hi:i<l.length
 ·rw[a0 hi,idxFrom]at k2;have a:=aup p l[i] c (b _ (bo hi));simp[hi];refine c2 a ?_;cases hk:il l[i] p
  ·simp[hk]at k2;simp[d];exact rd (i+1) ⟨hi,k2⟩
  ·simp[hk]at k2;simp[k2]
 ·have:i=l.length:=by omega
  subst this;simp[idxFrom]at k2;simp[k2]
theorem SU(p:dV)(b:qZ p)(l:List dV)(h:l.length<=1000000)(a:∀o∈l,qZ o):
 au prog 276 [.seq (l.map fE),.func 279 [fE p] []] (.bool (l.any (fun o=>il o p))):=by
 refine aG nf B7 mix (by simp[f276]) ?_;simp[f276];refine c2 (Tf p b l h a) ?_;have:=qU (fun o=>il o p) l 0;simp[<-this]
def lH(n:Nat)(c:List dV)(p:dV):Int:=bF [aY (!isName p.name) 8,aY (c.any fun o=>decide (o.name=p.name)) 9,aY (decide (p.fg<0\/(n:Int)<=p.fg)) 10,b6 p.a,b6 p.b]
def Bu(c:List dV)(p:dV):Int:=bF [fO (bg p.a),fO (bg p.b),aY (decide (0<dA (bg p.a) (bg p.b))) 11,aY (c.any fun o=>il o p) 17]
theorem FQ(q:Rat):fO q=0\/fO q=3:=by
 rw[fO];split
 ·exact .inr rfl
 ·exact .inl rfl
theorem Ta(n:Nat)(e:List dV)(p:dV):iW n e p=if lH n e p=0 then Bu e p else lH n e p:=by
 rw[iW,lH,Bu];generalize b6 p.a=ca;generalize b6 p.b=i;have j:=FQ (bg p.a);have h:=FQ (bg p.b);generalize fO (bg p.a)=r at*;generalize fO (bg p.b)=s at*;generalize dA (bg p.a) (bg p.b)=y;generalize (e.any fun o=>il o p)=m;generalize (e.any fun o=>decide (o.name=p.name))=a;have k:max (0:Int) 3=3:=rfl;have l:max (3:Int) 0=3:=rfl;cases q:isName p.name
 ·simp[bF,aY]
 cases a
 case true=>simp[bF,aY]
 by_cases c:p.fg<0\/(n:Int)<=p.fg
 ·simp[bF,aY,c]
 by_cases d:ca=0
 case neg=>simp[bF,aY,c,d]
 by_cases f:i=0
 case neg=>simp[bF,aY,c,d,f]
 rcases j with rfl|rfl
 ·rcases h with rfl|rfl
  ·by_cases g:0<y
   ·simp[bF,aY,c,d,f,g]
   ·cases m<;>simp[bF,aY,c,d,f,g]
  ·simp[bF,aY,c,d,f,k]
 ·rcases h with rfl|rfl
  ·simp[bF,aY,c,d,f,l]
  ·simp[bF,aY,c,d,f]
theorem S1{n:Nat}{bef:List dV}{p:dV}(h:lH n bef p=0):b6 p.a=0/\b6 p.b=0:=by
 rw[lH,pS]at h;exact⟨h _ (by simp),h _ (by simp)⟩
theorem SS(t:aw)(p:dV)(d:List dV)(N:t.cs.length<=1000000)(I:tv p)(m:d.length<=1000000)(H:∀o∈d,qZ o):
 au prog 220 [bR t,fE p,.seq (d.map fE)] (.int .i64 (iW t.cs.length d p)):=by
 obtain⟨E,j,k⟩:=I;have k1:=Td p d m;have k2:=BS p.name E.1;have k3:=ji (!isName p.name) 8;have k4:=ji (d.any fun o=>decide (o.name=p.name)) 9;have k5:=fun b=>ji b 10;have k6:=AH p.a j.1 j.2;have k7:=AH p.b k.1 k.2;have k8:=qW [aY (!isName p.name) 8,aY (d.any fun o=>decide (o.name=p.name)) 9,aY (decide (p.fg<0\/(t.cs.length:Int)<=p.fg)) 10,b6 p.a,b6 p.b] (by simp);have g:=S1 (n:=t.cs.length) (bef:=d) (p:=p);rw[Ta];have s:=fun h:lH t.cs.length d p=0=>SU p ⟨⟨E,j,k⟩,(g h).1,(g h).2⟩ d m H;have u:=fun h:lH t.cs.length d p=0=>F2 p.a j (g h).1;have v:=fun h:lH t.cs.length d p=0=>F2 p.b k (g h).2;have w:=fun h:lH t.cs.length d p=0=>l9 p.a (g h).1 j.1;have x:=fun h:lH t.cs.length d p=0=>l9 p.b (g h).2 k.1;have q:=fun h:lH t.cs.length d p=0=>qB ⟨bg p.a,false⟩ ⟨bg p.b,false⟩ ((gU (g h).1).mono (by decide)) ((gU (g h).2).mono (by decide));dsimp only at q;have D:=ji (decide (0<dA (bg p.a) (bg p.b))) 11;have z:=ji (d.any fun o=>il o p) 17;have i:=qW [fO (bg p.a),fO (bg p.b),aY (decide (0<dA (bg p.a) (bg p.b))) 11,aY (d.any fun o=>il o p) 17] (by simp);have B:lH t.cs.length d p=bF [aY (!isName p.name) 8,aY (d.any fun o=>decide (o.name=p.name)) 9,aY (decide (p.fg<0\/(t.cs.length:Int)<=p.fg)) 10,b6 p.a,b6 p.b]:=rfl;have C:Bu d p=bF [fO (bg p.a),fO (bg p.b),aY (decide (0<dA (bg p.a) (bg p.b))) 11,aY (d.any fun o=>il o p) 17]:=rfl;rw[<-B]at k8;rw[<-C]at i;clear B C g;generalize lH t.cs.length d p=l at*;generalize Bu d p=M at*;generalize b6 p.a=J at*;generalize b6 p.b=K at*;generalize fO (bg p.a)=V at*;generalize fO (bg p.b)=W at*;generalize dA (bg p.a) (bg p.b)=A at*;generalize (d.any fun o=>decide (o.name=p.name))=F at*;generalize (d.any fun o=>il o p)=L at*;generalize isName p.name=G at*;generalize (⟨bg p.a,false⟩:NF)=v1 at*;generalize (⟨bg p.b,false⟩:NF)=v2 at*;refine aG nf HW mix (by simp[f220]) ?_;have r:∀b:Bool,decide (p.fg<0\/(t.cs.length:Int)<=p.fg)=b->au prog 215 [.bool b,.int .i64 10] (.int .i64 (aY b 10))/\au prog 214 [.seq [.int .i64 (aY (!G) 8),.int .i64 (aY F 9),.int .i64 (aY b 10),.int .i64 J,.int .i64 K]] (.int .i64 l):=fun b m=>by
  rw[m]at k8;exact⟨k5 b,by simpa using k8⟩
 simp at i;have y:au prog 215 [.bool (decide (0<A)),.int .i64 11] (.int .i64 (aY (decide (0<A)) 11)):=D;clear k5 k8 D;generalize O:aY (!G) 8=w1 at*;generalize P:aY F 9=S at*;generalize Q:aY (decide (0<A)) 11=T at*;generalize R:aY L 17=U at*;simp[f220,-aW,aa];rw[aW];simp[-aW,aa];rw[aW];simp[-aW,aa];refine cf k1 [1] ?_;simp[-aW,aa,bm,sig]
 by_cases e:p.fg<0
 ·obtain⟨f1,f2⟩:=r true (by simp[e]);rw[aW,aW];simp[-aW,aa];refine Go.ak.e1 k2 ?_;simp[-aW,aa];refine Go.ak.e2 k3 ?_;simp[-aW,aa];refine Go.ak.e2 k4 ?_;simp[-aW,aa,e];refine Go.ak.e2 f1 ?_;simp[-aW,aa,e];refine Go.ak.e1 k6 ?_;simp[-aW,aa,e];refine Go.ak.e1 k7 ?_;simp[-aW,aa,e];refine ep f2 (by simp;first|exact⟨rfl,rfl⟩|rfl) (by simp;first|exact⟨rfl,rfl⟩|rfl) ?_;simp[-aW,aa,e];refine⟨by repeat' first|rfl|apply am,?_⟩
  by_cases c:l=0
  case neg=>simp[c,aa]
  simp[c,aa];refine Go.ak.c2 (s c) ?_;simp[aa];refine Go.ak.e1 (u c) ?_;simp[aa];refine Go.ak.e1 (v c) ?_;simp[aa];refine Go.ak.e1 (w c) ?_;simp[aa];refine Go.ak.e1 (x c) ?_;simp[aa];refine Go.ak.e2 (q c) ?_;simp[aa];refine Go.ak.e2 y ?_;simp[aa];refine Go.ak.e2 z ?_;simp[aa];refine ep i (by simp;first|exact⟨rfl,rfl⟩|rfl) (by simp;first|exact⟨rfl,rfl⟩|rfl) ?_;simp[aa];exact⟨by repeat' first|rfl|apply am,fun h=>(h c).elim⟩
 by_cases f:(t.cs.length:Int)<=p.fg
 ·obtain⟨f1,f2⟩:=r true (by simp[e,f]);rw[aW,aW];simp[-aW,aa];refine Go.ak.e1 k2 ?_;simp[-aW,aa];refine Go.ak.e2 k3 ?_;simp[-aW,aa];refine Go.ak.e2 k4 ?_;simp[-aW,aa,e,f];refine Go.ak.e2 f1 ?_;simp[-aW,aa,e,f];refine Go.ak.e1 k6 ?_;simp[-aW,aa,e,f];refine Go.ak.e1 k7 ?_;simp[-aW,aa,e,f];refine ep f2 (by simp;first|exact⟨rfl,rfl⟩|rfl) (by simp;first|exact⟨rfl,rfl⟩|rfl) ?_;simp[-aW,aa,e,f];refine⟨by repeat' first|rfl|apply am,?_⟩
  by_cases c:l=0
  case neg=>simp[c,aa]
  simp[c,aa];refine Go.ak.c2 (s c) ?_;simp[aa];refine Go.ak.e1 (u c) ?_;simp[aa];refine Go.ak.e1 (v c) ?_;simp[aa];refine Go.ak.e1 (w c) ?_;simp[aa];refine Go.ak.e1 (x c) ?_;simp[aa];refine Go.ak.e2 (q c) ?_;simp[aa];refine Go.ak.e2 y ?_;simp[aa];refine Go.ak.e2 z ?_;simp[aa];refine ep i (by simp;first|exact⟨rfl,rfl⟩|rfl) (by simp;first|exact⟨rfl,rfl⟩|rfl) ?_;simp[aa];exact⟨by repeat' first|rfl|apply am,fun h=>(h c).elim⟩
 ·obtain⟨f1,f2⟩:=r false (by simp[e,f]);rw[aW,aW];simp[-aW,aa];refine Go.ak.e1 k2 ?_;simp[-aW,aa];refine Go.ak.e2 k3 ?_;simp[-aW,aa];refine Go.ak.e2 k4 ?_;simp[-aW,aa,e,f];refine Go.ak.e2 f1 ?_;simp[-aW,aa,e,f];refine Go.ak.e1 k6 ?_;simp[-aW,aa,e,f];refine Go.ak.e1 k7 ?_;simp[-aW,aa,e,f];refine ep f2 (by simp;first|exact⟨rfl,rfl⟩|rfl) (by simp;first|exact⟨rfl,rfl⟩|rfl) ?_;simp[-aW,aa,e,f];refine⟨by repeat' first|rfl|apply am,?_⟩
  by_cases c:l=0
  case neg=>simp[c,aa]
  simp[c,aa];refine Go.ak.c2 (s c) ?_;simp[aa];refine Go.ak.e1 (u c) ?_;simp[aa];refine Go.ak.e1 (v c) ?_;simp[aa];refine Go.ak.e1 (w c) ?_;simp[aa];refine Go.ak.e1 (x c) ?_;simp[aa];refine Go.ak.e2 (q c) ?_;simp[aa];refine Go.ak.e2 y ?_;simp[aa];refine Go.ak.e2 z ?_;simp[aa];refine ep i (by simp;first|exact⟨rfl,rfl⟩|rfl) (by simp;first|exact⟨rfl,rfl⟩|rfl) ?_;simp[aa];exact⟨by repeat' first|rfl|apply am,fun h=>(h c).elim⟩
def jC(a:List cL)(s:cL):Int:=bF [aY (!isName s.name) 8,aY (a.any fun o=>decide (o.name=s.name)) 9,dL s.pt]
theorem S8(t:aw)(b:List cL)(s:cL):jE t b s=if jC b s=0 then aY (decide (t.on (vP s.pt)<0)) 16 else jC b s:=by
 rw[jE,jC];generalize dL s.pt=c;generalize (b.any fun o=>decide (o.name=s.name))=a;cases e:isName s.name
 ·simp[bF,aY]
 cases a
 case true=>simp[bF,aY]
 by_cases d:c=0
 case neg=>simp[bF,aY,d]
 simp[bF,aY,d]
theorem Gg{bef:List cL}{s:cL}(h:jC bef s=0):dL s.pt=0:=by
 rw[jC,pS]at h;exact h _ (by simp)
theorem Te(t:aw)(s:cL)(a:List cL)(l:t.cs.length<=1000000)(m:∀p∈t.cs,dW p)(hs:nT s)(k:a.length<=1000000):
 au prog 222 [bR t,gY s,.seq (a.map gY)] (.int .i64 (jE t a s)):=by
 obtain⟨u,g⟩:=hs;have k1:=Tc s a k;have k2:=BS s.name u.1;have k3:=ji (!isName s.name) 8;have k4:=ji (a.any fun o=>decide (o.name=s.name)) 9;have k6:=yG s.pt g;have k8:=qW [aY (!isName s.name) 8,aY (a.any fun o=>decide (o.name=s.name)) 9,dL s.pt] (by simp);have c:=Gg (bef:=a) (s:=s);rw[S8];have n:=fun h:jC a s=0=>EV s.pt (jw (c h)).1 (jw (c h)).2 g;have f:=fun h:jC a s=0=>Qy t (.from s.pt) l m (Cf ⟨(gU (jw (c h)).1).mono (by decide),(gU (jw (c h)).2).mono (by decide)⟩);have q:=ji (decide (t.on (vP s.pt)<0)) 16;rw[iI]at f;have e:jC a s=bF [aY (!isName s.name) 8,aY (a.any fun o=>decide (o.name=s.name)) 9,dL s.pt]:=rfl;rw[<-e]at k8;clear e c;generalize jC a s=d at*;generalize t.on (vP s.pt)=y at*;generalize dL s.pt=v at*;generalize (a.any fun o=>decide (o.name=s.name))=i at*;generalize isName s.name=j at*;generalize NV.from s.pt=v1 at*;refine aG nf HU mix (by simp[f222]) ?_;have r:au prog 214 [.seq [.int .i64 (aY (!j) 8),.int .i64 (aY i 9),.int .i64 v]] (.int .i64 d):=by simpa using k8
 clear k8;generalize w:aY (!j) 8=w1 at*;generalize x:aY i 9=A at*;generalize z:aY (decide (y<0)) 16=B at*;simp[f222,aa];refine cf k1 [1] ?_;simp[aa,bm,sig];refine Go.ak.e1 k2 ?_;simp[aa];refine Go.ak.e2 k3 ?_;simp[aa];refine Go.ak.e2 k4 ?_;simp[aa];refine Go.ak.e1 k6 ?_;simp[aa];refine ep r (by simp;first|exact⟨rfl,rfl⟩|rfl) (by simp;first|exact⟨rfl,rfl⟩|rfl) ?_;simp[aa];refine⟨by repeat' first|rfl|apply am,?_⟩
 by_cases b:d=0
 case neg=>simp[b,aa]
 simp[b,aa];refine Go.ak.e1 (n b) ?_;simp[aa];refine Go.ak.e2 (f b) ?_;simp[aa];refine Go.ak.e2 q ?_;simp[aa];exact fun h=>(h b).elim
def lQ{α:Type}(b:Nat)(a:List α->α->Int)(l:List α):Int:=if b<l.length then 5 else kO a l
theorem Ah{α:Type}{n:Nat}{f:α->PV}(h:∀a,aa (.p (f a))≠.bad/\bG prog (aa (.p (f a)))=n)(l:List α):fq prog n (l.map (AV.p∘f)):=v7.2 fun v b=>by
 obtain⟨a,_,rfl⟩:=bv.1 b;exact h a
theorem K0(l:List dV):fq prog 4 (l.map (AV.p∘fE)):=Ah (fun r=>⟨by simp[aa],by simp[aa]⟩) l
theorem K1(l:List cL):fq prog 3 (l.map (AV.p∘gY)):=Ah (fun r=>⟨by simp[aa],by simp[aa]⟩) l
theorem Tv(t:aw)(a:Nat)(h:t.cs.length<=1000000)(m:t.bn.length<=1000000)(c:∀p∈t.bn,tv p):
 au prog 219 [.seq (t.bn.map fE),.int .i64 a,.func 220 [bR t] []] (.int .i64 (lQ a (iW t.cs.length) t.bn)):=by
 refine aG nf HX mix (by simp[f219]) ?_;rw[lQ]
 by_cases c1:a<t.bn.length
 ·have cI:(a:Int)<t.bn.length:=by omega
  rw[if_pos c1];simp[f219,cI]
 have d:¬(a:Int)<t.bn.length:=by omega
 rw[if_neg c1];simp[f219,d];refine lp (α:=Nat) (fun i=>⟨[(16,.p (.int .i64 i)),(15,.p (.int .i64 t.bn.length)),(14,.p (.seq (t.bn.map fE))),(0,.p (.seq (t.bn.map fE))),(2,.p (.func 220 [bR t] []))],[]⟩) (fun i=>i<=t.bn.length/\∀j,j<i->gV (iW t.cs.length) t.bn j=0) (fun i=>t.bn.length-i) 0 (by simp) ?_;rintro i ⟨k1,k2⟩
 by_cases hk:i<t.bn.length
 ·have gk:=aw.mg hk;have l:=ct (i:=i) (by omega);have b:=SS t (t.pk i) (t.bn.take i) h (c _ (a4 gk)) (by rw[a7];omega) (fun o k=>by
   obtain⟨j,f,rfl⟩:=b0.1 k;rw[a7]at f;rw[b2];have:=k2 j (by omega);have g:=aw.mg (t:=t) (i:=j) (by omega);rw[gV,g]at this;rw[aw.R8 (by omega)];exact⟨c _ (a4 g),Gb this⟩)
  rw[b4]at b
  by_cases he:iW t.cs.length (t.bn.take i) (t.pk i)=0
  ·rw[he]at b;have:=tG k2 gk he;simp[hk,gk,aa];refine⟨⟨k1,K0 _⟩,?_⟩;refine Go.ak.e3 b ?_;simp[l,aa];exact rd (i+1) ⟨hk,this⟩
  ·have e:=tH k2 gk he;rw[e];simp[hk,gk,aa];refine⟨⟨k1,K0 _⟩,?_⟩;refine Go.ak.e3 b ?_;simp[he,aa]
 ·have:i=t.bn.length:=by omega
  subst this;rw[pC.2 k2];simp
theorem Tu(t:aw)(a:Nat)(e:t.cs.length<=1000000)(f:∀p∈t.cs,dW p)(k:t.an.length<=1000000)(g:∀p∈t.an,nT p):
 au prog 221 [.seq (t.an.map gY),.int .i64 a,.func 222 [bR t] []] (.int .i64 (lQ a (jE t) t.an)):=by
 refine aG nf HV mix (by simp[f221]) ?_;rw[lQ]
 by_cases c1:a<t.an.length
 ·have cI:(a:Int)<t.an.length:=by omega
  rw[if_pos c1];simp[f221,cI]
 have c:¬(a:Int)<t.an.length:=by omega
 rw[if_neg c1];simp[f221,c];refine lp (α:=Nat) (fun i=>⟨[(16,.p (.int .i64 i)),(15,.p (.int .i64 t.an.length)),(14,.p (.seq (t.an.map gY))),(0,.p (.seq (t.an.map gY))),(2,.p (.func 222 [bR t] []))],[]⟩) (fun i=>i<=t.an.length/\∀j,j<i->gV (jE t) t.an j=0) (fun i=>t.an.length-i) 0 (by simp) ?_;rintro i ⟨k1,k2⟩
 by_cases hk:i<t.an.length
 ·have gk:=aw.et hk;have h:=ct (i:=i) (by omega);have b:=Te t (t.sp i) (t.an.take i) e f (g _ (a4 gk)) (by rw[a7];omega);rw[b4]at b
  by_cases he:jE t (t.an.take i) (t.sp i)=0
  ·rw[he]at b;have:=tG k2 gk he;simp[hk,gk,aa];refine⟨⟨k1,K1 _⟩,?_⟩;refine Go.ak.e3 b ?_;simp[h,aa];exact rd (i+1) ⟨hk,this⟩
  ·have d:=tH k2 gk he;rw[d];simp[hk,gk,aa];refine⟨⟨k1,K1 _⟩,?_⟩;refine Go.ak.e3 b ?_;simp[he,aa]
 ·have:i=t.an.length:=by omega
  subst this;rw[pC.2 k2];simp
def nj(t:aw):Int:=bF [aY (decide ((t.cs.length:Int)<3)) 2,aY (decide (12<(t.cs.length:Int))) 5,aY (t.cs.any gl) 3]
def qY(t:aw):Int:=bF [aY (!t.fX) 15,aY (decide (t.ba<1\/1000<t.ba)) 3,lQ 12 (iW t.cs.length) t.bn]
theorem FW{t:aw}(h:nj t=0):3<=t.cs.length/\t.cs.length<=12/\∀p∈t.cs,dW p:=by
 rw[nj,pS]at h;have b:=h (aY (decide ((t.cs.length:Int)<3)) 2) (by simp);have d:=h (aY (decide (12<(t.cs.length:Int))) 5) (by simp);have a:=h (aY (t.cs.any gl) 3) (by simp);refine⟨?_,?_,fun p e=>F7 ?_⟩
 ·by_cases c:(t.cs.length:Int)<3
  ·simp[aY,c]at b
  ·omega
 ·by_cases c:12<(t.cs.length:Int)
  ·simp[aY,c]at d
  ·omega
 ·cases hf:gl p
  ·rfl
  ·have:t.cs.any gl=true:=List.any_eq_true.2 ⟨p,e,hf⟩;rw[this]at a;simp[aY]at a
theorem F4(t:aw):ij t=if nj t=0 then(if qY t=0 then lQ 256 (jE t) t.an else qY t)else nj t:=by
 rw[ij,nj,qY,lQ,lQ]
 by_cases c1:t.cs.length<3
 ·have:(t.cs.length:Int)<3:=by omega
  simp[bF,aY,c1,this]
 have b:¬(t.cs.length:Int)<3:=by omega
 by_cases c2:12<t.cs.length
 ·have:(12:Int)<t.cs.length:=by omega
  simp[bF,aY,c1,c2,b,this]
 have c:¬(12:Int)<t.cs.length:=by omega
 generalize t.cs.any gl=a;cases a
 case true=>simp[bF,aY,c1,c2,b,c]
 cases t.fX
 ·simp[bF,aY,c1,c2,b,c]
 by_cases c3:t.ba<1\/1000<t.ba
 ·simp[bF,aY,c1,c2,b,c,c3]
 by_cases c4:12<t.bn.length
 ·simp[bF,aY,c1,c2,b,c,c3,c4]
 generalize kO (iW t.cs.length) t.bn=e
 by_cases c5:e=0
 ·simp[bF,aY,c1,c2,b,c,c3,c4,c5]
 ·simp[bF,aY,c1,c2,b,c,c3,c4,c5]
theorem SW(t:aw)(w:jr t):au prog 127 [bR t] (.int .i64 (ij t)):=by
 obtain⟨k,A,B,u,v⟩:=w;have k1:=ji (decide ((t.cs.length:Int)<3)) 2;have k2:=ji (decide (12<(t.cs.length:Int))) 5;have k3:=SQ t.cs k;have k4:=ji (t.cs.any gl) 3;have k5:=qW [aY (decide ((t.cs.length:Int)<3)) 2,aY (decide (12<(t.cs.length:Int))) 5,aY (t.cs.any gl) 3] (by simp);have z1:=FW (t:=t);rw[F4];have x:=fun h:nj t=0=>Tw t (z1 h).1 k (z1 h).2.2;have y:=ji (!t.fX) 15;have r:=fun b=>ji b 3;have m:=Tv t 12 k A u;have j:=qW [aY (!t.fX) 15,aY (decide (t.ba<1\/1000<t.ba)) 3,lQ 12 (iW t.cs.length) t.bn] (by simp);have n:=fun h:nj t=0=>Tu t 256 k (z1 h).2.2 B v;have p:nj t=bF [aY (decide ((t.cs.length:Int)<3)) 2,aY (decide (12<(t.cs.length:Int))) 5,aY (t.cs.any gl) 3]:=rfl;have q:qY t=bF [aY (!t.fX) 15,aY (decide (t.ba<1\/1000<t.ba)) 3,lQ 12 (iW t.cs.length) t.bn]:=rfl;rw[<-p]at k5;rw[<-q]at j;clear p q z1;generalize nj t=o at*;generalize qY t=i at*;generalize lQ 12 (iW t.cs.length) t.bn=F at*;generalize lQ 256 (jE t) t.an=M at*;generalize t.cs.any gl=G at*;generalize t.fX=H at*;generalize I:aY (decide ((t.cs.length:Int)<3)) 2=w1 at*;generalize J:aY (decide (12<(t.cs.length:Int))) 5=C at*;generalize K:aY G 3=D at*;generalize L:aY (!H) 15=E at*;have l:∀b:Bool,decide (t.ba<1\/1000<t.ba)=b->au prog 215 [.bool b,.int .i64 3] (.int .i64 (aY b 3))/\au prog 214 [.seq [.int .i64 E,.int .i64 (aY b 3),.int .i64 F]] (.int .i64 i):=fun b s=>by
  rw[s]at j;exact⟨r b,by simpa using j⟩
 have z:au prog 214 [.seq [.int .i64 w1,.int .i64 C,.int .i64 D]] (.int .i64 o):=by simpa using k5
 clear j r k5;refine aG nf IP mix (by simp[f127]) ?_;simp[f127,aa];refine Go.ak.e2 k1 ?_;simp[aa];refine Go.ak.e2 k2 ?_;simp[aa];refine Go.ak.e2 k3 ?_;simp[aa];refine Go.ak.e2 k4 ?_;simp[aa];refine ep z (by simp;first|exact⟨rfl,rfl⟩|rfl) (by simp;first|exact⟨rfl,rfl⟩|rfl) ?_;simp[aa];refine⟨by repeat' first|rfl|apply am,?_⟩
 by_cases a:o=0
 case neg=>simp[a,aa]
 simp[a,aa];refine Go.ak.e1 (x a) ?_;simp[aa];refine Go.ak.e2 y ?_;simp[aa]
 by_cases c:t.ba<1
 ·have d:¬1<=t.ba:=by omega
  obtain⟨f1,f2⟩:=l true (by simp[c]);simp[c,d,aa];refine Go.ak.e2 f1 ?_;simp[c,d,aa];refine Go.ak.e3 m ?_;simp[c,d,aa];refine ep f2 (by simp;first|exact⟨rfl,rfl⟩|rfl) (by simp;first|exact⟨rfl,rfl⟩|rfl) ?_;simp[c,d,aa];refine⟨by repeat' first|rfl|apply am,?_⟩
  by_cases e:i=0
  case neg=>simp[a,e,aa]
  simp[a,e,aa];refine Go.ak.c3 (n a) ?_;simp[a,e,aa]
 have d:1<=t.ba:=by omega
 by_cases f:1000<t.ba
 ·have g:¬t.ba<=1000:=by omega
  obtain⟨f1,f2⟩:=l true (by simp[c,f]);simp[c,d,f,g,aa];refine Go.ak.e2 f1 ?_;simp[c,d,f,g,aa];refine Go.ak.e3 m ?_;simp[c,d,f,g,aa];refine ep f2 (by simp;first|exact⟨rfl,rfl⟩|rfl) (by simp;first|exact⟨rfl,rfl⟩|rfl) ?_;simp[c,d,f,g,aa];refine⟨by repeat' first|rfl|apply am,?_⟩
  by_cases e:i=0
  case neg=>simp[a,e,aa]
  simp[a,e,aa];refine Go.ak.c3 (n a) ?_;simp[a,e,aa]
 ·have g:t.ba<=1000:=by omega
  obtain⟨f1,f2⟩:=l false (by simp[c,f]);simp[c,d,f,g,aa];refine Go.ak.e2 f1 ?_;simp[c,d,f,g,aa];refine Go.ak.e3 m ?_;simp[c,d,f,g,aa];refine ep f2 (by simp;first|exact⟨rfl,rfl⟩|rfl) (by simp;first|exact⟨rfl,rfl⟩|rfl) ?_;simp[c,d,f,g,aa];refine⟨by repeat' first|rfl|apply am,?_⟩
  by_cases e:i=0
  case neg=>simp[a,e,aa]
  simp[a,e,aa];refine Go.ak.c3 (n a) ?_;simp[a,e,aa]
noncomputable def xS(i:Nat)(a w:NV):PV:=.st 168 [.int .i64 i,cO a,cO w]
@[simp] theorem aPj(i:Nat)(a w:NV):aI (xS i a w)=.agg 168:=rfl
@[simp] theorem aNK(i:Nat)(a w:NV):bW (xS i a w)=[.int .i64 i,cO a,cO w]:=rfl
@[simp] theorem aMY:prog.cellsOf 168=17:=by kernel_rfl
def aw.cB(t:aw)(i:Nat):NV:=(cZ (t.at (t.nx i))).sub (cZ (t.at i))
theorem aw.BT(t:aw)(i:Nat):(t.cB i).q=t.gF i:=by rw[aw.cB,NV.fu];rfl
theorem Gf(p:dZ)(h:dW p):au prog 166 [cE p] (cO (cZ p)):=by
 simp only[dW]at h;have a:=ma p.x (by omega) (by omega);have b:=ma p.y (by omega) (by omega);refine aG nf Qb mix (by simp[f166]) ?_;rw[cZ,oR];simp[f166,aa];refine e1 a ?_;simp[aa];refine e1 b ?_;simp[aa]
theorem Z9(t:aw):au prog 170 [bR t] (.func 261 [] [.cm (bR t)]):=by
 refine aG nf P9 mix (by simp[f170]) ?_;simp[f170];show gH [.box false (.p (bR t))] 7 (.p (bR t)) (bR t);rw[yz];exact Wk.refl _
noncomputable def qV(t:aw)(i:Nat):List PV:=[xS i (cZ (t.at i)) (t.cB i)]
def gT(t:aw)(i:Nat):aj:=[.box false (.p (cE (t.at i))),.box false (.p (cE (t.at (t.nx i))))]
theorem BP{t:aw}{i:Nat}(h:i<t.cs.length):((a8 t.cs.length).map (qV t))[i]?=some (qV t i):=by
 rw[b3,b1 h];rfl
theorem aK2(t:aw)(H:t.cs.length<=1000000)(d:∀p∈t.cs,dW p):GN prog 261 [] [.cm (bR t)] ((a8 t.cs.length).map (qV t)) (gT t):=by
 intro b k f G H' hk a D h;rw[bb,bi]at hk h;refine gM nf F8 mix (by simp[f261]) ?_;simp[f261,aa];refine lp (α:=Nat) (fun i=>⟨[(9,.p (.int .i64 i)),(8,.p (.int .i64 t.cs.length)),(7,.p (.seq (t.cs.map cE))),(1,.p (.cm (bR t))),(0,.map b)],f i⟩) (fun i=>i<=k) (fun i=>k-i) 0 (by simp) ?_ (hr:=by simp;exact(a 0 (by omega)).2) (hr2:=(a 0 (by omega)).1);rintro i A
 by_cases hi:i<t.cs.length
 ·have o:=ct (i:=i) (by omega);have j:=t.kl (by omega) i;have x:=aw.get hi;have z:=aw.get j;have e1:((i:Int)+1).tmod (t.cs.length:Int)=((t.nx i:Nat):Int):=by
   rw[aw.nx,aT,ay (by omega)];rfl
  have C:¬t.cs.length=0:=by omega
  have B:¬t.cs=[]:=by intro e;rw[e]at hi;simp at hi
  have E:=jj (aw.fj d hi);have F:=jj (aw.fj d j);have l:=Gf (t.at i) (aw.fj d hi);have r:=Gf (t.at (t.nx i)) (aw.fj d j);have m:=EL (cZ (t.at (t.nx i))) (cZ (t.at i)) (F.mono (by decide)) (E.mono (by decide));have s:(cZ (t.at (t.nx i))).sub (cZ (t.at i))=t.cB i:=rfl;rw[s]at m;simp[hi,o,e1,C,B,x,z,aa];refine⟨by repeat' first|rfl|apply am,?_⟩;refine Go.ak.e1 l ?_;simp[aa];refine Go.ak.e1 r ?_;simp[aa];refine Go.ak.e1 l ?_;simp[aa];refine Go.ak.e2 m ?_;simp[aa];have n:dK (f i++gT t i) (f i++gT t i):=dK.app (a i A).1 (by simp[gT])
  by_cases c:i<k
  ·obtain⟨g1,g2,g3,g4,g5⟩:=D i _ c (BP hi);refine yk g1 rfl g2 n g3 (by rfl) (by rfl) fun u g=>?_;simp[g,o];exact rd (i+1) c (hn:=g4) (hh:=g5) (hr:=by simp;exact(a (i+1) c).2) (hr2:=(a (i+1) c).1)
  ·have:i=k:=by omega
   subst this;rcases h with⟨e1,_⟩|⟨y,q,e1,e2,e3,e4,e5,v,w⟩
   ·omega
   ·rw[BP hi]at e1;injection e1 with e1
    subst e1;refine yk e2 rfl e3 n e4 (by rfl) (by rfl) fun u g=>?_;simp[g];exact .inr (de.og e5 trivial v trivial w)
 ·have:i=t.cs.length:=by omega
  subst this;rcases h with⟨e1,e2⟩|⟨y,q,e1,e2⟩
  ·have:t.cs.length=k:=by omega
   subst this;simp[e2]
  ·rw[bw (by simp;omega)]at e1;cases e1
theorem SX{t:aw}{v:NV}{i:Nat}(c:∀p∈t.cs,dW p)(e:bt 3000 v.q)(hi:i<t.cs.length):
 au prog 122 [cO v,cO (cZ (t.at i))] (cO (v.sub (cZ (t.at i))))/\au prog 173 [cO (t.cB i),cO (v.sub (cZ (t.at i)))] (eF ((t.cB i).bL (v.sub (cZ (t.at i)))))/\
 au prog 194 [eF ((t.cB i).bL (v.sub (cZ (t.at i))))] (.int .i64 (t.side i v.q)):=by
 have a:=jj (aw.fj c hi);have f:=jj (aw.fj c (t.kl (by omega) i));have q1:bt 29 (t.cB i).q:=by rw[aw.cB,NV.fu];exact iH f a
 have g:bt 3015 (v.sub (cZ (t.at i))).q:=by rw[NV.fu];exact iH e a
 refine⟨EL v (cZ (t.at i)) (e.mono (by decide)) (a.mono (by decide)),BO (t.cB i) (v.sub (cZ (t.at i))) (q1.mono (by decide)) (g.mono (by decide)),?_⟩;have b:=l8 ((t.cB i).bL (v.sub (cZ (t.at i))));have d:bX ((t.cB i).bL (v.sub (cZ (t.at i)))).q=t.side i v.q:=by rw[NV.nr,NV.fu,aw.BT];rfl
 rw[bX]at d;rw[d]at b;exact b
def NS.add(s t:NS):NS:=⟨s.a.add t.a,s.b.add t.b,s.d⟩
def NS.neg(s:NS):NS:=⟨s.a.neg,s.b.neg,s.d⟩
def NS.times(s:NS)(k:NF):NS:=⟨s.a.mul k,s.b.mul k,s.d⟩
def NB.bL(n:NB)(e:NV):NS:=⟨e.bL n.a,e.bL n.b,n.d⟩
theorem IZ(s t:NS)(hs:fN 8000 s)(c:fN 8000 t):au prog 178 [fD s,fD t] (fD (s.add t)):=by
 have d:=mR s.a t.a (hs.1.mono (by decide)) (c.1.mono (by decide));have e:=mR s.b t.b (hs.2.1.mono (by decide)) (c.2.1.mono (by decide));refine aG nf G5 mix (by simp[f178]) ?_;rw[NS.add,pc];simp[f178,aa];refine e2 d ?_;simp[aa];refine e2 e ?_;simp[aa]
theorem GX(s:NS)(hs:fN 8000 s):au prog 172 [fD s] (fD s.neg):=by
 have c:=sZ s.a (hs.1.mono (by decide));have d:=sZ s.b (hs.2.1.mono (by decide));refine aG nf P7 mix (by simp[f172]) ?_;rw[NS.neg,pc];simp[f172,aa];refine e1 c ?_;simp[aa];refine e1 d ?_;simp[aa]
theorem Ge(s:NS)(k:NF)(hs:fN 8000 s)(hk:br 8000 k.q):au prog 180 [fD s,eF k] (fD (s.times k)):=by
 have c:=ft s.a k (hs.1.mono (by decide)) (hk.mono (by decide));have d:=ft s.b k (hs.2.1.mono (by decide)) (hk.mono (by decide));refine aG nf G3 mix (by simp[f180]) ?_;rw[NS.times,pc];simp[f180,aa];refine e2 c ?_;simp[aa];refine e2 d ?_;simp[aa]
theorem To(n:NB)(e:NV)(d:okB 8000 n)(c:bt 8000 e.q):au prog 171 [qI n,cO e] (fD (n.bL e)):=by
 have f:=BO e n.a (c.mono (by decide)) (d.1.mono (by decide));have g:=BO e n.b (c.mono (by decide)) (d.2.1.mono (by decide));refine aG nf P8 mix (by simp[f171]) ?_;rw[NB.bL,pc];simp[f171,aa];refine e2 f ?_;simp[aa];refine e2 g ?_;simp[aa]
theorem S6(v:NV):au prog 129 [cO v] (qI ⟨v,⟨.int 0,.int 0⟩,.int 0⟩):=by
 have a:=ma 0 (by decide) (by decide);have b:=ma 0 (by decide) (by decide);have c:=ma 0 (by decide) (by decide);refine aG nf IM mix (by simp[f129]) ?_;rw[xM,oR (.int 0) (.int 0)];simp[f129,aa];refine e1 a ?_;simp[aa];refine e1 b ?_;simp[aa];refine e1 c ?_;simp[aa]
def NS.plain(a d:NF):NS:=⟨a,.int 0,d⟩
def NS.norm(s:NS):NF:=(s.a.mul s.a).sub ((s.b.mul s.b).mul s.d)
open Classical in
noncomputable def NS.under(s:NS)(k:NF):NS:=if s.norm.q=0 then .plain (k.div (s.a.add s.a)) s.d else⟨(k.mul s.a).div s.norm,(k.mul s.b).neg.div s.norm,s.d⟩
theorem Ho(a d:NF):au prog 179 [eF a,eF d] (fD (.plain a d)):=by
 have b:=ma 0 (by decide) (by decide);refine aG nf G4 mix (by simp[f179]) ?_;rw[NS.plain,pc];simp[f179,aa];refine e1 b ?_;simp[aa]
theorem aLC{x:NF}(h:x.q≠0):(x.add x).q≠0:=by
 show x.q+x.q≠0;intro e;apply h
 grind
theorem awy(s:NS)(k:NF)(hs:fN 3000 s)(hk:br 3000 k.q)(f:s.norm.q=0->s.a.q≠0):au prog 223 [fD s,eF k] (fD (s.under k)):=by
 have k1:=ft s.a s.a (hs.1.mono (by decide)) (hs.1.mono (by decide));have k2:=ft s.b s.b (hs.2.1.mono (by decide)) (hs.2.1.mono (by decide));have k3:=ft (s.b.mul s.b) s.d ((eZ hs.2.1 hs.2.1).mono (by decide)) (hs.2.2.mono (by decide));have k4:=mP (s.a.mul s.a) ((s.b.mul s.b).mul s.d) ((eZ hs.1 hs.1).mono (by decide)) ((eZ (eZ hs.2.1 hs.2.1) hs.2.2).mono (by decide));have k5:=l8 s.norm;have k6:=mR s.a s.a (hs.1.mono (by decide)) (hs.1.mono (by decide));have k7:=fun h:s.norm.q=0=>xN k (s.a.add s.a) (hk.mono (by decide)) ((q7 hs.1 hs.1).mono (by decide)) (aLC (f h));have k8:=Ho (k.div (s.a.add s.a)) s.d;have j:=ft k s.a (hk.mono (by decide)) (hs.1.mono (by decide));have g:=fun h:¬s.norm.q=0=>xN (k.mul s.a) s.norm ((eZ hk hs.1).mono (by decide)) ((show br 15001 s.norm.q from(BR (eZ hs.1 hs.1) (eZ (eZ hs.2.1 hs.2.1) hs.2.2))).mono (by decide)) h;have m:=ft k s.b (hk.mono (by decide)) (hs.2.1.mono (by decide));have o:=sZ (k.mul s.b) ((eZ hk hs.2.1).mono (by decide));have i:=fun h:¬s.norm.q=0=>xN ((k.mul s.b).neg) s.norm ((yw (eZ hk hs.2.1)).mono (by decide)) ((show br 15001 s.norm.q from(BR (eZ hs.1 hs.1) (eZ (eZ hs.2.1 hs.2.1) hs.2.2))).mono (by decide)) h;rw[show(s.a.mul s.a).sub ((s.b.mul s.b).mul s.d)=s.norm from rfl]at k4;refine aG nf HT mix (by simp[f223]) ?_;rw[NS.under]
 by_cases c:s.norm.q=0
 ·have e:(if s.norm.q<0 then(-1:Int)else if s.norm.q=0 then 0 else 1)=0:=by rw[c];rfl
  rw[e]at k5;have t:=k7 c;rw[if_pos c];clear k7 g i f c e;generalize k.div (s.a.add s.a)=r at*;generalize s.a.add s.a=u at*;generalize s.norm=n at*;simp[f223,aa];refine e2 k1 ?_;simp[aa];refine e2 k2 ?_;simp[aa];refine e2 k3 ?_;simp[aa];refine e2 k4 ?_;simp[aa];refine⟨by repeat' first|rfl|apply am,?_⟩;refine c1 k5 ?_;simp[aa];refine e2 k6 ?_;simp[aa];refine e2 t ?_;simp[aa];refine e2 k8 ?_;simp[aa]
 ·have e:¬(if s.norm.q<0 then(-1:Int)else if s.norm.q=0 then 0 else 1)=0:=by
   split<;>decide
  have l:=g c;have p:=i c;rw[if_neg c,pc];clear k7 g i f;generalize (if s.norm.q<0 then(-1:Int)else if s.norm.q=0 then 0 else 1)=w at*;clear c;generalize (k.mul s.a).div s.norm=v at*;generalize (k.mul s.b).neg.div s.norm=u at*;generalize s.norm=n at*;simp[f223,aa];refine e2 k1 ?_;simp[aa];refine e2 k2 ?_;simp[aa];refine e2 k3 ?_;simp[aa];refine e2 k4 ?_;simp[aa];refine⟨by repeat' first|rfl|apply am,?_⟩;refine c1 k5 ?_;simp[e,aa];refine e2 j ?_;simp[aa];refine e2 l ?_;simp[aa];refine e2 m ?_;simp[aa];refine e1 o ?_;simp[aa];refine e2 p ?_;simp[aa]
structure XD where
 i:Nat
 a:NV
 w:NV
 g:NF
 s:NS
noncomputable def jf(x:XD):PV:=.st 170 [xS x.i x.a x.w,eF x.g,fD x.s]
@[simp] theorem aPl(x:XD):aI (jf x)=.agg 170:=rfl
@[simp] theorem aNM(x:XD):bW (jf x)=[xS x.i x.a x.w,eF x.g,fD x.s]:=rfl
@[simp] theorem aMZ:prog.cellsOf 170=33:=by kernel_rfl
def pq(x:XD):Prop:=x.i<=1000000/\br 1900 x.g.q/\fN 1900 x.s
def uY(x y:XD):Int:=if gv ((y.s.times x.g).add ((x.s.times y.g).neg)).q=0 then(x.i:Int)-y.i else gv ((y.s.times x.g).add ((x.s.times y.g).neg)).q
theorem vD{a b:Nat}{s:NS}{k:NF}(hs:fN a s)(hk:br b k.q):fN (a+b) (s.times k):=⟨eZ hs.1 hk,eZ hs.2.1 hk,hs.2.2.mono (by omega)⟩
theorem F6{a:Nat}{s:NS}(hs:fN a s):fN a s.neg:=⟨yw hs.1,yw hs.2.1,hs.2.2⟩
theorem aJ2{a b:Nat}{s t:NS}(hs:fN a s)(c:fN b t):fN (a+b+1) (s.add t):=⟨q7 hs.1 c.1,q7 hs.2.1 c.2.1,hs.2.2.mono (by omega)⟩
theorem fN.mono{k l:Nat}{s:NS}(h:fN k s)(a:k<=l):fN l s:=⟨h.1.mono a,h.2.1.mono a,h.2.2.mono a⟩
theorem S5(x y:XD)(hx:pq x)(d:pq y):au prog 175 [jf x,jf y] (.int .i64 (uY x y)):=by
 obtain⟨e,b,a⟩:=hx;obtain⟨y1,y2,y3⟩:=d;have k1:=Ge y.s x.g (y3.mono (by decide)) (b.mono (by decide));have k2:=Ge x.s y.g (a.mono (by decide)) (y2.mono (by decide));have k3:=GX (x.s.times y.g) ((vD a y2).mono (by decide));have k4:=IZ (y.s.times x.g) (x.s.times y.g).neg ((vD y3 b).mono (by decide)) ((F6 (vD a y2)).mono (by decide));have k5:=yy ((y.s.times x.g).add (x.s.times y.g).neg) ((aJ2 (vD y3 b) (F6 (vD a y2))).mono (by decide));have w1:ax.wrap ((x.i:Int)-y.i)=(x.i:Int)-y.i:=aO _ (by omega) (by omega);refine aG nf G7 mix (by simp[f175]) ?_;rw[uY];generalize gv ((y.s.times x.g).add (x.s.times y.g).neg).q=r at*;generalize (y.s.times x.g).add (x.s.times y.g).neg=v1 at*;generalize (x.s.times y.g).neg=v2 at*;generalize x.s.times y.g=v3 at*;generalize y.s.times x.g=v4 at*
 by_cases c:r=0
 ·simp[f175,aa];refine e2 k1 ?_;simp[aa];refine e2 k2 ?_;simp[aa];refine e1 k3 ?_;simp[aa];refine e2 k4 ?_;simp[aa];refine e1 k5 ?_;simp[aa,c,w1]
 ·simp[f175,aa];refine e2 k1 ?_;simp[aa];refine e2 k2 ?_;simp[aa];refine e1 k3 ?_;simp[aa];refine e2 k4 ?_;simp[aa];refine e1 k5 ?_;simp[aa,c]
theorem aw0(x:XD)(hx:pq x)(b:x.s.norm.q=0->x.s.a.q≠0):au prog 130 [jf x] (fD (x.s.under x.g)):=by
 obtain⟨e,c,d⟩:=hx;have k1:=awy x.s x.g (d.mono (by decide)) (c.mono (by decide)) b;refine aG nf IL mix (by simp[f130]) ?_;generalize x.s.under x.g=r at*;simp[f130,aa];refine c2 k1 ?_;simp[aa]
def xY(m x:XD):XD:=if uY x m<0 then x else m
def lF(m:XD)(l:List XD):XD:=l.foldl xY m
theorem F1(m:XD):lF m []=m:=List.foldl_nil
theorem Tb(m x:XD)(r:List XD):lF m (x::r)=lF (xY m x) r:=List.foldl_cons ..
def zF:PV:=.st 126 [.st 124 [.int .i64 0,.aH],.st 124 [.int .i64 0,.aH]]
def zV:PV:=.st 130 [zF,zF]
def yh:PV:=.st 170 [.st 168 [.int .i64 0,zV,zV],zF,.st 136 [zF,zF,zF]]
@[simp] theorem aQ4:b9 prog 171=some yh:=by kernel_rfl
@[simp] theorem aPR:aI yh=.agg 170:=rfl
theorem Ty(a:XD)(l:List XD)(g:l.length<=1000000)(d:pq a)(hx:∀x∈l,pq x):
 au prog 174 [.seq ((a::l).map jf),.func 175 [] []] (jf (lF a l)):=by
 refine aG nf P5 mix (by simp[f174]) ?_;have e:¬((l.length:Int)+1<1):=by omega
 simp[f174,e];refine lp (α:=Nat×XD) (fun(i,m)=>⟨[(6,.p (.int .i64 ((i+1:Nat):Int))),(5,.ptr 1 []),(4,.ptr 0 []),(0,.p (.seq (jf a::l.map jf))),(1,.p (.func 175 [] []))],[.box false (.p yh),.box false (.p (jf m))]⟩) (fun(i,m)=>i<=l.length/\pq m/\lF m (l.drop i)=lF a l) (fun(i,_)=>l.length-i) (0,a) (by simp;exact d) ?_ (he:=by simp);rintro⟨i,m⟩ ⟨g1,g2,g3⟩;dsimp only at g1 g2 g3⊢
 by_cases hi:i<l.length
 ·have b:ax.wrap ((i:Int)+1+1)=(i:Int)+1+1:=aO _ (by omega) (by omega);have f:=S5 l[i] m (hx _ (bo hi)) g2;rw[a0 hi,Tb]at g3;simp[hi];refine⟨by omega,?_⟩;refine e2 f ?_;rw[xY]at g3
  by_cases c:uY l[i] m<0
  ·rw[if_pos c]at g3;simp[c,hi,b];exact⟨by omega,rd (i+1,l[i]) ⟨hi,hx _ (bo hi),g3⟩⟩
  ·rw[if_neg c]at g3;simp[c,b];exact rd (i+1,m) ⟨hi,g2,g3⟩
 ·have:i=l.length:=by omega
  subst this;rw[List.drop_length,F1]at g3;subst g3;simp
@[simp] theorem aOa:bW yh=[.st 168 [.int .i64 0,zV,zV],zF,.st 136 [zF,zF,zF]]:=rfl
def aw.dU(t:aw)(p:NV)(n:NB)(i:Nat):XD:=⟨i,cZ (t.at i),t.cB i,(t.cB i).bL (p.sub (cZ (t.at i))),(n.bL (t.cB i)).neg⟩
def aw.pos(t:aw)(n:NB)(i:Nat):Bool:=decide (0<gv ((n.bL (t.cB i)).neg).q)
def aw.ib(t:aw)(p:NV)(n:NB)(m:Nat):List XD:=((a8 m).filter (t.pos n)).map (t.dU p n)
theorem aw.Gd(t:aw)(p:NV)(n:NB)(m:Nat):t.ib p n (m+1)=if t.pos n m=true then t.ib p n m++[t.dU p n m]else t.ib p n m:=by
 rw[aw.ib,List.range_succ,List.filter_append,List.map_append]
 by_cases h:t.pos n m=true
 ·rw[if_pos h,List.filter_cons_of_pos h];rfl
 ·rw[if_neg h,List.filter_cons_of_neg h,List.filter_nil,a9,List.append_nil];rfl
theorem aw.GM(t:aw)(p:NV)(n:NB)(m:Nat):(t.ib p n m).length<=m:=by
 rw[aw.ib,bb];have:=List.length_filter_le (t.pos n) (a8 m)
 rwa [bi]at this
theorem BQ{t:aw}{p:NV}{n:NB}{i:Nat}(k:t.cs.length<=1000000)(e:∀c∈t.cs,dW c)(g:bt 800 p.q)(d:okB 900 n)(hi:i<t.cs.length):pq (t.dU p n i):=by
 have f:=jj (aw.fj e hi);have h:=jj (aw.fj e (t.kl (by omega) i));have q1:bt 29 (t.cB i).q:=by rw[aw.cB,NV.fu];exact iH h f
 have j:bt 815 (p.sub (cZ (t.at i))).q:=by rw[NV.fu];exact iH g f
 refine⟨?_,?_,qp ?_,qp ?_,d.2.2.mono (by decide)⟩
 ·show i<=1000000;omega
 ·show br 1900 ((t.cB i).bL (p.sub (cZ (t.at i)))).q;rw[NV.nr];exact(pB q1 j).mono (by decide)
 ·show br 1900 ((t.cB i).bL n.a).q;rw[NV.nr];exact(pB q1 d.1).mono (by decide)
 ·show br 1900 ((t.cB i).bL n.b).q;rw[NV.nr];exact(pB q1 d.2.1).mono (by decide)
noncomputable def gq(t:aw)(p:NV)(n:NB)(s:AV)(L:ek):aj:=[.box false (.p (bR t)),.box false (.p (cO p)),.box false (.p (qI n)),.box false (.p yh),.box false s,.loop L]
noncomputable def iJ(t:aw)(p:NV)(n:NB)(L:ek):List XD->aj
 |[]=>gq t p n (.p .aH) L
 |x::r=>gq t p n (.sl 11 r.length 33 0 (r.length+1)) L++[.hole,.hole,.hole,.hole,.hole,.arr .grow r.length 33 ((x::r).map fun x=>.p (jf x))]
noncomputable def QQ(t:aw)(p:NV)(n:NB)(L:ek)(i:Nat):aj:=
 if t.pos n i=true then
  match t.ib p n i with
  |[]=>gq t p n (.sl 11 0 33 0 1) L++gT t i++[.hole,.hole,.hole,.arr .grow 0 33 [.p (jf (t.dU p n i))]]
  |x::r=>gq t p n (.sl 11 (r.length+1) 33 0 (r.length+2)) L++[.hole,.hole,.hole,.hole,.hole,.arr .grow (r.length+1) 33 ((x::r++[t.dU p n i]).map fun x=>.p (jf x))]++gT t i
 else iJ t p n L (t.ib p n i)++gT t i
theorem abw(t:aw)(p:NV)(n:NB)(v:t.cs.length<=1000000)(d:∀c∈t.cs,dW c)(z:bt 800 p.q)(e:okB 900 n)(s:XD)(l:List XD)(y:t.ib p n t.cs.length=s::l):au prog 87 [bR t,cO p,qI n] (jf (lF s l)):=by
 refine aG nf Rz mix (by simp[f87]) ?_;simp[f87,aa];refine c1 (Z9 t) ?_;simp;refine rfd (aK2 t v d) rfl (by simp) (fun L i=>iJ t p n L (t.ib p n i)) (fun L i=>QQ t p n L i) t.cs.length (by simp) (fun L=>rfl) ?_ ?_ ?_
 ·intro L a i hi;generalize t.ib p n i=A;cases A with
  |nil=>
   refine⟨rfl,by simp[iJ,gq],fun _ hx=>?_⟩;simp[iJ,gq]at hx⊢;exact hx
  |cons x r=>
   refine⟨rfl,by simp[iJ,gq],fun _ hx=>?_⟩;simp[iJ,gq]at hx⊢;exact hx
 ·intro L a i x hi hx;rw[BP (by omega)]at hx;injection hx with hx
  subst hx;have D:=BQ v d z e hi;obtain⟨C,a2,a3⟩:=SX d (z.mono (by decide)) hi;have hs:=aw.Gd t p n i;have w:=aw.GM t p n i;have H:=jj (aw.fj d hi);have I:=jj (aw.fj d (t.kl (by omega) i));have q1:bt 29 (t.cB i).q:=by rw[aw.cB,NV.fu];exact iH I H
  have J:fN 1900 (n.bL (t.cB i)).neg:=D.2.2;have K:fN 1900 (n.bL (t.cB i)):=⟨by rw[NB.bL,NV.nr];exact(pB q1 e.1).mono (by decide),by rw[NB.bL,NV.nr];exact(pB q1 e.2.1).mono (by decide),e.2.2.mono (by decide)⟩
  have k:=To n (t.cB i) (e.mono (by decide)) (q1.mono (by decide));have m:=GX (n.bL (t.cB i)) (K.mono (by decide));have o:=yy (n.bL (t.cB i)).neg (J.mono (by decide));have F:t.pos n i=decide (0<gv ((n.bL (t.cB i)).neg).q):=rfl;have M:t.dU p n i=⟨i,cZ (t.at i),t.cB i,(t.cB i).bL (p.sub (cZ (t.at i))),(n.bL (t.cB i)).neg⟩:=rfl;rw[QQ];have f:=congrArg ek.env a;dsimp only at f;clear D J K q1 H I a3;generalize t.ib p n (i+1)=B at*;generalize t.ib p n i=A at*
  by_cases b:t.pos n i=true
  case neg=>
   rw[if_neg b]at hs⊢;subst hs;have g:¬0<gv ((n.bL (t.cB i)).neg).q:=by rw[F]at b;simpa using b
   have G:gv ((n.bL (t.cB i)).neg).q<=0:=by omega
   generalize gv ((n.bL (t.cB i)).neg).q=N at*;generalize (n.bL (t.cB i)).neg=v2 at*;generalize n.bL (t.cB i)=v1 at*;refine⟨?_,by simp,fun j _ h=>h,by cases B<;>rfl,?_⟩
   ·cases B with
    |nil=>
     refine tF nf mix a rfl rfl (by kernel_rfl) ?_;clear a;simp[iJ,gq,qV,gT,aa];refine c2 k ?_;simp[aa];refine c1 m ?_;simp[aa];refine c1 o ?_;simp[aa,g,G];refine de.og (by simp) (by simp) (by simp) (by simp) ?_;simp;exact vF f (by simp)
    |cons x r=>
     refine tF nf mix a rfl rfl (by kernel_rfl) ?_;clear a;simp[iJ,gq,qV,gT,aa];refine c2 k ?_;simp[aa];refine c1 m ?_;simp[aa];refine c1 o ?_;simp[aa,g,G];refine de.og (by simp) (by simp) (by simp) (by simp) ?_;simp;exact vF f (by simp)
   ·cases B with
    |nil=>simp[iJ,gq,gT]
    |cons x r=>simp[iJ,gq,gT]
  rw[if_pos b]at hs⊢;have g:0<gv ((n.bL (t.cB i)).neg).q:=by rw[F]at b;simpa using b
  rw[b,M]at*;generalize gv ((n.bL (t.cB i)).neg).q=N at*;generalize (n.bL (t.cB i)).neg=v2 at*;generalize n.bL (t.cB i)=v1 at*;generalize (t.cB i).bL (p.sub (cZ (t.at i)))=v3 at*;generalize p.sub (cZ (t.at i))=v4 at*;cases A with
  |nil=>
   rw[List.nil_append]at hs;subst hs;refine⟨?_,by simp[iJ,gq,gT],fun j u h=>?_,rfl,?_⟩
   ·refine tF nf mix a rfl rfl (by kernel_rfl) ?_;clear a;simp[iJ,gq,qV,gT,aa];refine c2 k ?_;simp[aa];refine c1 m ?_;simp[aa];refine c1 o ?_;simp[aa,g];refine Go.ak.e2 C ?_;simp[aa];refine Go.ak.e2 a2 ?_;simp[aa];refine⟨by decide,⟨by repeat' first|rfl|apply am,by repeat' first|rfl|apply am⟩,?_⟩;refine de.og (by simp) (by simp) (by simp[jf]) (by simp) ?_;simp;exact vF f (by simp)
   ·rcases j with _|_|_|_|_|_|_|_|j
    all_goals first|(simp[gq,gT]at h;done)|(simp[iJ,gq,gT]at u;omega)
   ·simp[iJ,gq,gT]
  |cons x r=>
   have O:r.length+2<=c8:=by
    have:i<=1000000:=by omega
    rw[bl]at w;simp only[c8];omega
   rw[List.cons_append]at hs;subst hs;refine⟨?_,by simp[iJ,gq,gT],fun j u h=>?_,by simp[iJ,gq],?_⟩
   ·refine tF nf mix a rfl rfl (by kernel_rfl) ?_;clear a;simp[iJ,gq,qV,gT,aa];refine c2 k ?_;simp[aa];refine c1 m ?_;simp[aa];refine c1 o ?_;simp[aa,g];refine Go.ak.e2 C ?_;simp[aa];refine Go.ak.e2 a2 ?_;simp[aa];refine⟨by omega,⟨by repeat' first|rfl|apply am,by repeat' first|rfl|apply am⟩,?_⟩;refine de.og (by simp[jf]) (by simp) (by simp[jf]) (by simp) ?_;simp;exact vF f (by simp)
   ·rcases j with _|_|_|_|_|_|_|_|_|_|_|_|_|_|j
    all_goals first|(simp[gq,gT]at h;done)|(simp[iJ,gq,gT];done)|(simp[iJ,gq,gT]at u;omega)
   ·simp[iJ,gq,gT]
 ·intro L a;refine .inl ⟨by simp,?_⟩;rw[y];simp[iJ,gq];have E:∀x∈s::l,pq x:=fun x hx=>by
   rw[<-y,aw.ib]at hx;obtain⟨i,hi,rfl⟩:=bv.1 hx;exact BQ v d z e (List.mem_range.1 (List.mem_filter.1 hi).1)
  have w:=aw.GM t p n t.cs.length;rw[y,bl]at w;refine cp (Ty s l (by omega) (E _ bf) (fun x hx=>E x (be _ hx))) (by simp[mZ,kJ,Th (vs:=l.map jf) (l:=l.map fun x=>AV.p (jf x)) (by simp)];exact⟨rfl,rfl⟩) ?_;simp
theorem Z8(t:aw)(i:Nat)(hi:i<t.cs.length)(d:t.cs.length<=1000000)(b:∀p∈t.cs,dW p):au prog 98 [cC t,.int .i64 i] (.aC [eV (fk (t.at i)),eV (t.gF i)]):=by
 have a:=aw.get hi;have h:=jj (aw.fj b hi);have j:=jj (aw.fj b (t.kl (by omega) i));have e:=yr (t.at i) (aw.fj b hi);have f:=B4 t i hi d;have g:=yr (t.at (t.nx i)) (aw.fj b (t.kl (by omega) i));have c:=uU (fk (t.at (t.nx i))) (fk (t.at i)) (j.mono (by decide)) (h.mono (by decide));rw[show(fk (t.at (t.nx i))).sub (fk (t.at i))=t.gF i from rfl]at c;refine aG nf RG mix (by simp[f98]) ?_;generalize t.gF i=w at*;simp[f98,aa,a,hi];refine e1 e ?_;simp[aa,a,hi];refine e2 f ?_;simp[aa,a,hi];refine e1 g ?_;simp[aa,a,hi];refine⟨by repeat' first|rfl|apply am,?_⟩;refine e2 c ?_;simp[aa,a,hi]
def aw.dP(t:aw)(d:V2)(i:Nat):Rat:=d.bL (t.gF i)
def aw.ic(t:aw)(p d:V2)(i:Nat):Rat:=(t.gF i).bL (p.sub (fk (t.at i)))/t.dP d i
def aw.fQ(t:aw)(p d:V2):Nat->Int×Rat
 |0=>(-1,0)
 |m+1=>if bX (t.dP d m)<=0 then t.fQ p d m else if(t.fQ p d m).1<0\/dA (t.ic p d m) (t.fQ p d m).2<0 then((m:Int),t.ic p d m)else t.fQ p d m
theorem BV{t:aw}{p d:V2}{i:Nat}(e:∀c∈t.cs,dW c)(g:bt 90 p)(f:bt 90 d)(hi:i<t.cs.length):br 239 (t.dP d i)/\br 269 ((t.gF i).bL (p.sub (fk (t.at i))))/\br 508 (t.ic p d i):=by
 have w:=aw.okW e hi;have h:=jj (aw.fj e hi);have a:=pB f w;have b:=pB w (iH g h);exact⟨a.mono (by decide),b.mono (by decide),(EG b a).mono (by decide)⟩
theorem F5{t:aw}{p d:V2}(b:∀c∈t.cs,dW c)(e:bt 90 p)(a:bt 90 d):∀m,m<=t.cs.length->br 508 (t.fQ p d m).2
 |0,_=>(show br 1 (0:Rat)from⟨by decide,by decide⟩).mono (by decide)
 |m+1,h=>by
  have f:=F5 b e a m (by omega);rw[aw.fQ]
  split
  ·exact f
  ·split
   ·exact(BV b e a (by omega)).2.2
   ·exact f
theorem ZV(t:aw)(p d:V2)(q:t.cs.length<=1000000)(a:∀c∈t.cs,dW c)(f:bt 90 p)(h:bt 90 d):au prog 69 [cC t,eV p,eV d] (.aC [.int .i64 (t.fQ p d t.cs.length).1,.str (bc (t.fQ p d t.cs.length).2)]):=by
 refine aG nf Ro mix (by simp[f69]) ?_;have m:bc 0=[48]:=se;simp[f69,aa];refine lp (α:=Nat) (fun i=>⟨[(10,.p (.int .i64 i)),(9,.p (.str (bc (t.fQ p d i).2))),(8,.p (.int .i64 (t.fQ p d i).1)),(5,.ptr 2 []),(4,.ptr 1 []),(3,.ptr 0 [])],[.box false (.p (cC t)),.box false (.p (eV p)),.box false (.p (eV d))]⟩) (fun i=>i<=t.cs.length) (fun i=>t.cs.length-i) 0 (by simp) ?_ (he:=by simp[aw.fQ,m]);rintro i n
 by_cases hi:i<t.cs.length
 ·have g:=ct (i:=i) (by omega);obtain⟨j,s,u⟩:=BV a f h hi;have v:=F5 a f h i n;have w:=aw.okW a hi;have k:=jj (aw.fj a hi);have k1:=Z8 t i hi q a;have k2:=BK d (t.gF i) (h.mono (by decide)) (w.mono (by decide));have k3:=l7 (t.dP d i) (j.mono (by decide));have k4:=uU p (fk (t.at i)) (f.mono (by decide)) (k.mono (by decide));have k5:=BK (t.gF i) (p.sub (fk (t.at i))) (w.mono (by decide)) ((iH f k).mono (by decide));rw[show d.bL (t.gF i)=t.dP d i from rfl]at k2;have hs:t.fQ p d (i+1)=if bX (t.dP d i)<=0 then t.fQ p d i else if(t.fQ p d i).1<0\/dA (t.ic p d i) (t.fQ p d i).2<0 then((i:Int),t.ic p d i)else t.fQ p d i:=rfl
  by_cases c1:bX (t.dP d i)<=0
  ·rw[if_pos c1]at hs;simp[hi,aa];refine c2 k1 ?_;simp[aa];refine c2 k2 ?_;simp[aa];refine Go.ak.c1 k3 ?_;simp[aa,c1,g];exact rd (i+1) hi (he:=by rw[hs];simp)
  ·rw[if_neg c1]at hs;have r:t.dP d i≠0:=fun e=>c1 (by rw[e];decide);have k6:=I0 ((t.gF i).bL (p.sub (fk (t.at i)))) (t.dP d i) (s.mono (by decide)) (j.mono (by decide)) r;rw[show(t.gF i).bL (p.sub (fk (t.at i)))/t.dP d i=t.ic p d i from rfl]at k6;have k7:=qX (t.ic p d i) (t.fQ p d i).2 (u.mono (by decide)) (v.mono (by decide));generalize x:t.fQ p d i=F at*;obtain⟨b,l⟩:=F;dsimp only at*;generalize dA (t.ic p d i) l=o at*
   by_cases c2:b<0
   ·rw[if_pos (.inl c2)]at hs;simp[hi,aa];refine Go.ak.c2 k1 ?_;simp[aa];refine Go.ak.c2 k2 ?_;simp[aa];refine Go.ak.c1 k3 ?_;simp[aa,c1];refine Go.ak.e2 k4 ?_;simp[aa];refine Go.ak.e2 k5 ?_;simp[aa];refine Go.ak.e2 k6 ?_;simp[aa,c2,g];exact rd (i+1) hi (he:=by rw[hs];simp)
   ·by_cases c3:o<0
    ·rw[if_pos (.inr c3)]at hs;simp[hi,aa];refine Go.ak.c2 k1 ?_;simp[aa];refine Go.ak.c2 k2 ?_;simp[aa];refine Go.ak.c1 k3 ?_;simp[aa,c1];refine Go.ak.e2 k4 ?_;simp[aa];refine Go.ak.e2 k5 ?_;simp[aa];refine Go.ak.e2 k6 ?_;simp[aa,c2];refine Go.ak.c2 k7 ?_;simp[aa,c2,c3,g];exact rd (i+1) hi (he:=by rw[hs];simp)
    ·rw[if_neg (by omega)]at hs;simp[hi,aa];refine Go.ak.c2 k1 ?_;simp[aa];refine Go.ak.c2 k2 ?_;simp[aa];refine Go.ak.c1 k3 ?_;simp[aa,c1];refine Go.ak.e2 k4 ?_;simp[aa];refine Go.ak.e2 k5 ?_;simp[aa];refine Go.ak.e2 k6 ?_;simp[aa,c2];refine Go.ak.c2 k7 ?_;simp[aa,c2,c3,g];exact rd (i+1) hi (he:=by rw[hs];simp)
 ·have:i=t.cs.length:=by omega
  subst this;simp
theorem vB{t:aw}(h:ij t=0):3<=t.cs.length/\t.cs.length<=12/\(∀p∈t.cs,dW p)/\t.fX=true:=by
 rw[F4]at h
 by_cases d:nj t=0
 ·rw[if_pos d]at h
  by_cases e:qY t=0
  ·obtain⟨a,b,c⟩:=FW d;refine⟨a,b,c,?_⟩;rw[qY,pS]at e;have f:=e (aY (!t.fX) 15) (by simp);cases hc:t.fX
   ·rw[hc]at f;simp[aY]at f
   ·rfl
  ·rw[if_neg e]at h;exact(e h).elim
 ·rw[if_neg d]at h;exact(d h).elim
def cF(d:cw):NB:=⟨.from d,⟨.int 0,.int 0⟩,.int 0⟩
end Go.ak
