import Derived.Test.YtdjojlnnobkliaaGreatDoorSPG
import Derived.Test.YtdjojlnnobkliaaGreatDoorSThC
/- Parts of a proof. -/
set_option maxRecDepth 100000
set_option maxHeartbeats 4000000
set_option linter.unusedSimpArgs false
set_option linter.unusedVariables false
set_option linter.unusedSectionVars false
open Go.Proofs.Tryz
open Go.IntKind renaming i64->a3
open List renaming mem_of_getElem?->a4, take_of_length_le->a5, length_take->a6, getElem_mem->a7, length_map->a8, mem_cons->a9, take->bb
namespace Go.aq
open Go.aq renaming c1->c1_, c2->c2_, c3->c3_, c4->c4_, e1->e1_, e2->e2_, e4->e4_
open Go.Proofs
def xb(t b:ar)(aw az:List Nat)(n D:Nat):Bool:=decide (aw.length<=40)&&(decide (az.length<=40)&&(kn t b n D&&decide (gn t b aw az=0)))
theorem Zy(t b:ar)(aw az:List Nat)(n D:Nat)(i:iB t)(h:gf b)(k:n<=1000)(j:D<=1000):aB prog 31 [lZ t b aw az,.int .i64 n,.int .i64 D] (.bool (xb t b aw az n D)):=by
 have d:=Zx t b n D i h k j;have l:=Th t b aw az i h;refine aJ nf (i_ func31) mix (by simp[f31]) ?_;rw[xb];generalize gn t b aw az=e at*
 by_cases a1:aw.length<=40
 case neg=>
  have a:¬(aw.length:Int)<=40:=o_
  simp[f31,a1,a,aa]
 have a:(aw.length:Int)<=40:=o_
 by_cases a2:az.length<=40
 case neg=>
  have c:¬(az.length:Int)<=40:=o_
  simp[f31,a2,a,c,aa]
 have c:(az.length:Int)<=40:=o_
 cases f:kn t b n D
 ·rw[f]at d;simp[f31,a,c,aa];refine c4_ d ?_;simp[aa]
 rw[f]at d;simp[f31,a,c,aa];refine c4_ d ?_;simp[aa];refine c1_ l ?_
 by_cases g:e=0
 ·simp[g,a1,a2]
 ·simp[g]
theorem TF{t b:ar}{aw az:List Nat}{n D:Nat}(h:xb t b aw az n D=true)(j:n<=6)(i:D<=9):sX t b aw az 6=true/\gn t b aw az=0/\kn t b n D=true:=by
 rw[xb]at h;simp only[Bool.and_eq_true,decide_eq_true_eq]at h;obtain⟨e,f,c,g⟩:=h;have d:=TM c j i;have a:=d;rw[kn]at a;simp only[Bool.and_eq_true]at a;refine⟨?_,g,c⟩;rw[sX,d,a.1,a.2.1];simp[e,f]
theorem ZI(l:List Nat)(n:Nat)(h:l.length<=1000000):aB prog 103 [.seq (l.map gH),.int .i64 n] (.bool (decide (n∈l))):=by
 refine aJ nf (i_ func103) mix (by simp[f103]) ?_;simp[f103,aa];refine lp (α:=Nat) (fun i=>⟨[(9,.p (.int .i64 i)),(8,.p (.int .i64 l.length)),(7,.p (.seq (l.map gH))),(1,.p (.int .i64 n))],[]⟩) (fun i=>i<=l.length/\(n∈l↔n∈l.drop i)) (fun i=>l.length-i) 0 s_ ?_;rintro i ⟨i1,i2⟩
 by_cases hi:i<l.length
 ·have b:=b6 (i:=i) o_;rw[List.drop_eq_getElem_cons hi,a9]at i2
  by_cases e:l[i]=n
  ·have a:n∈l:=i2.2 (.inl e.symm);simp[hi,e,gH,a,aa]
  ·have e':¬((l[i]:Nat):Int)=n:=by omega
   have c:n∈l↔n∈l.drop (i+1):=by rw[i2];exact⟨fun h=>h.resolve_left (fun h=>e h.symm),.inr⟩
   simp[hi,e,e',b,gH,aa];exact rd (i+1) ⟨hi,c⟩
 ·have:i=l.length:=by omega
  subst this;have:¬n∈l:=by rw[i2];simp
  simp[this,aa]
theorem HZ(a b:List Nat)(e:a.length<=1000000)(c:b.length<=1000000)(h:∀n∈a,n∈b):aB prog 35 [.seq (a.map gH),.seq (b.map gH)] (.bool true):=by
 refine aJ nf (i_ func35) mix (by simp[f35]) ?_;simp[f35,aa];refine lp (α:=Nat) (fun i=>⟨[(9,.p (.int .i64 i)),(8,.p (.int .i64 a.length)),(7,.p (.seq (a.map gH))),(1,.p (.seq (b.map gH)))],[]⟩) (fun i=>i<=a.length) (fun i=>a.length-i) 0 s_ ?_;rintro i i1
 by_cases hi:i<a.length
 ·have d:=b6 (i:=i) o_;have k:=ZI b a[i] c;rw[decide_eq_true (h _ (a7 hi))]at k;simp[hi,gH,aa];refine c2_ k ?_;simp[d,aa];exact rd (i+1) hi
 ·have:i=a.length:=by omega
  subst this;simp[aa]
def jJ(p q:fF):PV:=.st 92 [fX p,fX q]
@[simp] theorem aO0(p q:fF):aL (jJ p q)=.agg 92:=rfl
@[simp] theorem aNp(p q:fF):bY (jJ p q)=[fX p,fX q]:=rfl
@[simp] theorem aMK:jn prog 92=[32,32]:=k_
structure EU(t:ar)(p:fF):Prop where
 s:nA p
 c:ez p=0
 u:bJ 60 (vP p)
 on:0<=t.on (vP p)
theorem H4(t b:ar)(p q:fF)(ex:List (List Nat))(f:iB t)(k:gf b)(h:fw t b=0)(y:∀s∈b.ak,bJ 300 (vP s.pt))(a:EU t p)(hq:EU t q)(F:ex.length<=24)(hk:∀x∈ex,dB b.ak x≠none):
 aB prog 38 [bU t,.seq (b.ak.map bC),jJ p q,.seq (ex.map .str)] (.aE [.str (dG t.aR (vP p) (vP q) ex b.ak),.int .i64 0]):=by
 obtain⟨g,j,_⟩:=qJ k h;obtain⟨I,J⟩:=mP g;obtain⟨_,_,l,_⟩:=sO g;have k1:=F7 t b f k;rw[h]at k1;have k2:=BI t b o_ o_ j;have m:=u7 p a.s;have r:=u7 q hq.s;rw[a.c]at m;rw[hq.c]at r;obtain⟨B,C⟩:=jr a.c;obtain⟨q1,D⟩:=jr hq.c;have n:=Ed p B C a.s;have v:=Ed q q1 D hq.s;have d:(NV.from p).q=vP p:=rfl;have e:(NV.from q).q=vP q:=rfl;have o:=F3 t (.from p) f.cl l (by rw[d];exact a.u.mono (by decide));have w:=F3 t (.from q) f.cl l (by rw[e];exact hq.u.mono (by decide));have G:=a.on;have H:=hq.on;rw[d,decide_eq_false o_]at o;rw[e,decide_eq_false o_]at w;have k4:=BC t b (.from p) (.from q) ex o_ o_ j y o_ (by rw[d];exact a.u.mono (by decide)) (by rw[e];exact hq.u.mono (by decide));rw[d,e]at k4;have A:¬(24:Int)<ex.length:=o_
 have w1:a3.wrap 1=1:=by decide
 have E:a3.wrap 2=2:=by decide
 refine aJ nf (i_ func38) mix (by simp[f38]) ?_;generalize dG t.aR (vP p) (vP q) ex b.ak=R at*;clear d e;simp[f38,aa];refine c2_ k1 ?_;simp[aa];refine lp (α:=Nat) (fun i=>⟨[(26,.p (.int .i64 i)),(25,.p (jJ p q)),(6,.ptr 1 []),(4,.ptr 0 []),(3,.p (.seq (ex.map .str))),(1,.p (.seq (b.ak.map bC)))],[.box false (.p (bU t)),.box false (.p (jJ p q))]⟩) (fun i=>i<=2) (fun i=>2-i) 0 s_ ?_;rintro i i1;rcases(show i=0\/i=1\/i=2 by omega)with rfl|rfl|rfl
 ·simp[jJ,aa];refine c1_ m ?_;simp[aa];refine e1_ n ?_;simp[aa];refine e2_ o ?_;simp[aa];exact rd 1 (by decide) (he:=by simp[jJ,w1]) (hh:=by simp[jJ])
 ·simp[jJ,aa];refine c1_ r ?_;simp[aa];refine e1_ v ?_;simp[aa];refine e2_ w ?_;simp[aa];exact rd 2 (by decide) (he:=by simp[jJ,E]) (hh:=by simp[jJ])
 simp[aa];refine c2_ k2 ?_;simp[A,aa];refine lp (α:=Nat) (fun i=>⟨[(47,.p (.int .i64 i)),(46,.p (.int .i64 ex.length)),(45,.p (.seq (ex.map .str))),(14,.ptr 2 []),(6,.ptr 1 []),(3,.p (.seq (ex.map .str)))],[.box false (.p (bU t)),.box false (.p (jJ p q)),.box false (.p (lH t b))]⟩) (fun i=>i<=ex.length) (fun i=>ex.length-i) 0 s_ ?_;rintro i i1
 by_cases hi:i<ex.length
 ·have z:=b6 (i:=i) o_;obtain⟨s,hs⟩:=Option.ne_none_iff_exists'.1 (hk _ (a7 hi));simp[hi,hs,z,aa];exact rd (i+1) hi
 ·have:i=ex.length:=by omega
  subst this;simp[aa];refine e1_ n ?_;simp[jJ,aa];refine e1_ v ?_;simp[aa];refine e4_ k4 ?_;simp[aa]
theorem H5:qD []:=fun b o h=>by simp at h
theorem Hl{k:AK}{aC z:Nat}{c:List PV}{H:aj}(d:¬(k.gr=true/\c.map AV.p=[]))(h:qD H):qD (.arr k aC z (c.map AV.p)::H):=fun b o a=>by
 rcases b with _|b
 ·simp at a;exact⟨k,aC,z,c,a.symm,d⟩
 ·exact h b o (by simpa using a)
theorem Rf{α:Type}{f:α->PV}{l:List α}:l.map (AV.p∘f)=(l.map f).map AV.p:=by rw[List.map_map]
theorem HV{α:Type}{f:α->PV}{l:List α}{H:aj}{n:Nat}:lD H n (l.map (AV.p∘f)) (l.map f):=by
 rw[Dz];intro x _;cases n<;>simp
theorem ne_nil{α:Type}{k:AK}{f:α->PV}{l:List α}(h:1<=l.length):¬(k.gr=true/\(l.map f).map AV.p=[]):=by
 rintro⟨_,e⟩;have:=congrArg List.length e;rw[a8,a8,List.length_nil]at this;omega
theorem aH6{f:FuncId}{u:PV}{t b:ar}{aw az:List Nat}{k:AK}{v:Nat}(h:aB prog f [fV t b aw az] u)(c:Enters prog f)(d:1<=b.ak.length):
 cC prog f [.arr k v 3 (b.ak.map (AV.p∘bC))] [.st 45 [.p (bU t),.sl 0 v 3 0 b.ak.length,.p (.str aw),.p (.str az)]] [.arr .frozen v 3 (b.ak.map (AV.p∘bC))] (.p u):=by
 have a:qD [.arr k v 3 (b.ak.map (AV.p∘bC))]:=by
  rw[Rf];exact Hl (ne_nil d) H5
 rw[fV]at h;refine aB.Rc 9 h c a ?_;have e:bb b.ak.length (b.ak.map (AV.p∘bC))=b.ak.map (AV.p∘bC):=a5 s_;simp[e,HV]
theorem Tq{f:FuncId}{u x:PV}{t b:ar}{aw az:List Nat}{k:AK}{v:Nat}(h:aB prog f [fV t b aw az,x] u)(c:Enters prog f)(d:1<=b.ak.length):
 cC prog f [.arr k v 3 (b.ak.map (AV.p∘bC))] [.st 45 [.p (bU t),.sl 0 v 3 0 b.ak.length,.p (.str aw),.p (.str az)],.p x] [.arr .frozen v 3 (b.ak.map (AV.p∘bC))] (.p u):=by
 have a:qD [.arr k v 3 (b.ak.map (AV.p∘bC))]:=by
  rw[Rf];exact Hl (ne_nil d) H5
 rw[fV]at h;refine aB.Rc 9 h c a ?_;have e:bb b.ak.length (b.ak.map (AV.p∘bC))=b.ak.map (AV.p∘bC):=a5 s_;simp[e,HV]
def jS(b:ar)(k i:Nat):List ch:=(b.ak.take i).eraseIdx k
theorem Tm{b:ar}{k i:Nat}(hi:i<b.ak.length):jS b k (i+1)=if i=k then jS b k i else jS b k i++[b.sp i]:=by
 have e:b.ak.take (i+1)=b.ak.take i++[b.sp i]:=by rw[List.take_add_one,ar.dU hi];rfl
 have d:(b.ak.take i).length=i:=by rw[a6];omega
 rw[jS,jS,e]
 by_cases f:k<i
 ·rw[if_neg o_,List.eraseIdx_append_of_lt_length o_]
 ·have e0:(b.ak.take i).eraseIdx k=b.ak.take i:=List.eraseIdx_of_length_le o_;rw[List.eraseIdx_append_of_length_le o_,d,e0]
  by_cases a:i=k
  ·subst a;rw[if_pos rfl,Nat.sub_self];simp
  ·rw[if_neg a];obtain⟨c,hc⟩:∃c,k-i=c+1:=⟨k-i-1,o_⟩
   rw[hc];simp
theorem Tx{b:ar}{k:Nat}:jS b k b.ak.length=(eK b k).ak:=by
 rw[jS,eK,List.take_length]
theorem Tw{b:ar}{k i:Nat}:(jS b k i).length<=b.ak.length:=by
 rw[jS];have:=(List.eraseIdx_sublist (b.ak.take i) k).length_le;rw[a6]at this;omega
theorem Hp{α:Type}(f:α->Bool):∀(l:List α)(n:Nat),idxFrom f l n= -1->∀x∈l,f x=false
 |[],_,_,_,h=>by simp at h
 |y::l,n,h,x,hx=>by
  rw[idxFrom]at h
  split at h
  ·omega
  rename_i c;rcases a9.1 hx with rfl|hx
  ·simpa using c
  ·exact Hp f l (n+1) h x hx
theorem Tt{t:ar}{m:Nat}(a:m<t.ba.length):∃w:Nat,sG t (t.pk m).name=w/\w<t.ba.length:=by
 rcases TJ t (t.pk m).name with h|h
 ·have:=Hp _ _ _ h _ (a4 (ar.jC a));simp at this
 ·exact h
theorem Ho{t b:ar}{aw az:List Nat}{i j m:Nat}(e:gf b)(a:gV t b aw az i j)(d:∀s∈b.ak,0<=t.on (vP s.pt))(c:m<b.ak.length):EU t (b.sp m).pt:=by
 have h:=a4 (ar.dU c);exact⟨(a.L.sp _ h).1.2,(a.L.sp _ h).2,a.qj _ h,d _ h⟩
theorem aHp{l:List Nat}(h:0<l.length):¬l=[]:=fun e=>by rw[e]at h;simp at h
theorem Tk(y:aB prog 8 [] (.bool true))(t b:ar)(aw az:List Nat)(pick:Nat)(aX:pick<256)(h:iB t)(d:gf b):
 aB prog 5 [lZ t b aw az,.int .u8 pick] (.bool true):=by
 have aW:(1000000:Nat)<cV:=by decide
 have s0:=Zy t b aw az 5 5 h d (by decide) (by decide);have k2:=ZZ t b aw az h d;rcases V:xb t b aw az 5 5 with _|_
 ·rw[V]at s0;refine aJ nf (i_ func5) mix (by simp[f5]) ?_;simp[f5,aa];refine c3_ s0 ?_;simp[aa];refine c0 y ?_;simp
 rw[V]at s0
 by_cases aP:4<t.ba.length
 ·have S:(4:Int)<t.ba.length:=by omega
  refine aJ nf (i_ func5) mix (by simp[f5]) ?_;simp[f5,aa];refine c3_ s0 ?_;simp[S,aa];refine c0 y ?_;simp
 have S:¬(4:Int)<t.ba.length:=o_
 obtain⟨hs,c,_⟩:=TF V (by decide) (by decide);obtain⟨i,j,a⟩:=aGG h d hs c;have ad:=aGJ h d hs c;obtain⟨C,aE,aD,aA⟩:=xT c;obtain⟨_,T,ai⟩:=qJ d C;have a1:=HR t b aw az i j h d c a;have o:=To t b aw az i j h d c a;have r:mQ t b aw az i j=false->aB prog 34 [fV t b aw az,.seq ((jB t b aw az i j 32).map .str)] (.int .i64 0):=fun G=>by
  have:=Tj t b aw az i j (jB t b aw az i j 32) h d c a s_
  rwa [ayJ T G]at this
 rw[TE]at o r;have aR:=BE t b aw az i j 32;have hid:∃(W:List (List Nat))(P:Int),aB prog 33 [fV t b aw az] (.aE [.seq (W.map .str),.int .i64 P])/\((0<(fZ t b aw az i j 32).length/\P=7)\/((fZ t b aw az i j 32).length=0/\P=0/\aB prog 34 [fV t b aw az,.seq (W.map .str)] (.int .i64 0))):=by
  by_cases G:(fZ t b aw az i j 32).length=0
  ·rw[if_neg (by simp[G])]at o;exact⟨_,_,o,.inr ⟨G,rfl,r (by simp[G])⟩⟩
  ·rw[if_pos (by simp[G])]at o;exact⟨[],_,o,.inl ⟨o_,rfl⟩⟩
 clear o r;obtain⟨W,P,o,ag⟩:=hid;have U:0<b.ak.length:=by have:=a.ci.2.1;omega
 generalize hk:pick% b.ak.length=k;have z:k<b.ak.length:=by rw[<-hk];exact Nat.mod_lt _ U
 have I:((pick:Nat):Int).tmod (b.ak.length:Int)=((k:Nat):Int):=by
  rw[<-hk,Int.natCast_emod,Int.tmod_eq_emod_of_nonneg o_]
 have H:a3.wrap (pick:Int)=pick:=aQ _ o_ o_;have gk:=ar.dU z;have ae:¬az=aw:=fun e=>aA e.symm;have aU:(0:Int)<b.ak.length:=o_
 have F:¬b.ak=[]:=fun e=>by rw[e]at U;simp at U
 generalize ay:fZ t b aw az i j 32=L at*;have ac:L.length=0↔L=[]:=List.length_eq_zero_iff
 by_cases Q:(b.sp k).name=aw\/(b.sp k).name=az
 ·refine aJ nf (i_ func5) mix (by simp[f5]) ?_;simp[f5,aa];refine c3_ s0 ?_;simp[S,aa];refine c1_ k2 ?_;simp[aa];refine c1_ a1 ?_;simp[aa];refine c1_ o ?_;simp[aa];rcases ag with⟨c,rfl⟩|⟨c,rfl,r⟩
  ·have l:¬L=[]:=fun e=>by rw[e]at c;simp at c
   by_cases f:(b.sp k).name=aw
   ·simp[l,H,I,gk,z,F,f,aa];refine c0 y ?_;simp
   ·have q:(b.sp k).name=az:=Q.resolve_left f;simp[l,H,I,gk,z,F,f,q,ae,aa];refine c0 y ?_;simp
  ·have l:L=[]:=ac.1 c
   by_cases f:(b.sp k).name=aw
   ·simp[l,aa];refine c2_ r ?_;simp[H,I,gk,z,F,f,aa];refine c0 y ?_;simp
   ·have q:(b.sp k).name=az:=Q.resolve_left f;simp[l,aa];refine c2_ r ?_;simp[H,I,gk,z,F,f,q,ae,aa];refine c0 y ?_;simp
 have X:¬(b.sp k).name=aw:=fun e=>Q (.inl e);have Y:¬(b.sp k).name=az:=fun e=>Q (.inr e);obtain⟨N,J,O,au,Z⟩:=aup a d C X Y;have ab:=Tv c O;have af:=BB d (qI b k);have b1:=HR t (eK b k) aw az N J h af ab O;have aq:∀n∈L,n∈fZ t (eK b k) aw az N J 32:=by rw[<-ay];exact aHX C au Z
 have ap:=HZ L _ o_ (by have:=BE t (eK b k) aw az N J 32;omega) aq;generalize fZ t (eK b k) aw az N J 32=M at*;have aS:(eK b k).ak.length=b.ak.length-1:=List.length_eraseIdx_of_lt z;have ah:1<=(eK b k).ak.length:=by have:=O.ci.2.1;omega
 have av:=fun K v=>aH6 (k:=K) (v:=v) b1 (i_ func32).enters ah;have aG:∀m,m<t.ba.length->∃A B:List Nat,aB prog 36 [fV t b aw az,.str (t.pk m).name] (.aE [.seq (A.map gH),.int .i64 0])/\aB prog 36 [fV t (eK b k) aw az,.str (t.pk m).name] (.aE [.seq (B.map gH),.int .i64 0])/\aB prog 35 [.seq (A.map gH),.seq (B.map gH)] (.bool true):=by
  intro m g;obtain⟨w,D,aj⟩:=Tt g;refine⟨_,_,Hv t b aw az (t.pk m).name i j w h d c a ad D aj,Hv t (eK b k) aw az (t.pk m).name N J w h af ab O ad D aj,HZ _ _ ?_ ?_ (aLO C Z)⟩
  ·have:=BD t b aw az j (qp t w) (t.pk w) 65;rw[sN];omega
  ·have:=BD t (eK b k) aw az J (qp t w) (t.pk w) 65;rw[sN];omega
 have ak:=Zu t b aw az i j a;have kB:=TD t b aw az i j a;rw[(a.at a.ci.2.1).1]at ak;rw[(a.at a.bj.2.1).1]at kB;have an:=Ho d a ai a.ci.2.1;have ao:=Ho d a ai a.bj.2.1;have aH:=u3 b (dG t.aR (vP (b.sp i).pt) (vP (b.sp j).pt) [aw,az] b.ak) d.sl;have al:=H4 t b (b.sp i).pt (b.sp j).pt [aw,az] h d C (fun s hs=>(a.qj s hs).mono (by decide)) an ao s_ (fun x hx=>by
  simp at hx;rcases hx with rfl|rfl
  ·exact aE
  ·exact aD)
 have am:dG t.aR (vP (b.sp i).pt) (vP (b.sp j).pt) [aw,az] b.ak≠[]->∃m:Nat,m<b.ak.length/\iH b (dG t.aR (vP (b.sp i).pt) (vP (b.sp j).pt) [aw,az] b.ak)=m/\aB prog 38 [bU t,.seq [bC (b.sp m)],jJ (b.sp i).pt (b.sp j).pt,.seq []] (.aE [.str (dG t.aR (vP (b.sp i).pt) (vP (b.sp j).pt) [aw,az] b.ak),.int .i64 0]):=by
  intro u;obtain⟨m,f,q,ax⟩:=aGL T u;refine⟨m,f,q,?_⟩;have:=H4 t (AY b m) (b.sp i).pt (b.sp j).pt [] h (BB d (one_sub f)) (BA C (one_sub f)) (fun s hs=>(a.qj s ((one_sub f).subset hs)).mono (by decide)) an ao s_ s_;rw[ax]at this;exact this
 have aL:dG t.aR (vP (b.sp i).pt) (vP (b.sp j).pt) [aw,az] b.ak≠aw/\dG t.aR (vP (b.sp i).pt) (vP (b.sp j).pt) [aw,az] b.ak≠az:=by
  have hc:aw≠[]:=by rw[<-BF a.ci];exact xQ C (a4 (ar.dU a.ci.2.1))
  have aC:az≠[]:=by rw[<-BF a.bj];exact xQ C (a4 (ar.dU a.bj.2.1))
  by_cases u:dG t.aR (vP (b.sp i).pt) (vP (b.sp j).pt) [aw,az] b.ak=[]
  ·rw[u];exact⟨hc.symm,aC.symm⟩
  ·obtain⟨s,_,f,q,_⟩:=xR u;rw[f]at q;exact⟨fun e=>q (by simp[e]),fun e=>q (by simp[e])⟩
 generalize dG t.aR (vP (b.sp i).pt) (vP (b.sp j).pt) [aw,az] b.ak=R at*;obtain⟨aI,aK⟩:=aL;have aF:a3.wrap 0=0:=by decide
 simp only[jJ]at al am;have aT:∀i:Nat,((i:Int)=(k:Int))↔i=k:=fun i=>by omega
 refine aJ nf (i_ func5) mix (by simp[f5]) ?_;simp[f5,aa];refine c3_ s0 ?_;simp[S,aa];refine c1_ k2 ?_;simp[aa];refine c1_ a1 ?_;simp[aa];refine c1_ o ?_;simp[aa];rcases ag with⟨c,rfl⟩|⟨c,rfl,r⟩
 all_goals
  first
  |(have l:¬L=[]:=aHp c
    simp[l,H,I,gk,z,F,X,Y,aa])
  |(have l:L=[]:=ac.1 c
    simp[l,aa];refine c2_ r ?_;simp[H,I,gk,z,F,X,Y,aa])
  clear c;refine lp (α:=Nat) (fun m=>⟨[(110,.p (.int .i64 m)),(109,.p (.int .i64 b.ak.length)),(108,.p (.seq (b.ak.map bC))),(11,.p (.int .i64 k)),(10,.ptr 2 []),(6,.p (.seq (L.map gH))),(5,.ptr 1 []),(2,.ptr 0 [])],
   [.box false (.p (lZ t b aw az)),.box false (.p (fV t b aw az)),.box false (.st 45 [.p (bU t),.sl 3 (jS b k m).length 3 0 (jS b k m).length,.p (.str aw),.p (.str az)]),.arr .grow (jS b k m).length 3 ((jS b k m).map (AV.p∘bC))]⟩) (fun m=>m<=b.ak.length) (fun m=>b.ak.length-m) 0 s_ ?_ (he:=by simp[l]) (hh:=by simp[jS,bU])
  rintro m m1
  by_cases g:m<b.ak.length
  ·have aY:=T.sl;have D:=b6 (i:=m) o_;have E:=ar.dU g;have hs:=Tm (k:=k) g;have aV:(jS b k m).length<=b.ak.length:=Tw
   by_cases e:m=k
   ·rw[if_pos e]at hs;subst e;simp[g,E,D,aa];exact rd (m+1) g (hh:=by simp[hs])
   ·rw[if_neg e]at hs;have e':¬(m:Int)=k:=by omega
    simp[g,E,e',D,aa];exact⟨o_,rd (m+1) g (hh:=by simp[hs])⟩
  obtain rfl:m=b.ak.length:=o_
  rw[Tx];simp[aa];refine cf (av .grow (eK b k).ak.length) [3] ?_;simp[bc,sig,aa];refine c2_ ap ?_;simp[aa];refine lp (α:=Nat) (fun m=>⟨[(142,.p (.int .i64 m)),(141,.p (.int .i64 t.ba.length)),(140,.p (.seq (t.ba.map fq))),(10,.ptr 2 []),(5,.ptr 1 []),(2,.ptr 0 [])],
   [.box false (.p (lZ t b aw az)),.box false (.p (fV t b aw az)),.box false (.st 45 [.p (bU t),.sl 3 (eK b k).ak.length 3 0 (eK b k).ak.length,.p (.str aw),.p (.str az)]),.arr .frozen (eK b k).ak.length 3 ((eK b k).ak.map (AV.p∘bC))]⟩) (fun m=>m<=t.ba.length) (fun m=>t.ba.length-m) 0 s_ ?_
  rintro m m1
  by_cases g:m<t.ba.length
  ·have D:=b6 (i:=m) o_;have E:=ar.jC g;obtain⟨A,B,w1,aM,aO⟩:=aG m g;have aN:=Tq (k:=.frozen) (v:=(eK b k).ak.length) aM (i_ func36).enters ah;simp[g,E,aa];refine c2_ w1 ?_;simp[aa];refine cf aN [3] ?_;simp[bc,sig,aa];refine c2_ aO ?_;simp[D,aF,aa];exact rd (m+1) g
  obtain rfl:m=t.ba.length:=o_
  simp[aa];refine e1_ ak ?_;simp[aa];refine e1_ kB ?_;simp[aa];refine⟨by repeat' first|rfl|apply And.intro,?_⟩;refine cp al (by simp;first|exact⟨rfl,rfl⟩|rfl) ?_;simp[aI,aK,aa];refine c2_ aH ?_
  by_cases u:R=[]
  ·simp[u,aa];refine c0 y ?_;simp
  obtain⟨m,m1,m2,m3⟩:=am u;have E:=ar.dU m1;simp[u,m2,E,m1,aa];refine ep m3 (by simp;first|exact⟨rfl,rfl⟩|rfl) (by simp;first|exact⟨rfl,rfl⟩|rfl) ?_;simp[aa];refine⟨by repeat' first|rfl|apply And.intro,?_⟩;refine c0 y ?_;simp
end Go.aq
