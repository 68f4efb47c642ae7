import Derived.Test.YtanjnahmbanmaaaGreatDoorPP
import Derived.Test.YtanjnahmbanmaaaGreatDoorPI
import Derived.Test.YtanjnahmbanmaaaGreatDoorPH
/- Parts of a proof. -/
set_option linter.unusedSimpArgs false
set_option linter.unusedVariables false
set_option linter.unusedSectionVars false
namespace Go.Abs
open Go.Proofs
set_option maxHeartbeats 4000000
set_option maxRecDepth 100000
def ok3 (k:Nat) (s:S3):Prop:=okR k s.a∧okR k s.b∧okR k s.d
theorem ok3.mono {k l:Nat} {s:S3} (h:ok3 k s) (hl:k≤l):ok3 l s:=⟨h.1.mono hl,h.2.1.mono hl,h.2.2.mono hl⟩
def S3.add (s t:S3):S3:=⟨s.a+t.a,s.b+t.b,s.d⟩
def S3.mul (s t:S3):S3:=⟨s.a*t.a+s.b*t.b*s.d,s.a*t.b+t.a*s.b,s.d⟩
def S3.times (x:Rat) (s:S3):S3:=⟨x*s.a,x*s.b,s.d⟩
theorem ok3_add {k l:Nat} {s t:S3} (hs:ok3 k s) (ht:ok3 l t):ok3 (k+l+1) (s.add t):=⟨asU hs.1 ht.1,asU hs.2.1 ht.2.1,hs.2.2.mono (by omega)⟩
theorem azo {k l:Nat} {x:Rat} {s:S3} (hx:okR k x) (hs:ok3 l s):ok3 (k+l) (S3.times x s):=⟨abP hx hs.1,abP hx hs.2.1,hs.2.2.mono (by omega)⟩
theorem aAr {k l:Nat} {s t:S3} (hs:ok3 k s) (ht:ok3 l t):ok3 (k+l+(k+l+k)+1) (s.mul t) :=
 ⟨asU (abP hs.1 ht.1) (abP (abP hs.2.1 ht.2.1) hs.2.2),(asU (abP hs.1 ht.2.1) (abP ht.1 hs.2.1)).mono (by omega),hs.2.2.mono (by omega)⟩
def kS:Nat:=8000
theorem azM (s t:S3) (hs:ok3 8000 s) (ht:ok3 8000 t):aab Tryz.prog 54 [eS s,eS t] (eS (s.add t)):=by
 have kk1:=azc s.a t.a (hs.1.mono (by decide)) (ht.1.mono (by decide));have kk2:=azc s.b t.b (hs.2.1.mono (by decide)) (ht.2.1.mono (by decide));refine aad nf isF54 mix (by simp [Tryz.f54]) ?_;rw [S3.add,azu];simp [Tryz.f54,shpA];refine e2 kk1 ?_;simp [shpA];refine e2 kk2 ?_;simp [shpA]
theorem az9 (s t:S3) (hs:ok3 8000 s) (ht:ok3 8000 t):aab Tryz.prog 155 [eS s,eS t] (eS (s.mul t)):=by
 have kk1:=amG s.a t.a (hs.1.mono (by decide)) (ht.1.mono (by decide));have kk2:=amG s.b t.b (hs.2.1.mono (by decide)) (ht.2.1.mono (by decide));have kk3:=amG (s.b*t.b) s.d ((abP hs.2.1 ht.2.1).mono (by decide)) (hs.2.2.mono (by decide));have kk4:=azc (s.a*t.a) ((s.b*t.b)*s.d) ((abP hs.1 ht.1).mono (by decide)) ((abP (abP hs.2.1 ht.2.1) hs.2.2).mono (by decide));have kk5:=amG s.a t.b (hs.1.mono (by decide)) (ht.2.1.mono (by decide));have kk6:=amG t.a s.b (ht.1.mono (by decide)) (hs.2.1.mono (by decide));have kk7:=azc (s.a*t.b) (t.a*s.b) ((abP hs.1 ht.2.1).mono (by decide)) ((abP ht.1 hs.2.1).mono (by decide));refine aad nf aAG mix (by simp [Tryz.f155]) ?_;rw [S3.mul,azu];simp [Tryz.f155,shpA];refine e2 kk1 ?_;simp [shpA];refine e2 kk2 ?_;simp [shpA];refine e2 kk3 ?_;simp [shpA];refine e2 kk4 ?_;simp [shpA];refine e2 kk5 ?_;simp [shpA];refine e2 kk6 ?_;simp [shpA];refine e2 kk7 ?_;simp [shpA]
theorem azy (a b d:List Nat):aab Tryz.prog 121 [.str a,.str b,.str d] (.st 31 [.str a,.str b,.str d]):=by
 refine aad nf azS mix (by simp [Tryz.f121]) ?_;simp [Tryz.f121,shpA]
theorem azB (x:Rat) (s:S3) (hx:okR 8000 x) (hs:ok3 8000 s):aab Tryz.prog 156 [.str (txQ x),eS s] (eS (S3.times x s)):=by
 have kk1:=amG x s.a (hx.mono (by decide)) (hs.1.mono (by decide));have kk2:=amG x s.b (hx.mono (by decide)) (hs.2.1.mono (by decide));have kk3:=azy (txQ (x*s.a)) (txQ (x*s.b)) (txQ s.d);refine aad nf azR mix (by simp [Tryz.f156]) ?_;rw [S3.times,azu];simp [Tryz.f156,shpA];refine e2 kk1 ?_;simp [shpA];refine e2 kk2 ?_;simp [shpA];refine e3 kk3 ?_;simp [shpA]
structure P4 where
 x:S3
 y:S3
def eP4 (p:P4):PV:=.st 62 [eS p.x,eS p.y]
@[simp] theorem shp_eP4 (p:P4):shp (eP4 p)=.agg 62:=rfl
@[simp] theorem flds_eP4 (p:P4):flds (eP4 p)=[eS p.x,eS p.y]:=rfl
theorem azH (x y:S3):eP4 ⟨x,y⟩=.st 62 [eS x,eS y]:=rfl
@[simp] theorem ceS:Tryz.prog.cellsOf 31=3:=by kernel_rfl
def ok4 (k:Nat) (p:P4):Prop:=ok3 k p.x∧ok3 k p.y
theorem ok4.mono {k l:Nat} {p:P4} (h:ok4 k p) (hl:k≤l):ok4 l p:=⟨h.1.mono hl,h.2.mono hl⟩
def P4.dot (v:V2) (p:P4):S3:=(S3.times v.x p.x).add (S3.times v.y p.y)
theorem aAO {k l:Nat} {v:V2} {p:P4} (hv:okU k v) (hp:ok4 l p):ok3 (k+l+(k+l)+1) (P4.dot v p):=ok3_add (azo hv.1 hp.1) (azo hv.2 hp.2)
theorem aAV (v:V2) (p:P4) (hv:okU 3000 v) (hp:ok4 3000 p):aab Tryz.prog 60 [eV v,eP4 p] (eS (P4.dot v p)):=by
 have kk1:=azB v.x p.x (hv.1.mono (by decide)) (hp.1.mono (by decide));have kk2:=azB v.y p.y (hv.2.mono (by decide)) (hp.2.mono (by decide));have kk3:=azM (S3.times v.x p.x) (S3.times v.y p.y) ((azo hv.1 hp.1).mono (by decide)) ((azo hv.2 hp.2).mono (by decide));refine aad nf isF60 mix (by simp [Tryz.f60]) ?_;rw [P4.dot];simp [Tryz.f60,shpA];refine e2 kk1 ?_;simp [shpA];refine e2 kk2 ?_;simp [shpA];refine e2 kk3 ?_;simp [shpA]
theorem azj (q:Rat):sgQ q = -1∨sgQ q=0∨sgQ q=1:=by
 rw [sgQ]; split
 · exact .inl rfl
 · split
   · exact .inr (.inl rfl)
   · exact .inr (.inr rfl)
theorem azt (x y:Rat):ordQ x y = -1∨ordQ x y=0∨ordQ x y=1:=by
 rw [ordQ]; split
 · exact .inl rfl
 · split
   · exact .inr (.inl rfl)
   · exact .inr (.inr rfl)
theorem azs {a b:Int} (ha:a = -1∨a=0∨a=1) (hb:b = -1∨b=0∨b=1):a*b = -1∨a*b=0∨a*b=1:=by
 rcases ha with rfl | rfl | rfl <;> rcases hb with rfl | rfl | rfl <;> simp
theorem azp {a:Int} (ha:a = -1∨a=0∨a=1):IntKind.i64.wrap a=a:=by
 rcases ha with rfl | rfl | rfl <;> decide
def sg3 (a b o:Int):Int:=if 0≤a*b then (if a=0 then b else a) else a*o
def sgS (s:S3):Int:=sg3 (sgQ s.a) (sgQ s.b*sgQ s.d) (ordQ (s.a*s.a) (s.b*s.b*s.d))
theorem aAm {a b o:Int} (ha:a = -1∨a=0∨a=1) (hb:b = -1∨b=0∨b=1) (ho:o = -1∨o=0∨o=1):sg3 a b o = -1∨sg3 a b o=0∨sg3 a b o=1:=by
 rw [sg3]
 split
 · split
   · exact hb
   · exact ha
 · exact azs ha ho
theorem az5 (s:S3):sgS s = -1∨sgS s=0∨sgS s=1:=aAm (azj _) (azs (azj _) (azj _)) (azt _ _)
theorem azD (s:S3) (hs:ok3 8000 s):aab Tryz.prog 59 [eS s] (.int .i64 (sgS s)):=by
 have h1:=akQ s.a (hs.1.mono (by decide));have h2:=akQ s.b (hs.2.1.mono (by decide));have h3:=akQ s.d (hs.2.2.mono (by decide));have h4:=amG s.a s.a (hs.1.mono (by decide)) (hs.1.mono (by decide));have h5:=amG s.b s.b (hs.2.1.mono (by decide)) (hs.2.1.mono (by decide));have h6:=amG (s.b*s.b) s.d ((abP hs.2.1 hs.2.1).mono (by decide)) (hs.2.2.mono (by decide));have h7:=c_CmpR (s.a*s.a) (s.b*s.b*s.d) ((abP hs.1 hs.1).mono (by decide)) ((abP (abP hs.2.1 hs.2.1) hs.2.2).mono (by decide));have b1:=azj s.a;have b2:=azs (azj s.b) (azj s.d);have b3:=azt (s.a*s.a) (s.b*s.b*s.d);have w1:=azp b2;refine aad nf isF59 mix (by simp [Tryz.f59]) ?_;rw [sgS];generalize ordQ (s.a*s.a) (s.b*s.b*s.d)=o at *;generalize sgQ s.a=x at *;generalize sgQ s.b=y1 at *;generalize sgQ s.d=y2 at *;have w2:=azp (azs b1 b2);have w3:=azp (azs b1 b3);simp [Tryz.f59,shpA,-aai];rw [aai];simp [-aai,shpA];rw [aai];simp [-aai,shpA];refine e1 h1 ?_;simp [shpA];refine e1 h2 ?_;simp [shpA];refine e1 h3 ?_;simp [shpA,w1];generalize y1*y2=y at *;rw [sg3]
 by_cases c:0≤x*y
 · rw [if_pos c]
   by_cases c2:x=0
   · subst c2;have hw0:IntKind.i64.wrap 0=0:=by decide
     simp [hw0,shpA]
   · rw [if_neg c2];simp [c,c2,w2,shpA]
 · rw [if_neg c];simp [c,w2,shpA];refine e2 h4 ?_;simp [shpA];refine e2 h5 ?_;simp [shpA];refine e2 h6 ?_;simp [shpA];refine e2 h7 ?_;simp [shpA,w3]
def azm (r:Int) (u:V2):Rat:=((2*r:Int):Rat) / u.dot u
def azl (r:Int) (b u:V2):P4:=⟨⟨b.x,azm r u*u.x,u.dot u⟩,⟨b.y,azm r u*u.y,u.dot u⟩⟩
theorem azw {r:Int} (h0:0≤r) (h1:r≤1000000):okR 22 ((2*r:Int):Rat):=akh (by omega) (by decide)
theorem azq {r:Int} {u:V2} (h0:0≤r) (h1:r≤1000000) (hu:okU 401 u):okR 1627 (azm r u):=avH (azw h0 h1) (aba hu hu)
theorem azF {r:Int} {b u:V2} (h0:0≤r) (h1:r≤1000000) (hb:okU 200 b) (hu:okU 401 u):ok4 2100 (azl r b u) :=
 ⟨⟨hb.1.mono (by decide),(abP (azq h0 h1 hu) hu.1).mono (by decide),(aba hu hu).mono (by decide)⟩,⟨hb.2.mono (by decide),(abP (azq h0 h1 hu) hu.2).mono (by decide),(aba hu hu).mono (by decide)⟩⟩
theorem azC (r:Int) (b t:V2) (h0:0≤r) (h1:r≤1000000) (hb:okU 200 b) (ht:okU 200 t) (hz:(b.sub t).dot (b.sub t)≠0):aab Tryz.prog 31 [.int .i64 r,eV b,eV t] (eP4 (azl r b (b.sub t))):=by
 have hu:okU 401 (b.sub t):=anq hb ht;obtain ⟨u,hue⟩:∃ u,b.sub t=u:=⟨_,rfl⟩
 have hL:=azN b t (hb.mono (by decide)) (ht.mono (by decide));rw [hue] at hu hz hL ⊢;have hq:=afP u (hu.mono (by decide));have w1:IntKind.i64.wrap (2*r)=2*r:=wi64 _ (by omega) (by omega);have hd:=aba hu hu;have hF:=azq h0 h1 hu;have kk1:=hL;have kk2:=aq9 (2*r) (by omega) (by omega);have kk3:=hq;have kk4:=c_DivR ((2*r:Int):Rat) (u.dot u) ((azw h0 h1).mono (by decide)) (hd.mono (by decide)) hz;have kk5:=amG (azm r u) u.x (hF.mono (by decide)) (hu.1.mono (by decide));have kk6:=hq;have kk7:=azy (txQ b.x) (txQ (azm r u*u.x)) (txQ (u.dot u));have kk8:=amG (azm r u) u.y (hF.mono (by decide)) (hu.2.mono (by decide));have kk9:=hq;have kk10:=azy (txQ b.y) (txQ (azm r u*u.y)) (txQ (u.dot u));refine aad nf isF31 mix (by simp [Tryz.f31]) ?_;rw [azl,azH,azu,azu];rw [azm] at *;simp [Tryz.f31,shpA,w1];refine c2 kk1 ?_;simp [shpA,w1];refine e1 kk2 ?_;simp [shpA,w1];refine e1 kk3 ?_;simp [shpA,w1];refine e2 kk4 ?_;simp [shpA,w1];refine e2 kk5 ?_;simp [shpA,w1];refine e1 kk6 ?_;simp [shpA,w1];refine e3 kk7 ?_;simp [shpA,w1];refine e2 kk8 ?_;simp [shpA,w1];refine e1 kk9 ?_;simp [shpA,w1];refine e3 kk10 ?_;simp [shpA,w1]
def wayP (g:P4) (c:V2):P4:=⟨⟨g.x.a - c.x,g.x.b,g.x.d⟩,⟨g.y.a - c.y,g.y.b,g.y.d⟩⟩
def cutS (r:Int) (c b t:V2):S3:=P4.dot (t.sub b) (wayP (azl r b (b.sub t)) c)
theorem c_CutR (r:Int) (c b t:V2) (h0:0≤r) (h1:r≤1000000) (hc:okU 200 c) (hb:okU 200 b) (ht:okU 200 t) (hz:(b.sub t).dot (b.sub t)≠0):aab Tryz.prog 32 [.int .i64 r,eV c,eV b,eV t] (.int .i64 (sgS (cutS r c b t))):=by
 have hu:okU 401 (b.sub t):=anq hb ht;have hG:=azC r b t h0 h1 hb ht hz;have g4:=azF h0 h1 hb hu;obtain ⟨g,hge⟩:∃ g,azl r b (b.sub t)=g:=⟨_,rfl⟩
 rw [cutS];rw [hge] at hG g4 ⊢;have w4:ok4 2301 (wayP g c):=⟨⟨adL g4.1.1 hc.1,g4.1.2.1.mono (by decide),g4.1.2.2.mono (by decide)⟩,⟨adL g4.2.1 hc.2,g4.2.2.1.mono (by decide),g4.2.2.2.mono (by decide)⟩⟩
 have hv:okU 401 (t.sub b):=anq ht hb;have hD:=aAV (t.sub b) (wayP g c) (hv.mono (by decide)) (w4.mono (by decide));rw [wayP,azH,azu,azu] at hD;have hS:=azD (P4.dot (t.sub b) (wayP g c)) ((aAO hv w4).mono (by decide));rw [wayP] at hS ⊢;obtain ⟨⟨xa,xb,xd⟩,⟨ya,yb,yd⟩⟩:=g;dsimp only at *;have kk1:=hG;have kk2:=amF xa c.x (g4.1.1.mono (by decide)) (hc.1.mono (by decide));have kk3:=amF ya c.y (g4.2.1.mono (by decide)) (hc.2.mono (by decide));have kk4:=azN t b (ht.mono (by decide)) (hb.mono (by decide));have kk5:=hD;have kk6:=hS;refine aad nf isF32 mix (by simp [Tryz.f32]) ?_;rw [azH,azu,azu] at kk1;simp [Tryz.f32,shpA];refine c3 kk1 ?_;simp [shpA];refine e2 kk2 ?_;simp [shpA];refine e2 kk3 ?_;simp [shpA];refine ⟨rfl,?_⟩;refine e2 kk4 ?_;simp [shpA];refine e2 kk5 ?_;simp [shpA];refine e1 kk6 ?_;simp [shpA]
theorem azr {a b:Nat} {x y:NF} (h:okR a x.q) (h':okR b y.q):okR (a+b) (x.mul y).q:=abP h h'
theorem okF_div {a b:Nat} {x y:NF} (h:okR a x.q) (h':okR b y.q):okR (a+b) (x.div y).q:=avH h h'
theorem c_ssign (s:NS) (hs:okN 8000 s):aab Tryz.prog 120 [eNS s] (.int .i64 (sgS s.q)):=by
 have h1:=aod s.a;have h2:=aod s.b;have h3:=aod s.d;have h4:=agO s.a s.a (hs.1.mono (by decide)) (hs.1.mono (by decide));have h5:=agO s.b s.b (hs.2.1.mono (by decide)) (hs.2.1.mono (by decide));have h6:=agO (s.b.mul s.b) s.d ((azr hs.2.1 hs.2.1).mono (by decide)) (hs.2.2.mono (by decide));have h7:=auq (s.a.mul s.a) ((s.b.mul s.b).mul s.d) ((azr hs.1 hs.1).mono (by decide)) ((azr (azr hs.2.1 hs.2.1) hs.2.2).mono (by decide));have q1:sgS s.q=sg3 (sgQ s.a.q) (sgQ s.b.q*sgQ s.d.q) (ordQ (s.a.mul s.a).q ((s.b.mul s.b).mul s.d).q):=rfl;rw [q1];rw [show (if s.a.q<0 then (-1:Int) else if s.a.q=0 then 0 else 1)=sgQ s.a.q from rfl] at h1;rw [show (if s.b.q<0 then (-1:Int) else if s.b.q=0 then 0 else 1)=sgQ s.b.q from rfl] at h2;rw [show (if s.d.q<0 then (-1:Int) else if s.d.q=0 then 0 else 1)=sgQ s.d.q from rfl] at h3;have b1:=azj s.a.q;have b2:=azs (azj s.b.q) (azj s.d.q);have b3:=azt (s.a.mul s.a).q ((s.b.mul s.b).mul s.d).q;have w1:=azp b2;refine aad nf azT mix (by simp [Tryz.f120]) ?_;clear q1;generalize ordQ (s.a.mul s.a).q ((s.b.mul s.b).mul s.d).q=o at *;generalize sgQ s.a.q=x at *;generalize sgQ s.b.q=y1 at *;generalize sgQ s.d.q=y2 at *;have w2:=azp (azs b1 b2);have w3:=azp (azs b1 b3);simp [Tryz.f120,shpA,-aai];rw [aai];simp [-aai,shpA];rw [aai];simp [-aai,shpA];refine e1 h1 ?_;simp [shpA];refine e1 h2 ?_;simp [shpA];refine e1 h3 ?_;simp [shpA,w1];generalize y1*y2=y at *;rw [sg3]
 by_cases c2:x=0
 · subst c2;rw [if_pos (by omega),if_pos rfl];simp [shpA]
 · by_cases c:0≤x*y
   · rw [if_pos c,if_neg c2];simp [c,c2,w2,shpA]
   · rw [if_neg c];simp [c,c2,w2,shpA];refine e2 h4 ?_;simp [shpA];refine e2 h5 ?_;simp [shpA];refine e2 h6 ?_;simp [shpA];refine e2 h7 ?_;simp [shpA,w3]
structure NB where
 a:NV
 b:NV
 d:NF
noncomputable def eNB (n:NB):PV:=.st 171 [eNV n.a,eNV n.b,eF n.d]
@[simp] theorem shp_eNB (n:NB):shp (eNB n)=.agg 171:=rfl
@[simp] theorem flds_eNB (n:NB):flds (eNB n)=[eNV n.a,eNV n.b,eF n.d]:=rfl
theorem azA (a b:NV) (d:NF):eNB ⟨a,b,d⟩=.st 171 [eNV a,eNV b,eF d]:=rfl
def NB.q (n:NB):P4:=⟨⟨n.a.x.q,n.b.x.q,n.d.q⟩,⟨n.a.y.q,n.b.y.q,n.d.q⟩⟩
def okB (k:Nat) (n:NB):Prop:=okU k n.a.q∧okU k n.b.q∧okR k n.d.q
theorem okB.mono {k l:Nat} {n:NB} (h:okB k n) (hl:k≤l):okB l n:=⟨h.1.mono hl,h.2.1.mono hl,h.2.2.mono hl⟩
def NB.sx (n:NB):NS:=⟨n.a.x,n.b.x,n.d⟩
def NB.sy (n:NB):NS:=⟨n.a.y,n.b.y,n.d⟩
def lgP (p:P4):Bool:=lgS p.x || lgS p.y
def azO:PV:=.st 62 [auN,auN]
theorem azQ (n:NB) (h:okB kB n):aab Tryz.prog 118 [eNB n] (if lgP n.q=true then .tup [azO,.int .i64 4] else .tup [eP4 n.q,.int .i64 0]):=by
 have o1:okN kB n.sx:=⟨h.1.1,h.2.1.1,h.2.2⟩
 have o2:okN kB n.sy:=⟨h.1.2,h.2.1.2,h.2.2⟩
 have h1:=aww n.sx o1;have h2:=aww n.sy o2;have h3:=azJ n.sx o1;have h4:=azJ n.sy o2;rw [show n.sx.q=n.q.x from rfl] at h1 h3;rw [show n.sy.q=n.q.y from rfl] at h2 h4;rw [NB.sx,azI] at h1 h3;rw [NB.sy,azI] at h2 h4;refine aad nf azU mix (by simp [Tryz.f118]) ?_;obtain ⟨⟨ax,ay⟩,⟨bx,by'⟩,d⟩:=n;rw [lgP,azO,auN,eP4];generalize (NB.q ⟨⟨ax,ay⟩,⟨bx,by'⟩,d⟩)=p at *;dsimp only at *;clear o1 o2 h;cases hx:lgS p.x
 · cases hy:lgS p.y
   · rw [hx] at h1; rw [hy] at h2;simp [Tryz.f118,shpA,azA,air];refine ⟨by repeat' first | rfl | apply And.intro,?_⟩;refine c1 h1 ?_;simp [shpA];refine c1 h2 ?_;simp [shpA];refine e1 h3 ?_;simp [shpA];refine e1 h4 ?_;simp [shpA]
   · rw [hx] at h1; rw [hy] at h2;simp [Tryz.f118,shpA,azA,air];refine ⟨by repeat' first | rfl | apply And.intro,?_⟩;refine c1 h1 ?_;simp [shpA];refine c1 h2 ?_;simp [shpA]
 · rw [hx] at h1;simp [Tryz.f118,shpA,azA,air];refine ⟨by repeat' first | rfl | apply And.intro,?_⟩;refine c1 h1 ?_;simp [shpA]
theorem azv {a b:Rat} (h:a - b=0):a=b:=by
 have h3:=congrArg (·+b) h
 simpa [Rat.sub_add_cancel,Rat.zero_add] using h3
theorem azP {b t:PlD} (hb:chkP b=0) (ht:chkP t=0) (h:aej b.x b.y t.x t.y=false):((vP b).sub (vP t)).dot ((vP b).sub (vP t))≠0:=by
 obtain ⟨h1,h2⟩:=acr hb;obtain ⟨h3,h4⟩:=acr ht;intro hz;obtain ⟨a,b'⟩:=sq_zero hz;have e1:=azv a;have e2:=azv b';simp only [aej,decide_eq_false_iff_not] at h;apply h;simp only [vP] at e1 e2;exact ⟨by rw [← (aeY h1).1,← (aeY h3).1,e1],by rw [← (aeY h2).1,← (aeY h4).1,e2]⟩
theorem azk {b:Bool} (h:ack b 6=0):b=false:=by
 cases b
 · rfl
 · rw [ack,if_pos rfl] at h; omega
theorem azL (r:Int) (b t:PlD) (hb:okP b) (ht:okP t) (h0:aaw [abw r,chkP b,chkP t,ack (aej b.x b.y t.x t.y) 6]≠0):aab Tryz.prog 29 [.int .i64 r,ePl b,ePl t] (.tup [azO,.int .i64 (aaw [abw r,chkP b,chkP t,ack (aej b.x b.y t.x t.y) 6])]):=by
 have a5:=aeK [abw r,chkP b,chkP t,ack (aej b.x b.y t.x t.y) 6] (by simp);simp only [List.map_cons,List.map_nil] at a5;have kk1:=afO r;have kk2:=abV b hb;have kk3:=abV t ht;have kk4:=ad1 (aej b.x b.y t.x t.y) 6;refine aad nf isF29 mix (by simp [Tryz.f29]) ?_;rw [azO,auN];generalize hE:aaw [abw r,chkP b,chkP t,ack (aej b.x b.y t.x t.y) 6]=e at *;clear hE;obtain ⟨bx,by'⟩:=b;obtain ⟨tx,ty⟩:=t;simp only [ePl] at *;generalize abw r=x1 at *;generalize chkP ⟨bx,by'⟩=x2 at *;generalize chkP ⟨tx,ty⟩=x3 at *;generalize hw:ack (aej bx by' tx ty) 6=x4 at *;simp [Tryz.f29,-aai,shpA];rw [aai];simp [-aai,shpA];rw [aai,aai];simp [-aai,shpA];refine e1 kk1 ?_;simp [shpA];refine e1 kk2 ?_;simp [shpA];refine e1 kk3 ?_;simp [shpA];refine e2 kk4 ?_;simp [shpA];refine ep a5 (by simp; first | exact ⟨rfl,rfl⟩ | rfl) (by simp; first | exact ⟨rfl,rfl⟩ | rfl) ?_;simp [shpA];refine ⟨by repeat' first | rfl | apply And.intro,?_⟩;simp [h0,shpA]
theorem azK (r:Int) (b t:PlD) (hb:okP b) (ht:okP t) (h0:aaw [abw r,chkP b,chkP t,ack (aej b.x b.y t.x t.y) 6]=0) (sb:okU 90 (vP b)) (st:okU 90 (vP t)):aab Tryz.prog 29 [.int .i64 r,ePl b,ePl t] (.tup [eP4 (azl r (vP b) ((vP b).sub (vP t))),.int .i64 0]):=by
 have a5:=aeK [abw r,chkP b,chkP t,ack (aej b.x b.y t.x t.y) 6] (by simp);simp only [List.map_cons,List.map_nil] at a5;have hz:=(adU _).1 h0;have hr:abw r=0:=hz _ (by simp);have hB:chkP b=0:=hz _ (by simp);have hT:chkP t=0:=hz _ (by simp);have hW:ack (aej b.x b.y t.x t.y) 6=0:=hz _ (by simp);have hpc:=azk hW;rw [h0] at a5;have r1:0≤r∧r≤1000000:=by rw [abw] at hr; split at hr <;> omega
 obtain ⟨r1,r2⟩:=r1;have fb:=auo b (acr hB).1 (acr hB).2 hb;have ft:=auo t (acr hT).1 (acr hT).2 ht;have hne:=azP hB hT hpc;have su:okU 181 ((NV.from b).sub (NV.from t)).q:=by rw [NV.ajW]; exact anq (acX sb) (acX st)
 have uq:((NV.from b).sub (NV.from t)).q=(vP b).sub (vP t):=NV.ajW _ _;obtain ⟨u,hue⟩:∃ u,(NV.from b).sub (NV.from t)=u:=⟨_,rfl⟩
 have hS:=ay5 (.from b) (.from t) ((acX sb).mono (by decide)) ((acX st).mono (by decide));rw [hue] at su uq hS;have sd:okR 725 (u.dot u).q:=aba su su;have hd0:(u.dot u).q≠0:=by rw [NV.dot_q,uq]; exact hne
 have two:okR 22 (NF.int (2*r)).q:=azw r1 r2;have sf:okR 747 ((NF.int (2*r)).div (u.dot u)).q:=okF_div two sd;have w1:IntKind.i64.wrap (2*r)=2*r:=wi64 _ (by omega) (by omega);have oB:okB 1800 ⟨NV.from b,u.times ((NF.int (2*r)).div (u.dot u)),u.dot u⟩:=⟨(acX sb).mono (by decide),⟨(azr su.1 sf).mono (by decide),(azr su.2 sf).mono (by decide)⟩,sd.mono (by decide)⟩
 have hP:=azQ ⟨NV.from b,u.times ((NF.int (2*r)).div (u.dot u)),u.dot u⟩ (oB.mono (by decide));have q4:NB.q ⟨NV.from b,u.times ((NF.int (2*r)).div (u.dot u)),u.dot u⟩=azl r (vP b) ((vP b).sub (vP t)):=by
  rw [NB.q,azl,azm,← uq];dsimp only;have c1:∀ x y:Rat,x*y=y*x:=Rat.mul_comm;rw [c1 _ u.q.x,c1 _ u.q.y];rfl
 have hlg:lgP (NB.q ⟨NV.from b,u.times ((NF.int (2*r)).div (u.dot u)),u.dot u⟩)=false:=by
  have l1:lgQ (NV.from b).x.q=false:=azG oB.1.1;have l2:lgQ (NV.from b).y.q=false:=azG oB.1.2;have l3:lgQ (u.times ((NF.int (2*r)).div (u.dot u))).x.q=false:=azG oB.2.1.1;have l4:lgQ (u.times ((NF.int (2*r)).div (u.dot u))).y.q=false:=azG oB.2.1.2;have l5:lgQ (u.dot u).q=false:=azG oB.2.2;rw [lgP,lgS,lgS,NB.q];dsimp only;rw [l1,l2,l3,l4,l5]; rfl
 rw [hlg,if_neg (by decide),q4,azA] at hP;have k1:=c_F (2*r) (by omega) (by omega);have k2:=afL u (su.mono (by decide));have k3:=aza (NF.int (2*r)) (u.dot u) (two.mono (by decide)) (sd.mono (by decide)) hd0;have k4:=awt u ((NF.int (2*r)).div (u.dot u)) (su.mono (by decide)) (sf.mono (by decide));clear q4 hlg oB sf two hd0 sd hne uq hue su hz;generalize azl r (vP b) ((vP b).sub (vP t))=g at *;generalize u.times ((NF.int (2*r)).div (u.dot u))=v1 at *;generalize (NF.int (2*r)).div (u.dot u)=v2 at *;generalize u.dot u=v3 at *;have kk1:=afO r;have kk2:=abV b hb;have kk3:=abV t ht;have kk4:=ad1 (aej b.x b.y t.x t.y) 6;have kk6:=fb;have kk7:=ft;have kk8:=hS;have kk9:=fb;have kk10:=k1;have kk11:=k2;have kk12:=k3;have kk13:=k4;have kk14:=k2;have kk15:=hP;refine aad nf isF29 mix (by simp [Tryz.f29]) ?_;obtain ⟨bx,by'⟩:=b;obtain ⟨tx,ty⟩:=t;simp only [ePl] at *;generalize NV.from ⟨bx,by'⟩=vb at *;generalize NV.from ⟨tx,ty⟩=vt at *;generalize abw r=x1 at *;generalize chkP ⟨bx,by'⟩=x2 at *;generalize chkP ⟨tx,ty⟩=x3 at *;generalize hw:ack (aej bx by' tx ty) 6=x4 at *;simp [Tryz.f29,-aai,shpA,w1];rw [aai];simp [-aai,shpA,w1];rw [aai,aai];simp [-aai,shpA,w1];refine e1 kk1 ?_;simp [shpA,w1];refine e1 kk2 ?_;simp [shpA,w1];refine e1 kk3 ?_;simp [shpA,w1];refine e2 kk4 ?_;simp [shpA,w1];refine ep a5 (by simp; first | exact ⟨rfl,rfl⟩ | rfl) (by simp; first | exact ⟨rfl,rfl⟩ | rfl) ?_;simp [shpA,w1];refine ⟨by repeat' first | rfl | apply And.intro,?_⟩;refine e1 kk6 ?_;simp [shpA,w1];refine e1 kk7 ?_;simp [shpA,w1];refine e2 kk8 ?_;simp [shpA,w1];refine ⟨by repeat' first | rfl | apply And.intro,?_⟩;refine e1 kk9 ?_;simp [shpA,w1];refine e1 kk10 ?_;simp [shpA,w1];refine e1 kk11 ?_;simp [shpA,w1];refine e2 kk12 ?_;simp [shpA,w1];refine e2 kk13 ?_;simp [shpA,w1];refine e1 kk14 ?_;simp [shpA,w1];refine e1 kk15 ?_;simp [shpA,w1]
theorem aAs (r:Int) (c b t:V2) (hz:(b.sub t).dot (b.sub t)≠0):cutS r c b t=⟨(b.sub c).dot (t.sub b),((-2*r:Int):Rat),(t.sub b).dot (t.sub b)⟩:=by
 obtain ⟨cx,cy⟩:=c;obtain ⟨bx,by'⟩:=b;obtain ⟨tx,ty⟩:=t;have e2:((2*r:Int):Rat)=2*(r:Rat):=by rw [Rat.intCast_mul]; rfl
 have e3:((-2*r:Int):Rat) = -2*(r:Rat):=by rw [Rat.intCast_mul]; rfl
 simp only [cutS,P4.dot,wayP,azl,azm,V2.sub,V2.dot,S3.add,S3.times,S3.mk.injEq,e2,e3] at hz ⊢;generalize (r:Rat)=q at *;refine ⟨by grind,?_,by grind⟩;generalize hf:2*q / ((bx - tx)*(bx - tx)+(by' - ty)*(by' - ty))=f
 grind
theorem c_aCut0 (r:Int) (c b t:PlD) (hc:okP c) (hb:okP b) (ht:okP t) (h0:aaw [abw r,chkP c,chkP b,chkP t,ack (aej b.x b.y t.x t.y) 6]≠0):aab Tryz.prog 30 [.int .i64 r,ePl c,ePl b,ePl t] (.tup [.int .i64 0,.int .i64 (aaw [abw r,chkP c,chkP b,chkP t,ack (aej b.x b.y t.x t.y) 6])]):=by
 have a5:=aeK [abw r,chkP c,chkP b,chkP t,ack (aej b.x b.y t.x t.y) 6] (by simp);simp only [List.map_cons,List.map_nil] at a5;have kk1:=afO r;have kk2:=abV c hc;have kk3:=abV b hb;have kk4:=abV t ht;have kk5:=ad1 (aej b.x b.y t.x t.y) 6;refine aad nf isF30 mix (by simp [Tryz.f30]) ?_;generalize hE:aaw [abw r,chkP c,chkP b,chkP t,ack (aej b.x b.y t.x t.y) 6]=e at *;clear hE;obtain ⟨bx,by'⟩:=b;obtain ⟨cx,cy⟩:=c;obtain ⟨tx,ty⟩:=t;simp only [ePl] at *;generalize abw r=x1 at *;generalize chkP ⟨cx,cy⟩=x0 at *;generalize chkP ⟨bx,by'⟩=x2 at *;generalize chkP ⟨tx,ty⟩=x3 at *;generalize hw:ack (aej bx by' tx ty) 6=x4 at *;simp [Tryz.f30,-aai,shpA];rw [aai];simp [-aai,shpA];rw [aai,aai];simp [-aai,shpA];refine e1 kk1 ?_;simp [shpA];refine e1 kk2 ?_;simp [shpA];refine e1 kk3 ?_;simp [shpA];refine e1 kk4 ?_;simp [shpA];refine e2 kk5 ?_;simp [shpA];refine ep a5 (by simp; first | exact ⟨rfl,rfl⟩ | rfl) (by simp; first | exact ⟨rfl,rfl⟩ | rfl) ?_;simp [shpA];refine ⟨by repeat' first | rfl | apply And.intro,?_⟩;simp [h0,shpA]
theorem aAu (r:Int) (c b t:PlD) (hc:okP c) (hb:okP b) (ht:okP t) (h0:aaw [abw r,chkP c,chkP b,chkP t,ack (aej b.x b.y t.x t.y) 6]=0) (sc:okU 200 (vP c)) (sb:okU 200 (vP b)) (st:okU 200 (vP t)):aab Tryz.prog 30 [.int .i64 r,ePl c,ePl b,ePl t] (.tup [.int .i64 (sgS (cutS r (vP c) (vP b) (vP t))),.int .i64 0]):=by
 have a5:=aeK [abw r,chkP c,chkP b,chkP t,ack (aej b.x b.y t.x t.y) 6] (by simp);simp only [List.map_cons,List.map_nil] at a5;have hz:=(adU _).1 h0;have hr:abw r=0:=hz _ (by simp);have hC:chkP c=0:=hz _ (by simp);have hB:chkP b=0:=hz _ (by simp);have hT:chkP t=0:=hz _ (by simp);have hW:ack (aej b.x b.y t.x t.y) 6=0:=hz _ (by simp);have hpc:=azk hW;rw [h0] at a5;have r1:0≤r∧r≤1000000:=by rw [abw] at hr; split at hr <;> omega
 obtain ⟨r1,r2⟩:=r1;have fc:=auo c (acr hC).1 (acr hC).2 hc;have fb:=auo b (acr hB).1 (acr hB).2 hb;have ft:=auo t (acr hT).1 (acr hT).2 ht;have hne:=azP hB hT hpc;have sv:okU 401 ((NV.from t).sub (NV.from b)).q:=by rw [NV.ajW]; exact anq (acX st) (acX sb)
 have sw:okU 401 ((NV.from b).sub (NV.from c)).q:=by rw [NV.ajW]; exact anq (acX sb) (acX sc)
 have hS:=ay5 (.from t) (.from b) ((acX st).mono (by decide)) ((acX sb).mono (by decide));have hS2:=ay5 (.from b) (.from c) ((acX sb).mono (by decide)) ((acX sc).mono (by decide));have hD:=aug ((NV.from b).sub (NV.from c)) ((NV.from t).sub (NV.from b)) (sw.mono (by decide)) (sv.mono (by decide));have hQ:=afL ((NV.from t).sub (NV.from b)) (sv.mono (by decide));have two:okR 22 (NF.int (-2*r)).q:=akh (by omega) (by decide);have w1:IntKind.i64.wrap (-2*r) = -2*r:=wi64 _ (by omega) (by omega);have k1:=c_F (-2*r) (by omega) (by omega);have kS:=c_ssign ⟨((NV.from b).sub (NV.from c)).dot ((NV.from t).sub (NV.from b)),NF.int (-2*r),((NV.from t).sub (NV.from b)).dot ((NV.from t).sub (NV.from b))⟩ ⟨(aba sw sv).mono (by decide),two.mono (by decide),(aba sv sv).mono (by decide)⟩;have q4:NS.q ⟨((NV.from b).sub (NV.from c)).dot ((NV.from t).sub (NV.from b)),NF.int (-2*r),((NV.from t).sub (NV.from b)).dot ((NV.from t).sub (NV.from b))⟩=cutS r (vP c) (vP b) (vP t):=by
  rw [aAs _ _ _ _ hne,NS.q];dsimp only;rw [NV.dot_q,NV.dot_q,NV.ajW,NV.ajW]; rfl
 rw [q4,azI] at kS;clear q4 two sv sw hne hz;generalize sgS (cutS r (vP c) (vP b) (vP t))=g at *;generalize ((NV.from b).sub (NV.from c)).dot ((NV.from t).sub (NV.from b))=v1 at *;generalize ((NV.from t).sub (NV.from b)).dot ((NV.from t).sub (NV.from b))=v2 at *;generalize (NV.from b).sub (NV.from c)=v3 at *;generalize (NV.from t).sub (NV.from b)=v4 at *;have kk1:=afO r;have kk2:=abV c hc;have kk3:=abV b hb;have kk4:=abV t ht;have kk5:=ad1 (aej b.x b.y t.x t.y) 6;have kk7:=ft;have kk8:=fb;have kk9:=hS;have kk10:=fb;have kk11:=fc;have kk12:=hS2;have kk13:=hD;have kk14:=k1;have kk15:=hQ;have kk16:=kS;refine aad nf isF30 mix (by simp [Tryz.f30]) ?_;obtain ⟨bx,by'⟩:=b;obtain ⟨cx,cy⟩:=c;obtain ⟨tx,ty⟩:=t;simp only [ePl] at *;generalize NV.from ⟨bx,by'⟩=vb at *;generalize NV.from ⟨tx,ty⟩=vt at *;generalize NV.from ⟨cx,cy⟩=vc at *;generalize abw r=x1 at *;generalize chkP ⟨cx,cy⟩=x0 at *;generalize chkP ⟨bx,by'⟩=x2 at *;generalize chkP ⟨tx,ty⟩=x3 at *;generalize hw:ack (aej bx by' tx ty) 6=x4 at *;simp [Tryz.f30,-aai,shpA,w1];rw [aai];simp [-aai,shpA,w1];rw [aai,aai];simp [-aai,shpA,w1];refine e1 kk1 ?_;simp [shpA,w1];refine e1 kk2 ?_;simp [shpA,w1];refine e1 kk3 ?_;simp [shpA,w1];refine e1 kk4 ?_;simp [shpA,w1];refine e2 kk5 ?_;simp [shpA,w1];refine ep a5 (by simp; first | exact ⟨rfl,rfl⟩ | rfl) (by simp; first | exact ⟨rfl,rfl⟩ | rfl) ?_;simp [shpA,w1];refine ⟨by repeat' first | rfl | apply And.intro,?_⟩;refine e1 kk7 ?_;simp [shpA,w1];refine e1 kk8 ?_;simp [shpA,w1];refine e2 kk9 ?_;simp [shpA,w1];refine ⟨by repeat' first | rfl | apply And.intro,?_⟩;refine e1 kk10 ?_;simp [shpA,w1];refine e1 kk11 ?_;simp [shpA,w1];refine e2 kk12 ?_;simp [shpA,w1];refine e2 kk13 ?_;simp [shpA,w1];refine e1 kk14 ?_;simp [shpA,w1];refine e1 kk15 ?_;simp [shpA,w1];refine e1 kk16 ?_;simp [shpA,w1]
theorem azn (e:Int):∀ l:List Int,aaw (l ++ [e])=if aaw l=0 then e else aaw l
 | []=>by by_cases h:e=0 <;> simp [aaw,h]
 | x::l=>by
  simp only [List.cons_append,aaw,azn e l]
  by_cases hx:x=0
  · simp [hx]
  · simp [hx]
@[simp] theorem eo_p4:eqOk Tryz.prog 68=true:=by kernel_rfl
theorem so_p4:Tryz.prog.stoodInHeld 68=false:=by kernel_rfl
theorem azz {n:Nat} {a b c d e f:List Nat}:eqT Tryz.prog (n+2) 32 (.st 31 [.str a,.str b,.str c]) (.st 31 [.str d,.str e,.str f])=some (amY a b c d e f):=by
 have hu:=Tryz.underlying32;have:((a == d) && ((b == e) && ((c == f) && true)))=amY a b c d e f:=by
  rw [amY,Bool.eq_iff_iff]; simp
 rw [← this];simp [eqT,hu,so_surd,eqTs,shp]
@[simp] theorem eq_p4 {a b c d e f a' b' c' d' e' f':List Nat}:eqT Tryz.prog 9 68 (.st 62 [.st 31 [.str a,.str b,.str c],.st 31 [.str d,.str e,.str f]]) (.st 62 [.st 31 [.str a',.str b',.str c'],.st 31 [.str d',.str e',.str f']])=some (amY a b c a' b' c' && amY d e f d' e' f'):=by
 have hu:=Tryz.underlying68;have h1:=azz (n:=6) (a:=a) (b:=b) (c:=c) (d:=a') (e:=b') (f:=c');have h2:=azz (n:=6) (a:=d) (b:=e) (c:=f) (d:=d') (e:=e') (f:=f');rw [show (6+2:Nat)=8 from rfl] at h1 h2;rw [eqT]
 case heq=>exact hu
 simp [so_p4,eqTs,h1,h2,shp]
theorem c_law5 (haw : aab Tryz.prog 10 [] (.bool true)) (r : Int) (p d b : PlD) (hp : okP p) (hd : okP d) (hb : okP b) :
    aab Tryz.prog 5 [.int .i64 r,.st 25 [ePl p,ePl d,ePl b]] (.bool true):=by
 have s1:=aob p hp;have s2:=aob d hd;have s3:=aob b hb;refine aad nf isF5 mix (by simp [Tryz.f5]) ?_;rcases hs1:aht p with _ | _
 · rw [hs1] at s1;simp [Tryz.f5,shpA];refine c1 s1 ?_;simp [shpA];refine c0 haw ?_;simp
 rw [hs1] at s1;rcases hs2:aht d with _ | _
 · rw [hs2] at s2;simp [Tryz.f5,shpA];refine c1 s1 ?_;simp [shpA];refine c1 s2 ?_;simp [shpA];refine c0 haw ?_;simp
 rw [hs2] at s2;rcases hs3:aht b with _ | _
 · rw [hs3] at s3;simp [Tryz.f5,shpA];refine c1 s1 ?_;simp [shpA];refine c1 s2 ?_;simp [shpA];refine c1 s3 ?_;simp [shpA];refine c0 haw ?_;simp
 rw [hs3] at s3;have w:aej d.x d.y b.x b.y=true∨aej d.x d.y b.x b.y=false:=by cases aej d.x d.y b.x b.y <;> simp
 obtain ⟨ga, gb, gd, ha, hb', hd', eg, hG, hGc⟩ : ∃ ga gb gd ha hb' hd' eg, aab Tryz.prog 29 [.int .i64 r, ePl d, ePl b] (.tup [.st 62 [.st 31 [.str ga, .str gb, .str gd], .st 31 [.str ha, .str hb', .str hd']], .int .i64 eg]) ∧ eg = aaw [abw r, chkP d, chkP b, ack (aej d.x d.y b.x b.y) 6] ∧
     ((eg≠0∧ga=[]∧gb=[]∧gd=[]∧ha=[]∧hb'=[]∧hd'=[]) ∨
      (eg=0∧aab Tryz.prog 31 [.int .i64 r,ePl d,ePl b] (.st 62 [.st 31 [.str ga,.str gb,.str gd],.st 31 [.str ha,.str hb',.str hd']]))):=by
  by_cases h0:aaw [abw r,chkP d,chkP b,ack (aej d.x d.y b.x b.y) 6]=0
  · have hz:=(adU _).1 h0;have hr:abw r=0:=hz _ (by simp);have hD:chkP d=0:=hz _ (by simp);have hB:chkP b=0:=hz _ (by simp);have hW:ack (aej d.x d.y b.x b.y) 6=0:=hz _ (by simp);have r1:0≤r∧r≤1000000:=by rw [abw] at hr; split at hr <;> omega
    have bd:=ajY hs2 hD;have bb:=ajY hs3 hB;have ep:∀ x:PlD,chkP x=0→ePl x=eV (vP x):=fun x hx=>by
     obtain ⟨g1,g2⟩:=acr hx;rw [eV,vP];dsimp only;rw [(aeY g1).1,(aeY g2).1]
    have hC:=azK r d b hd hb h0 (bd.mono (by decide)) (bb.mono (by decide));have hR:=azC r (vP d) (vP b) r1.1 r1.2 (bd.mono (by decide)) (bb.mono (by decide)) (azP hD hB (azk hW));rw [← ep d hD,← ep b hB] at hR;exact ⟨_,_,_,_,_,_,0,hC,h0.symm,.inr ⟨rfl,hR⟩⟩
  · exact ⟨[],[],[],[],[],[],_,azL r d b hd hb h0,rfl,.inl ⟨h0,rfl,rfl,rfl,rfl,rfl,rfl⟩⟩
 obtain ⟨n, ec, hK, hKe, hKc⟩ : ∃ n ec, aab Tryz.prog 30 [.int .i64 r, ePl p, ePl d, ePl b] (.tup [.int .i64 n, .int .i64 ec]) ∧ ec = aaw [abw r, chkP p, chkP d, chkP b, ack (aej d.x d.y b.x b.y) 6] ∧
     ((ec≠0∧n=0)∨(ec=0∧aab Tryz.prog 32 [.int .i64 r,ePl p,ePl d,ePl b] (.int .i64 n))):=by
  by_cases h0:aaw [abw r,chkP p,chkP d,chkP b,ack (aej d.x d.y b.x b.y) 6]=0
  · have hz:=(adU _).1 h0;have hr:abw r=0:=hz _ (by simp);have hP:chkP p=0:=hz _ (by simp);have hD:chkP d=0:=hz _ (by simp);have hB:chkP b=0:=hz _ (by simp);have hW:ack (aej d.x d.y b.x b.y) 6=0:=hz _ (by simp);have r1:0≤r∧r≤1000000:=by rw [abw] at hr; split at hr <;> omega
    have bp:=ajY hs1 hP;have bd:=ajY hs2 hD;have bb:=ajY hs3 hB;have ep:∀ x:PlD,chkP x=0→ePl x=eV (vP x):=fun x hx=>by
     obtain ⟨g1,g2⟩:=acr hx;rw [eV,vP];dsimp only;rw [(aeY g1).1,(aeY g2).1]
    have hC:=aAu r p d b hp hd hb h0 (bp.mono (by decide)) (bd.mono (by decide)) (bb.mono (by decide));have hR:=c_CutR r (vP p) (vP d) (vP b) r1.1 r1.2 (bp.mono (by decide)) (bd.mono (by decide)) (bb.mono (by decide)) (azP hD hB (azk hW));rw [← ep p hP,← ep d hD,← ep b hB] at hR;exact ⟨_,0,hC,h0.symm,.inr ⟨rfl,hR⟩⟩
  · exact ⟨0,_,c_aCut0 r p d b hp hd hb h0,rfl,.inl ⟨h0,rfl⟩⟩
 have r1:=aja r;have r2:=acB p hp;have r3:=acB d hd;have r4:=acB b hb;have r5:=awy [abw r,chkP d,chkP b] (by simp);have r6:=awy [abw r,chkP p,chkP d,chkP b] (by simp);have r7:=awy [aaw [abw r,chkP p,chkP d,chkP b],6] (by simp);simp only [List.map_cons,List.map_nil] at r5 r6 r7;have e1':aaw [abw r,chkP d,chkP b,ack (aej d.x d.y b.x b.y) 6]=if aaw [abw r,chkP d,chkP b]=0 then ack (aej d.x d.y b.x b.y) 6 else aaw [abw r,chkP d,chkP b]:=azn _ [abw r,chkP d,chkP b]
 have e2':aaw [abw r,chkP p,chkP d,chkP b,ack (aej d.x d.y b.x b.y) 6]=if aaw [abw r,chkP p,chkP d,chkP b]=0 then ack (aej d.x d.y b.x b.y) 6 else aaw [abw r,chkP p,chkP d,chkP b]:=azn _ [abw r,chkP p,chkP d,chkP b]
 have e3':aaw [aaw [abw r,chkP p,chkP d,chkP b],6]=if aaw [abw r,chkP p,chkP d,chkP b]=0 then 6 else aaw [abw r,chkP p,chkP d,chkP b]:=by
  generalize aaw [abw r,chkP p,chkP d,chkP b]=o
  by_cases h:o=0 <;> simp [aaw,h]
 have e4':aaw [abw r,chkP d,chkP b]≠0→aaw [abw r,chkP p,chkP d,chkP b]≠0:=fun h hh=>h ((adU _).2 fun e he=>(adU _).1 hh e (by simp at he ⊢; omega));rw [e1'] at hGc;rw [e2'] at hKe;rw [e3'] at r7;clear e1' e2' e3';generalize aaw [abw r,chkP d,chkP b]=o1 at *;generalize aaw [abw r,chkP p,chkP d,chkP b]=o2 at *;generalize abw r=x1 at *;generalize chkP p=x2 at *;generalize chkP d=x3 at *;generalize chkP b=x4 at *;have sc0:amY [] [] [] [] [] []=true:=by simp [amY]
 have sc1:amY ga gb gd ga gb gd=true:=by simp [amY]
 have sc2:amY ha hb' hd' ha hb' hd'=true:=by simp [amY]
 obtain ⟨dx,dy⟩:=d;obtain ⟨bx,by'⟩:=b;simp only [ePl] at *;generalize hpc:aej dx dy bx by'=pc at *
 obtain ⟨hge,hGc⟩:=hGc;simp [Tryz.f5,shpA,-aai];rw [aai];simp [-aai,shpA];rw [aai,aai];simp [-aai,shpA];refine c1 s1 ?_;simp [shpA,-aai];refine c1 s2 ?_;simp [shpA,-aai];refine c1 s3 ?_;simp [shpA,-aai];rw [aai];simp [shpA,-aai];refine c3 hG ?_;simp [shpA,-aai];rw [aai];simp [shpA,-aai];refine c4 hK ?_;simp [shpA,-aai];rw [aai];simp [shpA,-aai];refine e1 r1 ?_;simp [shpA,-aai];refine e1 r3 ?_;simp [shpA,-aai];refine e1 r4 ?_;simp [shpA,-aai];refine ep r5 (by simp; first | exact ⟨rfl,rfl⟩ | rfl) (by simp; first | exact ⟨rfl,rfl⟩ | rfl) ?_;simp [shpA,-aai];refine ⟨by repeat' first | rfl | apply And.intro,?_⟩;rw [aai];simp [shpA,-aai];refine e1 r1 ?_;simp [shpA,-aai];refine e1 r2 ?_;simp [shpA,-aai];refine e1 r3 ?_;simp [shpA,-aai];refine e1 r4 ?_;simp [shpA,-aai];refine ep r6 (by simp; first | exact ⟨rfl,rfl⟩ | rfl) (by simp; first | exact ⟨rfl,rfl⟩ | rfl) ?_;simp [shpA,-aai];refine ⟨by repeat' first | rfl | apply And.intro,?_⟩;clear r1 r2 r3 r4 r5 r6 s1 s2 s3 hG hK
 by_cases h1:o1=0
 · subst h1;cases pc
   ·
    simp only [ack,Bool.false_eq_true,if_false,if_true,ite_self] at hge hKe;have hKe':ec=o2:=by rw [hKe]; split <;> omega
    subst hge; subst hKe';rcases hGc with ⟨h,_⟩ | ⟨_,hGR⟩
    · exact (h rfl).elim
    rcases hKc with ⟨h,rfl⟩ | ⟨h,hCR⟩
    · simp [hpc,h,shpA];refine Go.Abs.c3 hGR ?_;simp [h,sc1,sc2,shpA];refine Go.Abs.c0 haw ?_;simp
    · subst h;simp [hpc,shpA];refine Go.Abs.c3 hGR ?_;simp [shpA];refine Go.Abs.c4 hCR ?_;simp [sc1,sc2,shpA];refine Go.Abs.c0 haw ?_;simp
   · simp only [ack,if_true] at hge hKe;rw [← hKe] at r7;subst hge;rcases hGc with ⟨h,rfl,rfl,rfl,rfl,rfl,rfl⟩ | ⟨h,_⟩
     · have hec:ec≠0:=by rw [hKe]; split <;> omega
       rcases hKc with ⟨_,rfl⟩ | ⟨h,_⟩
       · simp [hpc,shpA];refine cp r7 (by simp; first | exact ⟨rfl,rfl⟩ | rfl) ?_;simp [hec,sc0,shpA];refine Go.Abs.c0 haw ?_;simp
       · exact (hec h).elim
     · omega
 · rw [if_neg h1] at hge;have h2:=e4' h1;rw [if_neg h2] at hKe;subst hge; subst hKe;rcases hGc with ⟨_,rfl,rfl,rfl,rfl,rfl,rfl⟩ | ⟨h,_⟩
   · rcases hKc with ⟨_,rfl⟩ | ⟨h,_⟩
     · simp [h1,h2,sc0,shpA];refine Go.Abs.c0 haw ?_;simp
     · exact (h2 h).elim
   · exact (h1 h).elim
theorem aAC {n:Nat} (h:n<10 ^ 80):txQ ((n:Nat):Rat)=Hk.txF n:=by
 rw [Hk.arG h,txQ,if_pos (by rfl),txI,if_neg (by show ¬ ((n:Int)<0); omega)]; rfl
theorem tx_2:txQ 2=[50]:=aAC (n:=2) (by decide)
theorem tx_13:txQ 10000000000000=[49,48,48,48,48,48,48,48,48,48,48,48,48,48]:=aAC (n:=10000000000000) (by decide)
def ordS (s t:S3):Int:=sg3 (sgS ⟨s.a - t.a,s.b,s.d⟩) (-(sgQ t.b*sgQ t.d)) (sgS ⟨(s.a - t.a)*(s.a - t.a)+s.b*s.b*s.d - t.b*t.b*t.d,2*((s.a - t.a)*s.b),s.d⟩)
def okO (s:S3):Prop:=okR 600 s.a∧okR 600 s.b∧okR 1200 s.d
theorem aAF {a:Int} (h:a = -1∨a=0∨a=1):-a = -1∨-a=0∨-a=1:=by omega
theorem okR_2:okR 2 (2:Rat):=⟨by decide,by decide⟩
theorem aAg (s t:S3) (hs:okO s) (ht:okO t):aab Tryz.prog 154 [eS s,eS t] (.int .i64 (ordS s t)):=by
 have hp:=adL hs.1 ht.1;have h1:=amF s.a t.a (hs.1.mono (by decide)) (ht.1.mono (by decide));have h2:=azD ⟨s.a - t.a,s.b,s.d⟩ ⟨hp.mono (by decide),hs.2.1.mono (by decide),hs.2.2.mono (by decide)⟩;have h3:=akQ t.b (ht.2.1.mono (by decide));have h4:=akQ t.d (ht.2.2.mono (by decide));have k1:=amG (s.a - t.a) (s.a - t.a) (hp.mono (by decide)) (hp.mono (by decide));have k2:=amG s.b s.b (hs.2.1.mono (by decide)) (hs.2.1.mono (by decide));have k3:=amG (s.b*s.b) s.d ((abP hs.2.1 hs.2.1).mono (by decide)) (hs.2.2.mono (by decide));have o1:=asU (abP hp hp) (abP (abP hs.2.1 hs.2.1) hs.2.2);have k4:=azc ((s.a - t.a)*(s.a - t.a)) (s.b*s.b*s.d) ((abP hp hp).mono (by decide)) ((abP (abP hs.2.1 hs.2.1) hs.2.2).mono (by decide));have o2:=abP hp hs.2.1;have k5:=amG (s.a - t.a) s.b (hp.mono (by decide)) (hs.2.1.mono (by decide));have k6:=amG 2 ((s.a - t.a)*s.b) (okR_2.mono (by decide)) (o2.mono (by decide));rw [tx_2] at k6;have k7:=amG t.b t.b (ht.2.1.mono (by decide)) (ht.2.1.mono (by decide));have k8:=amG (t.b*t.b) t.d ((abP ht.2.1 ht.2.1).mono (by decide)) (ht.2.2.mono (by decide));have o3:=abP (abP ht.2.1 ht.2.1) ht.2.2;have k9:=amF ((s.a - t.a)*(s.a - t.a)+s.b*s.b*s.d) (t.b*t.b*t.d) (o1.mono (by decide)) (o3.mono (by decide));have k10:=azD ⟨(s.a - t.a)*(s.a - t.a)+s.b*s.b*s.d - t.b*t.b*t.d,2*((s.a - t.a)*s.b),s.d⟩ ⟨(adL o1 o3).mono (by decide),(abP okR_2 o2).mono (by decide),hs.2.2.mono (by decide)⟩;have b1:=az5 ⟨s.a - t.a,s.b,s.d⟩;have b2:=azs (azj t.b) (azj t.d);have b3:=az5 ⟨(s.a - t.a)*(s.a - t.a)+s.b*s.b*s.d - t.b*t.b*t.d,2*((s.a - t.a)*s.b),s.d⟩;have w1:=azp b2;refine aad nf aAH mix (by simp [Tryz.f154]) ?_;rw [ordS];generalize sgS ⟨(s.a - t.a)*(s.a - t.a)+s.b*s.b*s.d - t.b*t.b*t.d,2*((s.a - t.a)*s.b),s.d⟩=o at *;generalize sgS ⟨s.a - t.a,s.b,s.d⟩=x at *;generalize sgQ t.b=y1 at *;generalize sgQ t.d=y2 at *;rw [azu] at h2 k10;clear o1 o2 o3 hp;have w2:=azp (aAF b2);have w3:=azp (azs b1 (aAF b2));have w4:=azp (azs b1 b3);have hw0:IntKind.i64.wrap 0=0:=by decide
 simp [Tryz.f154,shpA,-aai];rw [aai];simp [-aai,shpA];rw [aai];simp [-aai,shpA];refine e2 h1 ?_;simp [shpA,-aai];refine ⟨by repeat' first | rfl | apply And.intro,?_⟩;rw [aai];simp [shpA,-aai];refine e1 h2 ?_;simp [shpA,-aai];refine e1 h3 ?_;simp [shpA,-aai];refine e1 h4 ?_;simp [shpA,w1,w2];generalize -(y1*y2)=y at *;rw [sg3]
 by_cases c:0≤x*y
 · rw [if_pos c]
   by_cases c2:x=0
   · subst c2;simp [hw0,shpA]
   · rw [if_neg c2];simp [c,c2,w3,shpA]
 · rw [if_neg c];simp [c,w3,shpA];refine e2 k1 ?_;simp [shpA];refine e2 k2 ?_;simp [shpA];refine e2 k3 ?_;simp [shpA];refine e2 k4 ?_;simp [shpA];refine e2 k5 ?_;simp [shpA];refine e2 k6 ?_;simp [shpA];refine ⟨by repeat' first | rfl | apply And.intro,?_⟩;refine e2 k7 ?_;simp [shpA];refine e2 k8 ?_;simp [shpA];refine e2 k9 ?_;simp [shpA];refine ⟨by repeat' first | rfl | apply And.intro,?_⟩;refine c1 k10 ?_;simp [shpA,w4]
theorem az7 {q:Rat} {k:Nat} (h:okR k q) (hk:k≤1800):okS (txQ q)∧chk (txQ q)=0:=by
 have h1:(txN q.num.natAbs).length≤600:=azg (K:=1800) (k:=600) (h.mono hk).1 (by decide) (by decide);have h2:(txN q.den).length≤600:=azg (K:=1800) (k:=600) (h.mono hk).2 (by decide) (by decide);have h3:=aAj q;exact ⟨⟨by omega,fun c hc=>Nat.lt_trans (aAz q c hc) (by decide)⟩,chk_txQ h1 h2⟩
theorem aAE:txQ 0=[48]:=ahl
theorem az0 (s:S3) (hs:ok3 1800 s):aab Tryz.prog 153 [eS s] (.int .i64 (if sgQ s.d<0 then 3 else 0)):=by
 obtain ⟨a1,a2⟩:=az7 hs.1 (Nat.le_refl _);obtain ⟨b1,b2⟩:=az7 hs.2.1 (Nat.le_refl _);obtain ⟨d1,d2⟩:=az7 hs.2.2 (Nat.le_refl _);have h1:=aoj [txQ s.a,txQ s.b,txQ s.d] (by simp) (by intro x hx; simp at hx; rcases hx with rfl | rfl | rfl <;> assumption);have h2:=akQ s.d (hs.2.2.mono (by decide));simp only [List.map_cons,List.map_nil,a2,b2,d2,aaw,if_true] at h1;refine aad nf aAI mix (by simp [Tryz.f153]) ?_;clear a1 a2 b1 b2 d1 d2 hs;generalize sgQ s.d=x at *;simp [Tryz.f153,shpA,-aai];rw [aai];simp [-aai,shpA];rw [aai];simp [-aai,shpA];refine cp h1 (by simp; first | exact ⟨rfl,rfl⟩ | rfl) ?_
 by_cases c:x<0
 · simp [c,shpA];refine c1 h2 ?_;simp [c,shpA]
 · simp [c,shpA];refine c1 h2 ?_;simp [c,shpA]
theorem az8 (x:Rat) (s:S3) (hx:okR 8000 x) (hs:ok3 8000 s):aab Tryz.prog 55 [.str (txQ x),eS s] (eS (S3.times x s)):=by
 have kk1:=amG x s.a (hx.mono (by decide)) (hs.1.mono (by decide));have kk2:=amG x s.b (hx.mono (by decide)) (hs.2.1.mono (by decide));refine aad nf isF55 mix (by simp [Tryz.f55]) ?_;rw [S3.times,azu];simp [Tryz.f55,shpA];refine e2 kk1 ?_;simp [shpA];refine e2 kk2 ?_;simp [shpA]
def P4.azX (p:P4):S3:=(p.x.mul p.x).add (p.y.mul p.y)
theorem aAt (p:P4) (hp:ok4 1500 p):aab Tryz.prog 58 [eP4 p] (eS p.azX):=by
 have kk1:=az9 p.x p.x (hp.1.mono (by decide)) (hp.1.mono (by decide));have kk2:=az9 p.y p.y (hp.2.mono (by decide)) (hp.2.mono (by decide));have kk3:=azM (p.x.mul p.x) (p.y.mul p.y) ((aAr hp.1 hp.1).mono (by decide)) ((aAr hp.2 hp.2).mono (by decide));refine aad nf isF58 mix (by simp [Tryz.f58]) ?_;rw [P4.azX];simp [Tryz.f58,shpA];refine e2 kk1 ?_;simp [shpA];refine e2 kk2 ?_;simp [shpA];refine e2 kk3 ?_;simp [shpA]
theorem c_lis (s:S3) (x:Rat) (hs:okO s) (hx:okR 600 x):aab Tryz.prog 57 [eS s,.str (txQ x)] (.bool (decide (ordS s ⟨x,0,0⟩=0))):=by
 have z:okR 1 (0:Rat):=⟨by decide,by decide⟩
 have h:=aAg s ⟨x,0,0⟩ hs ⟨hx,z.mono (by decide),z.mono (by decide)⟩;rw [azu x 0 0,aAE] at h;refine aad nf isF57 mix (by simp [Tryz.f57]) ?_;generalize ordS s ⟨x,0,0⟩=o at *;simp [Tryz.f57,shpA];refine c2 h ?_
 by_cases c:o=0 <;> simp [c,shpA]
theorem c_lfine (p:P4) (hp:ok4 1800 p) (h1:0≤sgQ p.x.d) (he:p.y.d=p.x.d):aab Tryz.prog 52 [eP4 p] (.bool true):=by
 have k1:=az0 p.x hp.1;have k2:=az0 p.y hp.2;rw [he] at k2;rw [if_neg (by omega)] at k1 k2;refine aad nf isF52 mix (by simp [Tryz.f52]) ?_;simp [Tryz.f52,shpA];refine c1 k1 ?_;simp [shpA];refine c1 k2 ?_;simp [shpA,he]
theorem aAD {q:Rat} {N:Nat} (h:q≠0) (hd:q.den≤N):1≤q*q*(((N*N:Nat)):Rat):=by
 have e:q*(q.den:Rat)=(q.num:Rat):=by
  have h1:(Rat.divInt q.num q.den:Rat)=q:=Rat.num_divInt_den q;rw [Rat.divInt_eq_div] at h1;have hz:((q.den:Int):Rat)≠0:=by
   intro hz;have:=q.den_nz;have h2:(q.den:Int)=0:=by
    have:=congrArg Rat.num hz;simpa using this
   omega
  have h3:((q.den:Int):Rat)=(q.den:Rat):=rfl;rw [h3] at h1 hz
  grind
 have hn:q.num≠0:=fun e=>h (Rat.num_eq_zero.1 e);have h1:(1:Int)≤q.num*q.num:=by
  have:0<q.num.natAbs*q.num.natAbs:=Nat.mul_pos (by omega) (by omega);rw [← Int.natAbs_mul] at this;have h2:0≤q.num*q.num:=by
   rcases Int.le_total 0 q.num with h | h
   · exact Int.mul_nonneg h h
   · exact Int.mul_nonneg_of_nonpos_of_nonpos h h
  omega
 have h2:(1:Rat)≤(q.num:Rat)*(q.num:Rat):=by
  have:=Rat.intCast_le_intCast.2 h1;rw [Rat.intCast_mul] at this; exact this
 have h3:((q.den*q.den:Nat):Rat)≤((N*N:Nat):Rat):=Rat.natCast_le_natCast.2 (Nat.mul_le_mul hd hd);have h4:0≤q*q:=sq_nonneg q;have h5:=Rat.mul_le_mul_of_nonneg_left h3 h4;have h6:q*q*((q.den*q.den:Nat):Rat)=(q.num:Rat)*(q.num:Rat):=by
  rw [Rat.natCast_mul,← e]; grind
 rw [h6] at h5;exact Rat.le_trans h2 h5
theorem azY {q:Rat} (h:0<q):sgQ q=1:=by
 rw [sgQ,if_neg (by grind),if_neg (by grind)]
theorem aAc {q:Rat} (h:q<0):sgQ q = -1:=by rw [sgQ,if_pos h]
theorem sgQ_0:sgQ 0=0:=by decide
theorem ordQ_gt {x y:Rat} (h:y<x):ordQ x y=1:=by
 rw [ordQ,if_neg (by grind),if_neg (by grind)]
theorem aAo {s:S3} {x:Rat} (ha:s.a=x) (hb:s.b=0):ordS s ⟨x,0,0⟩=0:=by
 have h:sgS ⟨s.a - x,s.b,s.d⟩=0:=by
  rw [sgS,ha,hb];dsimp only;rw [Rat.sub_self,sgQ_0,Int.zero_mul,sg3];rfl
 rw [ordS];dsimp only;rw [h,sgQ_0,sg3];rfl
theorem az4 {u:V2} (h:u.dot u≠0):0<u.dot u:=by
 have h1:=sq_nonneg u.x;have h2:=sq_nonneg u.y;rw [V2.dot] at h ⊢
 grind
theorem dot_low {u:V2} (hk:okU 41 u) (h:u.dot u≠0):1≤u.dot u*4835703278458516698824704:=by
 have h1:=sq_nonneg u.x;have h2:=sq_nonneg u.y;have e:((2199023255552*2199023255552:Nat):Rat)=4835703278458516698824704:=rfl;rw [V2.dot] at h ⊢
 by_cases hx:u.x=0
 · have hy:u.y≠0:=fun hy=>by rw [hx,hy] at h; exact h (by grind)
   have:=aAD (N:=2199023255552) hy (Nat.le_of_lt hk.2.2);rw [e] at this
   grind
 · have:=aAD (N:=2199023255552) hx (Nat.le_of_lt hk.1.2);rw [e] at this
   grind
def wayG (r:Int) (b u:V2):P4:=wayP (azl r b u) b
def azZ (r:Int) (b u:V2):V2:=(b.add u).add (u.mul (((2*r:Int):Rat)*10000000000000))
theorem two_r (r:Int):((2*r:Int):Rat)=2*(r:Rat):=by rw [Rat.intCast_mul]; rfl
theorem az2 (r:Int) (b u:V2) (h:u.dot u≠0):(wayG r b u).azX.a=afF r:=by
 have e1:afF r=4*(r:Rat)*(r:Rat):=by
  rw [afF,Rat.intCast_mul,Rat.intCast_mul]; rfl
 rw [e1];simp only [P4.azX,wayG,wayP,azl,azm,S3.add,S3.mul,two_r,V2.dot] at h ⊢;generalize hf:2*(r:Rat) / (u.x*u.x+u.y*u.y)=f;have hf2:f*(u.x*u.x+u.y*u.y)=2*(r:Rat):=by grind
 grind
theorem az1 (r:Int) (b u:V2):(wayG r b u).azX.b=0:=by
 simp only [P4.azX,wayG,wayP,azl,S3.add,S3.mul]
 grind
theorem azV (r:Int) (b u:V2):((S3.times u.y (wayG r b u).x).add (S3.times (-u.x) (wayG r b u).y)).a=0∧((S3.times u.y (wayG r b u).x).add (S3.times (-u.x) (wayG r b u).y)).b=0:=by
 refine ⟨?_,?_⟩
 · simp only [wayG,wayP,azl,S3.add,S3.times]
   grind
 · simp only [wayG,wayP,azl,S3.add,S3.times]
   grind
theorem aAB (r:Int) (b u:V2) (h:u.dot u≠0):ordS (wayG r b u).azX ⟨afF r,0,0⟩=0:=aAo (az2 r b u h) (az1 r b u)
theorem aAh (r:Int) (b u:V2):ordS ((S3.times u.y (wayG r b u).x).add (S3.times (-u.x) (wayG r b u).y)) ⟨0,0,0⟩=0:=aAo (azV r b u).1 (azV r b u).2
theorem aAy (r:Int) (b u:V2) (hr:0<r) (h:u.dot u≠0):sgS (P4.dot u (wayG r b u))=1:=by
 have hr':(0:Rat)<(r:Rat):=by
  have:=Rat.intCast_le_intCast.2 (show (1:Int)≤r by omega);have h1:(0:Rat)<((1:Int):Rat):=by decide
  grind
 have hp:=az4 h;have ha:(P4.dot u (wayG r b u)).a=0:=by
  simp only [wayG,wayP,azl,P4.dot,S3.add,S3.times]; grind
 have hb:(P4.dot u (wayG r b u)).b=2*(r:Rat):=by
  simp only [wayG,wayP,azl,azm,P4.dot,S3.add,S3.times,two_r,V2.dot] at h ⊢;generalize hf:2*(r:Rat) / (u.x*u.x+u.y*u.y)=f
  grind
 have hd:(P4.dot u (wayG r b u)).d=u.dot u:=rfl;rw [sgS,ha,hb,hd,sgQ_0,azY hp,azY (by grind),sg3];rfl
theorem aAi (r:Int) (b t:V2) (hr:0<r) (h:(b.sub t).dot (b.sub t)≠0):sgS (cutS r t b t) = -1:=by
 have hr':(0:Rat)<(r:Rat):=by
  have:=Rat.intCast_le_intCast.2 (show (1:Int)≤r by omega);have h1:(0:Rat)<((1:Int):Rat):=by decide
  grind
 have hp:=az4 h;have e3:((-2*r:Int):Rat) = -2*(r:Rat):=by rw [Rat.intCast_mul]; rfl
 have e1:(b.sub t).dot (t.sub b) = -((b.sub t).dot (b.sub t)):=by simp only [V2.sub,V2.dot]; grind
 have e2:(t.sub b).dot (t.sub b)=(b.sub t).dot (b.sub t):=by simp only [V2.sub,V2.dot]; grind
 rw [aAs _ _ _ _ h,sgS];dsimp only;rw [e1,e2,e3];generalize (b.sub t).dot (b.sub t)=D at *;rw [aAc (by grind),aAc (by grind),azY hp,sg3];rfl
theorem aAx (r:Int) (b t:V2) (hr:0<r) (hk:okU 41 (b.sub t)) (h:(b.sub t).dot (b.sub t)≠0):sgS (cutS r (azZ r b (b.sub t)) b t)=1:=by
 have hr':(1:Rat)≤(r:Rat):=Rat.intCast_le_intCast.2 (show (1:Int)≤r by omega);have hp:=az4 h;have hl:=dot_low hk h;have e3:((-2*r:Int):Rat) = -2*(r:Rat):=by rw [Rat.intCast_mul]; rfl
 have e1:(b.sub (azZ r b (b.sub t))).dot (t.sub b)=(1+2*(r:Rat)*10000000000000)*((b.sub t).dot (b.sub t)):=by
  simp only [azZ,V2.sub,V2.dot,V2.add,V2.mul,two_r]; grind
 have e2:(t.sub b).dot (t.sub b)=(b.sub t).dot (b.sub t):=by simp only [V2.sub,V2.dot]; grind
 rw [aAs _ _ _ _ h,sgS];dsimp only;rw [e1,e2,e3];generalize (b.sub t).dot (b.sub t)=D at *;generalize (r:Rat)=q at *;have hq:0<q:=by grind
 have p1:0<(1+2*q*10000000000000)*D:=Rat.mul_pos (by grind) hp;have p2:-2*q*(-2*q)*D<(1+2*q*10000000000000)*D*((1+2*q*10000000000000)*D):=by
  have s0:0<q*q:=Rat.mul_pos hq hq;have s1:0<q*q*D:=Rat.mul_pos s0 hp;have s2:q*q*D≤q*q*D*(D*4835703278458516698824704):=by
   have:=Rat.mul_le_mul_of_nonneg_left hl (Rat.le_of_lt s1)
   grind
  have s3:0<q*(D*D):=Rat.mul_pos hq (Rat.mul_pos hp hp);have s4:0<D*D:=Rat.mul_pos hp hp
  grind
 rw [azY p1,aAc (by grind),azY hp,ordQ_gt p2,sg3];rfl
theorem az3 {s:List Nat} (h:fewB s 6=true):okR 20 (valQ s)∧chk s=0:=by
 simp only [fewB,Bool.and_eq_true,decide_eq_true_eq] at h;have h1:=aw2 h.1.2;have h2:=aw2 h.2;exact ⟨⟨Nat.lt_trans h1 (by decide),Nat.lt_trans h2 (by decide)⟩,h.1.1.2⟩
def plV (v:V2):PlD:=⟨txQ v.x,txQ v.y⟩
theorem aAe (v:V2):eV v=ePl (plV v):=rfl
theorem azW (v:V2):vP (plV v)=v:=by
 obtain ⟨x,y⟩:=v;simp only [vP,plV,aoC]
theorem aAq {v:V2} {k:Nat} (h:okU k v) (hk:k≤1800):okP (plV v)∧chkP (plV v)=0:=by
 obtain ⟨a1,a2⟩:=az7 h.1 hk;obtain ⟨b1,b2⟩:=az7 h.2 hk;refine ⟨⟨a1,b1⟩,?_⟩;rw [chkP];simp only [plV,aaw,a2,b2,if_true]
theorem aAn {b t:V2} (h:b≠t):aej (txQ b.x) (txQ b.y) (txQ t.x) (txQ t.y)=false:=by
 rw [aej,decide_eq_false_iff_not];rintro ⟨h1,h2⟩;obtain ⟨bx,by'⟩:=b;obtain ⟨tx,ty⟩:=t;dsimp only at h1 h2;exact h (by rw [aAa h1,aAa h2])
theorem aAf (haw : aab Tryz.prog 10 [] (.bool true)) (r : Int) (b t : V2) (hr : abw r = 0) (hb : okU 20 b) (ht : okU 20 t) (hf1 : aab Tryz.prog 47 [eV b, .int .i64 6] (.bool true)) (hf2 : aab Tryz.prog 47 [eV t, .int .i64 6] (.bool true)) (hne : b ≠ t) :
    aab Tryz.prog 8 [.int .i64 r,eV b,eV t] (.bool true):=by
 have r1:1≤r∧r≤1000000:=by rw [abw] at hr; split at hr <;> omega
 obtain ⟨r1,r2⟩:=r1;have hpc:=aAn hne;obtain ⟨pb,cb⟩:=aAq hb (by decide);obtain ⟨pt,ct⟩:=aAq ht (by decide);have hz:=azP (b:=plV b) (t:=plV t) cb ct hpc;rw [azW,azW] at hz;have hu:okU 41 (b.sub t):=anq hb ht;have p1:=aAB r b (b.sub t) hz;have p2:=aAh r b (b.sub t);have p3:=aAy r b (b.sub t) (by omega) hz;have p4:=aAi r b t (by omega) hz;have p5:=aAx r b t (by omega) hu hz;have q1:aej (plV b).x (plV b).y (plV t).x (plV t).y=false:=hpc;have hG:=azK r (plV b) (plV t) pb pt (by simp [aaw,hr,cb,ct,q1,ack]) (by rw [azW]; exact hb.mono (by decide)) (by rw [azW]; exact ht.mono (by decide));rw [azW,azW,← aAe,← aAe] at hG;have g4:ok4 600 (azl r b (b.sub t)):=by
  have hd:=aba hu hu;have hF:okR 187 (azm r (b.sub t)):=avH (azw (by omega) r2) hd;exact ⟨⟨hb.1.mono (by decide),(abP hF hu.1).mono (by decide),hd.mono (by decide)⟩,⟨hb.2.mono (by decide),(abP hF hu.2).mono (by decide),hd.mono (by decide)⟩⟩
 have k0:okR 44 (10000000000000:Rat):=akh (n:=10000000000000) (by decide) (by decide);have hL:=azN b t (hb.mono (by decide)) (ht.mono (by decide));have hM1:=aAw b (b.sub t) (hb.mono (by decide)) (hu.mono (by decide));have hI:=aq9 (2*r) (by omega) (by omega);have hK:=amG ((2*r:Int):Rat) 10000000000000 ((azw (by omega) r2).mono (by decide)) (k0.mono (by decide));rw [tx_13] at hK;have kk:=abP (azw (r:=r) (by omega) r2) k0;have hS:=aAv (b.sub t) (((2*r:Int):Rat)*10000000000000) (hu.mono (by decide)) (kk.mono (by decide));have hM2:=aAw (b.add (b.sub t)) ((b.sub t).mul (((2*r:Int):Rat)*10000000000000)) ((aAd hb hu).mono (by decide)) ((aAp hu kk).mono (by decide));have hbe:okU 190 (azZ r b (b.sub t)):=(aAd (aAd hb hu) (aAp hu kk)).mono (by decide);rw [show (b.add (b.sub t)).add ((b.sub t).mul (((2*r:Int):Rat)*10000000000000))=azZ r b (b.sub t) from rfl] at hM2;generalize azZ r b (b.sub t)=c at *;obtain ⟨pc,cc⟩:=aAq hbe (by decide);have hC1:=aAu r (plV c) (plV b) (plV t) pc pb pt (by simp [aaw,hr,cb,ct,cc,q1,ack]) (by rw [azW]; exact hbe.mono (by decide)) (by rw [azW]; exact hb.mono (by decide)) (by rw [azW]; exact ht.mono (by decide));have hC2:=aAu r (plV t) (plV b) (plV t) pt pb pt (by simp [aaw,hr,cb,ct,q1,ack]) (by rw [azW]; exact ht.mono (by decide)) (by rw [azW]; exact hb.mono (by decide)) (by rw [azW]; exact ht.mono (by decide));rw [azW,azW,azW,← aAe,← aAe,← aAe,p5] at hC1;rw [azW,azW,← aAe,← aAe,p4] at hC2;have hdd:0≤sgQ (azl r b (b.sub t)).x.d:=by
  have h:=azY (az4 hz);show 0≤sgQ ((b.sub t).dot (b.sub t));omega
 have hFi:=c_lfine (azl r b (b.sub t)) (g4.mono (by decide)) hdd rfl;have w4:ok4 700 (wayG r b (b.sub t)):=⟨⟨(adL g4.1.1 hb.1).mono (by decide),g4.1.2.1.mono (by decide),g4.1.2.2.mono (by decide)⟩,⟨(adL g4.2.1 hb.2).mono (by decide),g4.2.2.1.mono (by decide),g4.2.2.2.mono (by decide)⟩⟩
 have s1:=amF (azl r b (b.sub t)).x.a b.x (g4.1.1.mono (by decide)) (hb.1.mono (by decide));have s2:=amF (azl r b (b.sub t)).y.a b.y (g4.2.1.mono (by decide)) (hb.2.mono (by decide));have t1:=az8 (b.sub t).y (wayG r b (b.sub t)).x (hu.2.mono (by decide)) (w4.1.mono (by decide));have t2:=auy (b.sub t).x (hu.1.mono (by decide));have t3:=az8 (-(b.sub t).x) (wayG r b (b.sub t)).y ((ahV hu.1).mono (by decide)) (w4.2.mono (by decide));have a1:ok3 741 (S3.times (b.sub t).y (wayG r b (b.sub t)).x):=(azo hu.2 w4.1).mono (by decide);have a2:ok3 741 (S3.times (-(b.sub t).x) (wayG r b (b.sub t)).y):=(azo (ahV hu.1) w4.2).mono (by decide);have t4:=azM _ _ (a1.mono (by decide)) (a2.mono (by decide));have v1:=aAt (wayG r b (b.sub t)) (w4.mono (by decide));have hfr:=akw (r:=r) (by omega) r2;have v2:=aq9 (4*r*r) (by omega) (by omega);have fq:okR 42 (afF r):=aeF (by omega) r2;have zz:okR 1 (0:Rat):=⟨by decide,by decide⟩
 have sqd:((wayG r b (b.sub t)).azX).d=(b.sub t).dot (b.sub t):=rfl;have hD:okR 1200 ((b.sub t).dot (b.sub t)):=(aba hu hu).mono (by decide);have sqa:=az2 r b (b.sub t) hz;have sqb:=az1 r b (b.sub t);have v3:=c_lis (wayG r b (b.sub t)).azX (afF r) ⟨by rw [sqa]; exact fq.mono (by decide),by rw [sqb]; exact zz.mono (by decide),by rw [sqd]; exact hD⟩ (fq.mono (by decide));obtain ⟨ta,tb⟩:=azV r b (b.sub t);have v4:=c_lis ((S3.times (b.sub t).y (wayG r b (b.sub t)).x).add (S3.times (-(b.sub t).x) (wayG r b (b.sub t)).y)) 0 ⟨by rw [ta]; exact zz.mono (by decide),by rw [tb]; exact zz.mono (by decide),hD⟩ (zz.mono (by decide));rw [aAE] at v4;have v5:=aAV (b.sub t) (wayG r b (b.sub t)) (hu.mono (by decide)) (w4.mono (by decide));have v6:=azD (P4.dot (b.sub t) (wayG r b (b.sub t))) ((aAO hu w4).mono (by decide));rw [p1,decide_eq_true rfl] at v3;rw [p2,decide_eq_true rfl] at v4;rw [p3] at v6;have w1:IntKind.i64.wrap (2*r)=2*r:=wi64 _ (by omega) (by omega);have w2:IntKind.i64.wrap (4*r)=4*r:=wi64 _ (by omega) (by omega);have w3:IntKind.i64.wrap (4*r*r)=4*r*r:=wi64 _ (by omega) (by omega);have hw0:IntKind.i64.wrap 0=0:=by decide
 have hR:=aja r;rw [hr] at hR;rw [show (((4*r*r:Int)):Rat)=afF r from rfl] at v2;clear p1 p2 p3 p4 p5 a1 a2 w4 g4 hz hne q1 sqd sqa sqb ta tb hD fq kk k0 hbe hdd pc pb pt cb ct cc;rw [wayG,wayP] at *;generalize (S3.times (b.sub t).y _).add _=turn at *;generalize P4.azX _=sq at *;generalize P4.dot _ _=dt at *;generalize ((2*r:Int):Rat)*10000000000000=kq at *;generalize ((2*r:Int):Rat)=kp at *;generalize afF r=fr at *;generalize (b.sub t).mul kq=m1 at *;generalize b.add (b.sub t)=m2 at *;generalize azl r b (b.sub t)=g at *;generalize b.sub t=u at *;obtain ⟨⟨xa,xb,xd⟩,⟨ya,yb,yd⟩⟩:=g;dsimp only at *;generalize S3.times u.y _=s1' at *;generalize S3.times (-u.x) _=s2' at *;rw [azH,azu,azu] at hG hFi v1 v5;rw [azu] at t1 t3;simp only [eV,ePl] at *;refine aad nf isF8 mix (by simp [Tryz.f8]) ?_;simp [Tryz.f8,shpA,-aai];rw [aai];simp [-aai,shpA];rw [aai,aai];simp [-aai,shpA];refine c1 hR ?_;simp [shpA,-aai];refine c2 hf1 ?_;simp [shpA,-aai];refine c2 hf2 ?_;simp [shpA,-aai,hpc];rw [aai];simp [shpA,-aai];refine c3 hG ?_;simp [shpA,-aai];rw [aai];simp [shpA,-aai];refine c2 hL ?_;simp [shpA,-aai];rw [aai];simp [shpA,-aai];refine e2 hM1 ?_;simp [shpA,-aai,w1];refine e1 hI ?_;simp [shpA,-aai];refine e2 hK ?_;simp [shpA,-aai];refine e2 hS ?_;simp [shpA,-aai];refine e2 hM2 ?_;simp [shpA,-aai];refine ⟨by repeat' first | rfl | apply And.intro,?_⟩;rw [aai];simp [shpA,-aai];refine c4 hC1 ?_;simp [shpA,-aai];rw [aai];simp [shpA,-aai];refine c4 hC2 ?_;simp [shpA,-aai];rw [aai,aai];simp [shpA,-aai,hw0];refine c1 hFi ?_;simp [shpA,-aai];rw [aai];simp [shpA,-aai];rw [aai];simp [shpA,-aai];refine e2 s1 ?_;simp [shpA,-aai];refine e2 s2 ?_;simp [shpA,-aai];refine ⟨by repeat' first | rfl | apply And.intro,?_⟩;rw [aai];simp [shpA,-aai];refine e2 t1 ?_;simp [shpA,-aai];refine e1 t2 ?_;simp [shpA,-aai];refine e2 t3 ?_;simp [shpA,-aai];refine e2 t4 ?_;simp [shpA,-aai];refine ⟨by repeat' first | rfl | apply And.intro,?_⟩;simp [shpA,w2,w3];refine c1 v1 ?_;simp [shpA,w2,w3];refine c1 v2 ?_;simp [shpA];refine c2 v3 ?_;simp [shpA];refine c2 v4 ?_;simp [shpA];refine c2 v5 ?_;simp [shpA];refine c1 v6 ?_;simp [shpA];refine c0 haw ?_;simp
theorem c_law8 (haw:aab Tryz.prog 10 [] (.bool true)) (r:Int) (p q:PlD) (hp:okP p) (hq:okP q):aab Tryz.prog 8 [.int .i64 r,ePl p,ePl q] (.bool true):=by
 have hR:=aja r;have h1:=aoi p 6 hp (by decide);have h2:=aoi q 6 hq (by decide)
 by_cases c1:abw r=0
 case neg =>
  refine aad nf isF8 mix (by simp [Tryz.f8]) ?_;generalize abw r=x at *;simp [Tryz.f8,shpA];refine Go.Abs.c1 hR ?_;simp [c1,shpA];refine Go.Abs.c0 haw ?_;simp
 rcases c2:(fewB p.x 6 && fewB p.y 6) with _ | _
 · rw [c2] at h1;rw [c1] at hR;refine aad nf isF8 mix (by simp [Tryz.f8]) ?_;simp [Tryz.f8,shpA];refine Go.Abs.c1 hR ?_;simp [shpA];refine Go.Abs.c2 h1 ?_;simp [shpA];refine Go.Abs.c0 haw ?_;simp
 rcases c3:(fewB q.x 6 && fewB q.y 6) with _ | _
 · rw [c2] at h1;rw [c3] at h2;rw [c1] at hR;refine aad nf isF8 mix (by simp [Tryz.f8]) ?_;simp [Tryz.f8,shpA];refine Go.Abs.c1 hR ?_;simp [shpA];refine Go.Abs.c2 h1 ?_;simp [shpA];refine Go.Abs.c2 h2 ?_;simp [shpA];refine Go.Abs.c0 haw ?_;simp
 rw [c2] at h1;rw [c3] at h2;simp only [Bool.and_eq_true] at c2 c3;obtain ⟨a1,a2⟩:=az3 c2.1;obtain ⟨a3,a4⟩:=az3 c2.2;obtain ⟨b1,b2⟩:=az3 c3.1;obtain ⟨b3,b4⟩:=az3 c3.2;have ep:∀ x:PlD,chk x.x=0→chk x.y=0→ePl x=eV (vP x):=fun x g1 g2=>by
  rw [eV,vP];dsimp only;rw [(aeY g1).1,(aeY g2).1]
 by_cases c4:aej p.x p.y q.x q.y=true
 · rw [c1] at hR;obtain ⟨px,py⟩:=p;obtain ⟨qx,qy⟩:=q;simp only [ePl] at *;refine aad nf isF8 mix (by simp [Tryz.f8]) ?_;simp [Tryz.f8,shpA];refine Go.Abs.c1 hR ?_;simp [shpA];refine Go.Abs.c2 h1 ?_;simp [shpA];refine Go.Abs.c2 h2 ?_;simp [shpA,c4];refine Go.Abs.c0 haw ?_;simp
 · rw [ep p a2 a4] at h1 ⊢;rw [ep q b2 b4] at h2 ⊢;refine aAf haw r (vP p) (vP q) c1 ⟨a1,a3⟩ ⟨b1,b3⟩ h1 h2 fun he=>c4 ?_;have e1:=ep p a2 a4;have e2:=ep q b2 b4;have:ePl p=ePl q:=by rw [e1,e2,he]
   simp only [ePl,PV.st.injEq,List.cons.injEq,PV.str.injEq,true_and,and_true] at this;rw [aej,decide_eq_true_eq];exact ⟨this.1,this.2⟩
open Go.Proofs Go.Proofs.YtanjnahmbanmaaaGreatDoor
section
variable {H:Type} {W:World} {Imm:Nat→Prop}
theorem uidP3:Tryz.prog.underlyingId 25=25:=by kernel_rfl
structure P3D where
 a:PlD
 b:PlD
 c:PlD
def okP3 (w:P3D):Prop:=okP w.a∧okP w.b∧okP w.c
def eP3 (w:P3D):PV:=.st 25 [ePl w.a,ePl w.b,ePl w.c]
theorem p3_arg' {m:Nat} (hmn:m=7) {d:DataW H} (h:∃ cs,PVC Tryz.prog W Imm (toPV Tryz.prog (m+1) 25 d) cs) (hb:Rows.uptoBulk d≤1048576):∃ w:P3D,toPV Tryz.prog (m+1) 25 d=eP3 w∧True∧okP3 w:=by
 obtain ⟨cs,h⟩:=h;cases d with
 | agg l =>
  have hm:∀ x∈l,Rows.uptoBulk x≤1048576:=fun x hx=>by
   have:=bulks.asy hx;rw [Rows.uptoBulk] at hb;omega
  simp only [toPV,un25,uidP3,PVC,sz25] at h ⊢;obtain ⟨l',css,h1,h2,_⟩:=h;cases h1
  match l,h2 with
  | [],h2=>simp [PVCl] at h2
  | [_],h2=>simp [PVCl] at h2
  | [_,_],h2=>simp [PVCl] at h2
  | _::_::_::_::_,h2=>simp [PVCl] at h2
  | [a,b,c],h2 =>
   simp only [List.map_cons,List.map_nil,PVCl] at h2 ⊢;obtain ⟨c0,_,_,g0,_,c1,_,_,g1,_,c2,_,_,g2,_⟩:=h2;subst hmn;obtain ⟨x,ex,hx⟩:=aka (n:=5) ⟨c0,g0⟩ (hm a (by simp));obtain ⟨y,ey,hy⟩:=aka (n:=5) ⟨c1,g1⟩ (hm b (by simp));obtain ⟨z,ez,hz⟩:=aka (n:=5) ⟨c2,g2⟩ (hm c (by simp));exact ⟨⟨x,y,z⟩,by rw [ex,ey,ez]; rfl,trivial,hx,hy,hz⟩
 | _=>simp only [toPV,un25,PVC] at h
theorem p3_arg {d:DataW H} (h:∃ cs,PVC Tryz.prog W Imm (toPV Tryz.prog 8 25 d) cs) (hb:Rows.uptoBulk d≤1048576):∃ w:P3D,toPV Tryz.prog 8 25 d=eP3 w∧True∧okP3 w:=p3_arg' rfl h hb
end
end Go.Abs
