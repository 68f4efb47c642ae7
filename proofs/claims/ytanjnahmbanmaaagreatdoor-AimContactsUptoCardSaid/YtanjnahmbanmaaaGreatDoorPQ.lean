import Derived.Test.YtanjnahmbanmaaaGreatDoorPP
/- Parts of a proof. -/
set_option linter.unusedSimpArgs false
set_option linter.unusedVariables false
set_option linter.unusedSectionVars false
namespace Go.Abs
open Go.Proofs
set_option maxHeartbeats 4000000
set_option maxRecDepth 100000
structure NS where
 a:NF
 b:NF
 d:NF
noncomputable def eNS (s:NS):PV:=.st 149 [eF s.a,eF s.b,eF s.d]
@[simp] theorem shp_eNS (s:NS):shp (eNS s)=.agg 149:=rfl
@[simp] theorem flds_eNS (s:NS):flds (eNS s)=[eF s.a,eF s.b,eF s.d]:=rfl
theorem eNS_mk (a b d:NF):eNS ⟨a,b,d⟩=.st 149 [eF a,eF b,eF d]:=rfl
def NS.q (s:NS):S3:=⟨s.a.q,s.b.q,s.d.q⟩
def okN (k:Nat) (s:NS):Prop:=okR k s.a.q∧okR k s.b.q∧okR k s.d.q
def lgS (s:S3):Bool:=lgQ s.a || lgQ s.b || lgQ s.d
theorem aww (s:NS) (h:okN kB s):aab Tryz.prog 85 [eNS s] (.bool (lgS s.q)):=by
 have h1:=akR s.a h.1;have h2:=akR s.b h.2.1;have h3:=akR s.d h.2.2;refine aad nf isF85 mix (by simp [Tryz.f85]) ?_;rw [lgS,NS.q];dsimp only;generalize lgQ s.a.q=x at *;generalize lgQ s.b.q=y at *;generalize lgQ s.d.q=z at *;cases x
 · cases y
   · simp [Tryz.f85,shpA];refine c1 h1 ?_;simp [shpA];refine c1 h2 ?_;simp [shpA];refine c1 h3 ?_;simp
   · simp [Tryz.f85,shpA];refine c1 h1 ?_;simp [shpA];refine c1 h2 ?_;simp [shpA]
 · simp [Tryz.f85,shpA];refine c1 h1 ?_;simp [shpA]
theorem c_stext (s:NS) (h:okN kB s):aab Tryz.prog 86 [eNS s] (eS s.q):=by
 have h1:=ajN s.a h.1;have h2:=ajN s.b h.2.1;have h3:=ajN s.d h.2.2;refine aad nf isF86 mix (by simp [Tryz.f86]) ?_;rw [NS.q,eS_mk];simp [Tryz.f86,shpA];refine e1 h1 ?_;simp [shpA];refine e1 h2 ?_;simp [shpA];refine e1 h3 ?_;simp [shpA]
theorem lg_ok {q:Rat} (h:okR 1800 q):lgQ q=false:=by
 have h1:(txN q.num.natAbs).length≤600:=azg (K:=1800) (k:=600) h.1 (by decide) (by decide);have h2:(txN q.den).length≤600:=azg (K:=1800) (k:=600) h.2 (by decide) (by decide);rw [lgQ,lgN,lgN,decide_eq_false (by omega),decide_eq_false (by omega)]; rfl
def NF.width (r:Int):NF:=.int (4*r*r)
theorem c_width (r:Int) (h0:0≤r) (h1:r≤1000000):aab Tryz.prog 81 [.int .i64 r] (eF (.width r)):=by
 have hr:=akw h0 h1;have hF:=c_F (4*r*r) (by omega) (by omega);have w1:IntKind.i64.wrap (4*r)=4*r:=wi64 _ (by omega) (by omega);have w2:IntKind.i64.wrap (4*r*r)=4*r*r:=wi64 _ (by omega) (by omega);refine aad nf isF81 mix (by simp [Tryz.f81]) ?_;rw [NF.width];simp [Tryz.f81,w1,w2];refine c1 hF ?_;simp [shpA]
structure NM where
 w:NV
 d:NV
 root:NF
noncomputable def eNM (m:NM):PV:=.st 144 [eNV m.w,eNV m.d,eF m.root]
@[simp] theorem shp_eNM (m:NM):shp (eNM m)=.agg 144:=rfl
@[simp] theorem flds_eNM (m:NM):flds (eNM m)=[eNV m.w,eNV m.d,eF m.root]:=rfl
theorem ayU (a b:NV) (d:NF):eNM ⟨a,b,d⟩=.st 144 [eNV a,eNV b,eF d]:=rfl
def NM.of (width:NF) (p d b:NV):NM:=⟨b.sub p,d,(((b.sub p).dot d).mul ((b.sub p).dot d)).sub ((d.dot d).mul (((b.sub p).dot (b.sub p)).sub width))⟩
def avK (width:NF) (p d b:NV):Bool:=decide (0≤ordQ ((b.sub p).dot (b.sub p)).q width.q) && decide (0<sgQ ((b.sub p).dot d).q) && decide (0<sgQ (NM.of width p d b).root.q)
theorem c_meet (width:NF) (p d b:NV) (hw:okR 500 width.q) (hp:okU 200 p.q) (hd:okU 500 d.q) (hb:okU 200 b.q):aab Tryz.prog 82 [eF width,eNV p,eNV d,eNV b] (.tup [eNM (.of width p d b),.bool (avK width p d b)]):=by
 have bw:okU 401 (b.sub p).q:=by rw [NV.ajW]; exact anq hb hp
 have bww:=aba bw bw;have bwd:=aba bw hd;have bdd:=aba hd hd;have b1:=adL bww hw;have hS:=ay5 b p (hb.mono (by decide)) (hp.mono (by decide));obtain ⟨w,hwv⟩:∃ w,b.sub p=w:=⟨_,rfl⟩
 have e1':NM.of width p d b=⟨w,d,((w.dot d).mul (w.dot d)).sub ((d.dot d).mul ((w.dot w).sub width))⟩:=by rw [NM.of,hwv]
 rw [avK,e1',ayU];rw [hwv] at hS bw bww bwd b1 ⊢;have kw:okU kQ w.q:=bw.mono (by decide);have kd:okU kQ d.q:=hd.mono (by decide);have hD:=aug w d kw kd;have hM:=agO (w.dot d) (w.dot d) (bwd.mono (by decide)) (bwd.mono (by decide));have hQ1:=afL d kd;have hQ2:=afL w kw;have hB:=amD (w.dot w) width (bww.mono (by decide)) (hw.mono (by decide));have q1:((w.dot w).sub width).q=w.q.dot w.q - width.q:=NF.ajW _ _;have hM2:=agO (d.dot d) ((w.dot w).sub width) (bdd.mono (by decide)) (by rw [q1]; exact b1.mono (by decide));have q2:(((w.dot d).mul (w.dot d)).sub ((d.dot d).mul ((w.dot w).sub width))).q=w.q.dot d.q*w.q.dot d.q - d.q.dot d.q*(w.q.dot w.q - width.q):=by rw [NF.ajW,NF.as0,NF.as0,q1]; rfl
 have hB2:=amD ((w.dot d).mul (w.dot d)) ((d.dot d).mul ((w.dot w).sub width)) ((abP bwd bwd).mono (by decide)) (by rw [NF.as0,q1]; exact (abP bdd b1).mono (by decide));have hC:=auq (w.dot w) width (bww.mono (by decide)) (hw.mono (by decide));have hG1:=aod (w.dot d);have hG2:=aod (((w.dot d).mul (w.dot d)).sub ((d.dot d).mul ((w.dot w).sub width)));simp only [show ∀ q:Rat,(if q<0 then (-1:Int) else if q=0 then 0 else 1)=sgQ q from fun _=>rfl] at hG1 hG2;refine aad nf isF82 mix (by simp [Tryz.f82]) ?_;dsimp only;generalize ((w.dot d).mul (w.dot d)).sub ((d.dot d).mul ((w.dot w).sub width))=root at *;generalize sgQ root.q=s2 at *;generalize sgQ (w.dot d).q=s1 at *;generalize ordQ (w.dot w).q width.q=o at *;simp [Tryz.f82,shpA];refine c2 hS ?_;simp [shpA];refine c2 hD ?_;simp [shpA];refine e2 hM ?_;simp [shpA];refine e1 hQ1 ?_;simp [shpA];refine e1 hQ2 ?_;simp [shpA];refine e2 hB ?_;simp [shpA];refine e2 hM2 ?_;simp [shpA];refine e2 hB2 ?_;simp [shpA];refine ⟨by repeat' first | rfl | apply And.intro,?_⟩;refine e1 hQ2 ?_;simp [shpA];refine e2 hC ?_
 by_cases h1:0≤o
 · by_cases h2:0<s1
   · simp [shpA,h1,h2];refine e1 hG1 ?_;simp [shpA,h1,h2];refine e1 hG2 ?_;simp [shpA,h1,h2]
   · simp [shpA,h1,h2];refine e1 hG1 ?_;simp [shpA,h1,h2]
 · simp [shpA,h1]
def NM.far (m:NM):NS:=⟨(m.w.dot m.d).div (m.d.dot m.d),(m.d.dot m.d).inv.neg,m.root⟩
theorem c_far (m:NM) (hw:okU 500 m.w.q) (hd:okU 500 m.d.q) (hz:m.d.q.dot m.d.q≠0):aab Tryz.prog 84 [eNM m] (eNS m.far):=by
 obtain ⟨w,d,root⟩:=m;dsimp only at hw hd hz;have bdd:=aba hd hd;have hQ:=afL d (hd.mono (by decide));have hD:=aug w d (hw.mono (by decide)) (hd.mono (by decide));have hV:=aza (w.dot d) (d.dot d) ((aba hw hd).mono (by decide)) (bdd.mono (by decide)) hz;have hI:=apZ (d.dot d) (bdd.mono (by decide)) hz;have hN:=apY (d.dot d).inv ((ae9 bdd).mono (by decide));refine aad nf isF84 mix (by simp [Tryz.f84]) ?_;rw [NM.far,eNS_mk];dsimp only;rw [ayU];simp [Tryz.f84,shpA];refine c1 hQ ?_;simp [shpA];refine e2 hD ?_;simp [shpA];refine e2 hV ?_;simp [shpA];refine e1 hI ?_;simp [shpA];refine e1 hN ?_;simp [shpA]
def abw (r:Int):Int:=if r<1∨1000<r then 3 else 0
theorem afO (r:Int):aab Tryz.prog 74 [.int .i64 r] (.int .i64 (abw r)):=by
 refine aad nf isF74 mix (by simp [Tryz.f74]) ?_;rw [abw]
 by_cases h1:r<1
 · have hw:=ad1 true 3;simp [Tryz.f74,h1];refine c2 hw ?_;simp [ack];omega
 · by_cases h2:1000<r
   · have hw:=ad1 true 3;simp [Tryz.f74,h1,h2];refine c2 hw ?_;simp [ack]
     try omega
   · have hw:=ad1 false 3;simp [Tryz.f74,h1,h2];refine c2 hw ?_;simp [ack];omega
theorem aea (p:PlD) (hp:okP p):aab Tryz.prog 76 [ePl p] (.int .i64 (chkD p)):=by
 have hC:=abV p hp;have hres:aaw [chkP p,ack (decide (p.x=[48]∧p.y=[48])) 6]=chkD p:=by
  rw [chkD,aaw,aaw,aaw,ack]
  by_cases h:chkP p=0
  · by_cases h2:p.x=[48]∧p.y=[48]
    · simp [h,h2]
    · simp [h,h2]
  · simp [h]
 refine aad nf isF76 mix (by simp [Tryz.f76]) ?_;rw [← hres];obtain ⟨x,y⟩:=p;simp only [ePl] at *;generalize chkP ⟨x,y⟩=c at *;have fin:∀ b:Bool,decide (x=[48]∧y=[48])=b→aab Tryz.prog 83 [.bool b,.int .i64 6] (.int .i64 (ack b 6))∧aab Tryz.prog 73 [.seq [.int .i64 c,.int .i64 (ack b 6)]] (.int .i64 (aaw [c,ack (decide (x=[48]∧y=[48])) 6])):=fun b hb=>by
  rw [hb];exact ⟨ad1 b 6,aeK [c,ack b 6] (by simp)⟩
 generalize aaw [c,ack (decide (x=[48]∧y=[48])) 6]=res at *
 by_cases hx:x=[48]
 · by_cases hy:y=[48]
   · obtain ⟨hw,hF⟩:=fin true (by simp [hx,hy]);simp [Tryz.f76,shpA];refine e1 hC ?_;simp [shpA,hx,hy];refine e2 hw ?_;simp [shpA];refine ep hF (by simp; first | exact ⟨rfl,rfl⟩ | rfl) (by simp; first | exact ⟨rfl,rfl⟩ | rfl) ?_;simp
     repeat' first | rfl | apply And.intro
   · obtain ⟨hw,hF⟩:=fin false (by simp [hx,hy]);simp [Tryz.f76,shpA];refine e1 hC ?_;simp [shpA,hx,hy];refine e2 hw ?_ (h1:=by simp [hy]);simp [shpA];refine ep hF (by simp; first | exact ⟨rfl,rfl⟩ | rfl) (by simp; first | exact ⟨rfl,rfl⟩ | rfl) ?_;simp
     repeat' first | rfl | apply And.intro
 · obtain ⟨hw,hF⟩:=fin false (by simp [hx]);simp [Tryz.f76,shpA];refine e1 hC ?_;simp [shpA,hx];refine e2 hw ?_;simp [shpA];refine ep hF (by simp; first | exact ⟨rfl,rfl⟩ | rfl) (by simp; first | exact ⟨rfl,rfl⟩ | rfl) ?_;simp
   repeat' first | rfl | apply And.intro
theorem adU:∀ l:List Int,aaw l=0↔∀ e∈l,e=0
 | []=>by simp [aaw]
 | e::r=>by
  rw [aaw]
  by_cases h:e=0
  · rw [if_pos h,adU r]; simp [h]
  · rw [if_neg h]; simp [h]
theorem acr {p:PlD} (h:chkP p=0):chk p.x=0∧chk p.y=0:=by
 have:=(adU _).1 h;exact ⟨this _ (by simp),this _ (by simp)⟩
theorem aiE {p:PlD} (h:chkD p=0):chkP p=0∧¬ (p.x=[48]∧p.y=[48]):=by
 rw [chkD] at h
 split at h
 · cases h
 · rename_i h2; exact ⟨h,fun x=>h2 ⟨h,x⟩⟩
def vP (p:PlD):V2:=⟨valQ p.x,valQ p.y⟩
theorem aty (p:PlD):(NV.from p).q=vP p:=rfl
theorem sq_nonneg (a:Rat):0≤a*a:=by
 rcases Rat.le_total (a:=0) (b:=a) with h | h
 · exact Rat.mul_nonneg h h
 · have h2:0≤-a:=by
    have:=Rat.neg_le_neg h
    rwa [Rat.neg_zero] at this
   have:=Rat.mul_nonneg h2 h2
   rwa [Rat.neg_mul,Rat.mul_neg,Rat.neg_neg] at this
theorem sq_zero {a b:Rat} (h:a*a+b*b=0):a=0∧b=0:=by
 have key:∀ x y:Rat,x*x+y*y=0→x=0:=fun x y h=>by
  have h1:=sq_nonneg x;have h2:=sq_nonneg y;have h3:x*x≤0:=by
   have h4:x*x+0≤x*x+y*y:=(Rat.add_le_add_left).2 h2
   rwa [Rat.add_zero,h] at h4
  have h5:x*x=0:=Rat.le_antisymm h3 h1;rcases Rat.mul_eq_zero.1 h5 with h | h <;> exact h
 exact ⟨key a b h,key b a (by rw [Rat.add_comm]; exact h)⟩
theorem ayV {p:PlD} (h:chkD p=0):(vP p).dot (vP p)≠0:=by
 obtain ⟨h1,h2⟩:=aiE h;obtain ⟨h3,h4⟩:=acr h1;intro hz;obtain ⟨a,b⟩:=sq_zero hz;apply h2;have e1:=(aeY h3).1;have e2:=(aeY h4).1;simp only [vP] at a b;rw [a,ahl] at e1;rw [b,ahl] at e2;exact ⟨e1.symm,e2.symm⟩
def auN:PV:=.st 31 [.str [],.str [],.str []]
theorem aog (r : Int) (p d b : PlD) (hp : okP p) (hd : okP d) (hb : okP b) (h0 : aaw [abw r, chkP p, chkD d, chkP b] ≠ 0) :
    aab Tryz.prog 12 [.int .i64 r,ePl p,ePl d,ePl b] (.tup [auN,.int .i64 (aaw [abw r,chkP p,chkD d,chkP b])]):=by
 have a1:=afO r;have a2:=abV p hp;have a3:=aea d hd;have a4:=abV b hb;have a5:=aeK [abw r,chkP p,chkD d,chkP b] (by simp);simp only [List.map_cons,List.map_nil] at a5;refine aad nf isF12 mix (by simp [Tryz.f12]) ?_;rw [auN];generalize aaw [abw r,chkP p,chkD d,chkP b]=e at *;generalize abw r=x1 at *;generalize chkP p=x2 at *;generalize chkD d=x3 at *;generalize chkP b=x4 at *;simp [Tryz.f12,-aai,shpA];rw [aai];simp [-aai,shpA];rw [aai,aai];simp [-aai,shpA];refine e1 a1 ?_;simp [shpA];refine e1 a2 ?_;simp [shpA];refine e1 a3 ?_;simp [shpA];refine e1 a4 ?_;simp [shpA];refine ep a5 (by simp; first | exact ⟨rfl,rfl⟩ | rfl) (by simp; first | exact ⟨rfl,rfl⟩ | rfl) ?_;simp [shpA];refine ⟨by repeat' first | rfl | apply And.intro,?_⟩;simp [h0,shpA]
theorem acX {k:Nat} {p:PlD} (h:okU k (vP p)):okU k (NV.from p).q:=h
theorem aof (r : Int) (p d b : PlD) (hp : okP p) (hd : okP d) (hb : okP b) (h0 : aaw [abw r, chkP p, chkD d, chkP b] = 0)
    (sp:okU 30 (vP p)) (sd:okU 30 (vP d)) (sb:okU 30 (vP b)) :
    aab Tryz.prog 12 [.int .i64 r,ePl p,ePl d,ePl b] (if acH r ((vP b).sub (vP p)) (vP d)=0 then .tup [eS (adY r ((vP b).sub (vP p)) (vP d)),.int .i64 0] else .tup [auN,.int .i64 (acH r ((vP b).sub (vP p)) (vP d))]):=by
 have a1:=afO r;have a2:=abV p hp;have a3:=aea d hd;have a4:=abV b hb;have a5:=aeK [abw r,chkP p,chkD d,chkP b] (by simp);simp only [List.map_cons,List.map_nil] at a5;rw [h0] at a5;have hz:=(adU _).1 h0;have hr:abw r=0:=hz _ (by simp);have hP:chkP p=0:=hz _ (by simp);have hD:chkD d=0:=hz _ (by simp);have hB:chkP b=0:=hz _ (by simp);have r1:0≤r∧r≤1000000:=by
  rw [abw] at hr; split at hr <;> omega
 obtain ⟨r1,r2⟩:=r1;have hDP:=(aiE hD).1;have f1:=auo b (acr hB).1 (acr hB).2 hb;have f2:=auo p (acr hP).1 (acr hP).2 hp;have f3:=auo d (acr hDP).1 (acr hDP).2 hd;have hne:=ayV hD;have bw:okU 61 ((NV.from b).sub (NV.from p)).q:=by rw [NV.ajW]; exact anq (acX sb) (acX sp)
 have hS:=ay5 (.from b) (.from p) ((acX sb).mono (by decide)) ((acX sp).mono (by decide));have hQ:=afL ((NV.from b).sub (NV.from p)) (bw.mono (by decide));have hW:=c_width r r1 r2;have wq:(NF.width r).q=afF r:=rfl;have hC:=auq (((NV.from b).sub (NV.from p)).dot ((NV.from b).sub (NV.from p))) (NF.width r) (show okR kB _ from (aba bw bw).mono (by decide)) (by rw [wq]; exact (aeF r1 r2).mono (by decide));have hM:=c_meet (NF.width r) (.from p) (.from d) (.from b) (by rw [wq]; exact (aeF r1 r2).mono (by decide)) ((acX sp).mono (by decide)) ((acX sd).mono (by decide)) ((acX sb).mono (by decide));have hF:=c_far (NM.of (.width r) (.from p) (.from d) (.from b)) (bw.mono (by decide)) ((acX sd).mono (by decide)) hne;have q0:((NV.from b).sub (NV.from p)).q=(vP b).sub (vP p):=NV.ajW _ _;have q1:ordQ (((NV.from b).sub (NV.from p)).dot ((NV.from b).sub (NV.from p))).q (NF.width r).q=ordQ (((vP b).sub (vP p)).dot ((vP b).sub (vP p))) (afF r):=by rw [NV.anY,q0,wq]
 have q2:(NM.of (.width r) (.from p) (.from d) (.from b)).root.q=aeT r ((vP b).sub (vP p)) (vP d):=by
  rw [NM.of,aeT];dsimp only;rw [NF.ajW,NF.as0,NF.as0,NF.ajW,NV.anY,NV.anY,NV.anY,q0,wq,aty]
 have q3:avK (.width r) (.from p) (.from d) (.from b)=(decide (0≤ordQ (((vP b).sub (vP p)).dot ((vP b).sub (vP p))) (afF r)) && anS r ((vP b).sub (vP p)) (vP d)):=by
  rw [avK,q1,q2,NV.anY,q0,aty,anS,Bool.and_assoc]
 have q4:(NM.of (.width r) (.from p) (.from d) (.from b)).far.q=adY r ((vP b).sub (vP p)) (vP d):=by
  rw [NM.far,NS.q,adY];dsimp only;rw [q2];congr 1
  · show _ / _=_;rw [NM.of];dsimp only;rw [NV.anY,NV.anY,q0,aty]
 have bwv:okU 61 ((vP b).sub (vP p)):=by rw [← q0]; exact bw
 have bN:okN 1800 (NM.of (.width r) (.from p) (.from d) (.from b)).far:=by
  have h1:=aba bwv sd;have h2:=aba sd sd;have h3:okR 1800 (aeT r ((vP b).sub (vP p)) (vP d)):=(adL (abP h1 h1) (abP h2 (adL (aba bwv bwv) (aeF r1 r2)))).mono (by decide);have e:=q4;simp only [NS.q,adY,S3.mk.injEq] at e;refine ⟨?_,?_,?_⟩
  · rw [e.1]; exact (avH h1 h2).mono (by decide)
  · rw [e.2.1]; exact (ahV (ae9 h2)).mono (by decide)
  · rw [e.2.2]; exact h3
 have hL:=aww _ (⟨bN.1.mono (by decide),bN.2.1.mono (by decide),bN.2.2.mono (by decide)⟩:okN kB _);have hT:=c_stext _ (⟨bN.1.mono (by decide),bN.2.1.mono (by decide),bN.2.2.mono (by decide)⟩:okN kB _);have hlg:lgS (NM.of (.width r) (.from p) (.from d) (.from b)).far.q=false:=by
  rw [lgS,NS.q];dsimp only;rw [lg_ok bN.1,lg_ok bN.2.1,lg_ok bN.2.2]; rfl
 rw [hlg] at hL;rw [q4] at hT;rw [q1] at hC;rw [q3] at hM;refine aad nf isF12 mix (by simp [Tryz.f12]) ?_;rw [auN,acH];clear q0 q1 q2 q3 q4 hlg bN bw bwv hz;generalize ordQ (((vP b).sub (vP p)).dot ((vP b).sub (vP p))) (afF r)=o at *;generalize anS r ((vP b).sub (vP p)) (vP d)=hit at *;generalize adY r ((vP b).sub (vP p)) (vP d)=cs at *;generalize NM.of (.width r) (.from p) (.from d) (.from b)=m at *;generalize abw r=x1 at *;generalize chkP p=x2 at *;generalize chkD d=x3 at *;generalize chkP b=x4 at *;simp [Tryz.f12,-aai,shpA];rw [aai];simp [-aai,shpA];rw [aai,aai];simp [-aai,shpA];refine e1 a1 ?_;simp [shpA];refine e1 a2 ?_;simp [shpA];refine e1 a3 ?_;simp [shpA];refine e1 a4 ?_;simp [shpA];refine ep a5 (by simp; first | exact ⟨rfl,rfl⟩ | rfl) (by simp; first | exact ⟨rfl,rfl⟩ | rfl) ?_;simp [shpA];refine ⟨by repeat' first | rfl | apply And.intro,?_⟩;refine c1 f1 ?_;simp [shpA];refine e1 f2 ?_;simp [shpA];refine e2 hS ?_;simp [shpA];refine e1 hQ ?_;simp [shpA];refine e1 hW ?_;simp [shpA];refine e2 hC ?_;simp [shpA];refine e1 hW ?_;simp [shpA];refine e1 f2 ?_;simp [shpA];refine e1 f3 ?_;simp [shpA];refine e4 hM ?_;simp [shpA];refine ⟨by repeat' first | rfl | apply And.intro,?_⟩
 by_cases ho:o<0
 · have ho2:¬ 0≤o:=by omega
   have w1:=ad1 true 17;have w2:=ad1 true 7;have w3:=aeK [17,7] (by simp);rw [show ack true 17=17 from rfl] at w1;rw [show ack true 7=7 from rfl] at w2;rw [show aaw [17,7]=17 from rfl] at w3;simp only [List.map_cons,List.map_nil] at w3;rw [if_pos ho,if_neg (show ¬ (17:Int)=0 by decide)];refine c2 w1 ?_ (h1:=by simp [ho]);simp [ho,ho2,shpA];refine c2 w2 ?_;simp [shpA];refine cp w3 (by simp; first | exact ⟨rfl,rfl⟩ | rfl) ?_;simp [shpA]
 · have ho2:0≤o:=by omega
   have w1:=ad1 false 17;rw [show ack false 17=0 from rfl] at w1;cases hit
   · have w2:=ad1 true 7;have w3:=aeK [0,7] (by simp);rw [show ack true 7=7 from rfl] at w2;rw [show aaw [0,7]=7 from rfl] at w3;simp only [List.map_cons,List.map_nil] at w3;rw [if_neg ho,if_neg (show ¬ (false=true) by decide),if_neg (show ¬ (7:Int)=0 by decide)];refine c2 w1 ?_ (h1:=by simp [ho]);simp [ho,ho2,shpA];refine c2 w2 ?_;simp [shpA];refine cp w3 (by simp; first | exact ⟨rfl,rfl⟩ | rfl) ?_;simp [shpA]
   · have w2:=ad1 false 7;have w3:=aeK [0,0] (by simp);rw [show ack false 7=0 from rfl] at w2;rw [show aaw [0,0]=0 from rfl] at w3;simp only [List.map_cons,List.map_nil] at w3;rw [if_neg ho,if_pos (show true=true from rfl),if_pos (show (0:Int)=0 from rfl)];refine c2 w1 ?_ (h1:=by simp [ho]);simp [ho,ho2,shpA];refine c2 w2 ?_;simp [shpA];refine cp w3 (by simp; first | exact ⟨rfl,rfl⟩ | rfl) ?_;simp [shpA];refine c1 hF ?_;simp [shpA];refine c1 hL ?_;simp [shpA];refine c1 hT ?_;simp [shpA]
def V2.rot (v:V2):V2:=⟨-v.y,v.x⟩
def rotn:Nat→V2→V2
 | 0,v=>v
 | i+1,v=>(rotn i v).rot
def ak3 (k:Nat):V2:=⟨dvI (64 - (k:Int)*k) (64+(k:Int)*k),dvI (16*(k:Int)) (64+(k:Int)*k)⟩
def aqk (n:Nat):V2:=rotn (n / 8) (ak3 (n % 8))
theorem asT {n d:Int} {k:Nat} (hd:0<d) (h1:n.natAbs<2 ^ k) (h2:d.natAbs<2 ^ k):okR k (dvI n d):=by
 obtain ⟨m,rfl⟩:∃ m:Nat,d=m:=⟨d.natAbs,by omega⟩
 exact aki (by omega) h1 (by simpa using h2)
theorem ahU {k:Nat} (h:k<8):okU 8 (ak3 k):=by
 have h2:k*k≤7*7:=Nat.mul_le_mul (by omega) (by omega);have h3:((k:Int)*k)=((k*k:Nat):Int):=by rw [Int.natCast_mul]
 refine ⟨?_,?_⟩
 · rw [ak3,h3]; exact asT (by omega) (by omega) (by omega)
 · rw [ak3,h3]; exact asT (by omega) (by omega) (by omega)
theorem okU_rot {k:Nat} {v:V2} (h:okU k v):okU k v.rot:=⟨ahV h.2,h.1⟩
theorem ag4 {k:Nat} {v:V2} (h:okU k v):∀ i,okU k (rotn i v)
 | 0=>h
 | i+1=>okU_rot (ag4 h i)
theorem c_UnitR (n:Nat) (h:n<32):aab Tryz.prog 14 [.int .i64 n] (eV (aqk n)):=by
 obtain ⟨k,hk⟩:∃ k,n % 8=k:=⟨_,rfl⟩
 have hk8:k<8:=by omega
 obtain ⟨m,hm⟩:∃ m,n / 8=m:=⟨_,rfl⟩
 have hkk:k*k≤7*7:=Nat.mul_le_mul (by omega) (by omega);obtain ⟨kk,hkk2⟩:∃ kk:Nat,k*k=kk:=⟨_,rfl⟩
 have hI:(k:Int)*k=kk:=by rw [← Int.natCast_mul,hkk2]
 rw [hkk2] at hkk;have o1:=awE (64 - (k:Int)*k) (64+(k:Int)*k) (by rw [hI]; omega) (by rw [hI]; omega) (by rw [hI]; omega);have o2:=awE (16*(k:Int)) (64+(k:Int)*k) (by rw [hI]; omega) (by omega) (by rw [hI]; omega);have ok0:=ahU hk8;rw [aqk,hk,hm];have e0:ak3 k=⟨dvI (64 - (k:Int)*k) (64+(k:Int)*k),dvI (16*(k:Int)) (64+(k:Int)*k)⟩:=rfl;rw [hI] at o1 o2 e0;have t1:(n:Int).tmod 8=k:=by rw [Int.tmod_eq_emod_of_nonneg (Int.natCast_nonneg _)]; omega
 have t2:(n:Int).tdiv 8=m:=by rw [Int.tdiv_eq_ediv_of_nonneg (Int.natCast_nonneg _)]; omega
 have w0:IntKind.i64.wrap (k:Int)=k:=wi64 _ (by omega) (by omega);have w1:IntKind.i64.wrap (kk:Int)=kk:=wi64 _ (by omega) (by omega);have w2:IntKind.i64.wrap (64 - (kk:Int))=64 - (kk:Int):=wi64 _ (by omega) (by omega);have w3:IntKind.i64.wrap (64+(kk:Int))=64+(kk:Int):=wi64 _ (by omega) (by omega);have w4:IntKind.i64.wrap (16*(k:Int))=16*(k:Int):=wi64 _ (by omega) (by omega);have w5:IntKind.i64.wrap (m:Int)=m:=wi64 _ (by omega) (by omega);have hm4:m<4:=by omega
 obtain ⟨u,hu⟩:∃ u,ak3 k=u:=⟨_,rfl⟩
 rw [hu] at e0 ok0 ⊢;refine aad nf isF14 mix (by simp [Tryz.f14]) ?_;simp [Tryz.f14,t1,t2,w0,w1,w2,w3,w4,hI,shpA];refine c2 o1 ?_;simp [w0,w1,w2,w3,w4,hI,shpA];refine c2 o2 ?_;simp [w0,w1,w2,w3,w4,hI,shpA];refine lp (α:=Nat) (fun i=>⟨[(5,.p (.int .i64 i)),(4,.ptr 1 []),(2,.ptr 0 []),(0,.p (.int .i64 n))],[.box false (.p (.st 23 [.str [],.str []])),.box false (.p (eV (rotn i u)))]⟩)
  (fun i=>i≤m) (fun i=>m - i) 0 (Nat.zero_le _) ?_ (hh:=by simp [rotn,e0,anX])
 intro i hi;have wi:IntKind.i64.wrap ((i:Int)+1)=(i:Int)+1:=wi64 _ (by omega) (by omega);have hN:=auy (rotn i u).y ((ag4 ok0 i).2.mono (by decide))
 by_cases him:i<m
 · have hiI:(i:Int)<m:=by omega
   have hnx:rotn (i+1) u=⟨-(rotn i u).y,(rotn i u).x⟩:=rfl;generalize hv:rotn i u=v at *;obtain ⟨x,y⟩:=v;rw [anX];simp [t2,w5,hiI,him,shpA];refine e1 hN ?_;simp [shpA];refine ⟨by repeat' first | rfl | apply And.intro,?_⟩;exact rd (i+1) (show i+1≤m by omega) (he:=by simp [wi]) (hh:=by simp [hnx,anX])
 · have hiI:¬ (i:Int)<m:=by omega
   have him2:i=m:=by omega
   subst him2;simp [t2,w5,shpA]
def NV.rot (v:NV):NV:=⟨v.y.neg,v.x⟩
def NV.rotn:Nat→NV→NV
 | 0,v=>v
 | i+1,v=>(NV.rotn i v).rot
theorem NV.asf (v:NV):∀ i,(NV.rotn i v).q=Go.Abs.rotn i v.q
 | 0=>rfl
 | i+1=>by rw [NV.rotn,Go.Abs.rotn,← NV.asf v i]; rfl
def ai0 (k:Nat):NV:=NV.times ⟨.int (64 - (k:Int)*k),.int (16*(k:Int))⟩ (NF.int (64+(k:Int)*k)).inv
theorem ais (n d:Int):dvI n d=(n:Rat)*((d:Int):Rat)⁻¹:=by
 rw [dvI,Rat.divInt_eq_div,Rat.div_def]
theorem arD (k:Nat):(ai0 k).q=ak3 k:=by
 rw [ai0,NV.times_q,ak3,ais,ais]; rfl
def ari:PV:=.st 128 [.int .i64 0,.nsl]
def zeroV:PV:=.st 132 [.st 130 [ari,ari],.st 130 [ari,ari]]
@[simp] theorem shp_zeroV:shp zeroV=.agg 132:=rfl
theorem c_unit (n:Nat) (h:n<32):aab Tryz.prog 71 [.int .i64 n] (eNV (NV.rotn (n / 8) (ai0 (n % 8)))):=by
 obtain ⟨k,hk⟩:∃ k,n % 8=k:=⟨_,rfl⟩
 have hk8:k<8:=by omega
 obtain ⟨m,hm⟩:∃ m,n / 8=m:=⟨_,rfl⟩
 have hkk:k*k≤7*7:=Nat.mul_le_mul (by omega) (by omega);obtain ⟨kk,hkk2⟩:∃ kk:Nat,k*k=kk:=⟨_,rfl⟩
 have hI:(k:Int)*k=kk:=by rw [← Int.natCast_mul,hkk2]
 rw [hkk2] at hkk;rw [hk,hm];have o1:=c_F (64 - (kk:Int)) (by omega) (by omega);have o2:=c_F (16*(k:Int)) (by omega) (by omega);have o3:=c_F (64+(kk:Int)) (by omega) (by omega);have b3:okR 8 (NF.int (64+(kk:Int))).q:=akh (by omega) (by decide);have b1:okR 8 (NF.int (64 - (kk:Int))).q:=akh (by omega) (by decide);have b2:okR 8 (NF.int (16*(k:Int))).q:=akh (by omega) (by decide);have n3:(NF.int (64+(kk:Int))).q≠0:=by
  show ((64+(kk:Int):Int):Rat)≠0;intro h;have h2:(64+(kk:Int):Int)=0:=by exact_mod_cast h
  omega
 have o4:=apZ (NF.int (64+(kk:Int))) (b3.mono (by decide)) n3;have bV:okU kQ (NV.mk (.int (64 - (kk:Int))) (.int (16*(k:Int)))).q:=⟨b1.mono (by decide),b2.mono (by decide)⟩
 have o5:=awt ⟨.int (64 - (kk:Int)),.int (16*(k:Int))⟩ (NF.int (64+(kk:Int))).inv bV ((ae9 b3).mono (by decide));have ok0:okU 8 (ai0 k).q:=by rw [arD]; exact ahU hk8
 have e0:ai0 k=NV.times ⟨.int (64 - (kk:Int)),.int (16*(k:Int))⟩ (NF.int (64+(kk:Int))).inv:=by rw [ai0,hI]
 rw [← e0,air] at o5;have t1:(n:Int).tmod 8=k:=by rw [Int.tmod_eq_emod_of_nonneg (Int.natCast_nonneg _)]; omega
 have t2:(n:Int).tdiv 8=m:=by rw [Int.tdiv_eq_ediv_of_nonneg (Int.natCast_nonneg _)]; omega
 have w0:IntKind.i64.wrap (k:Int)=k:=wi64 _ (by omega) (by omega);have w1:IntKind.i64.wrap (kk:Int)=kk:=wi64 _ (by omega) (by omega);have w2:IntKind.i64.wrap (64 - (kk:Int))=64 - (kk:Int):=wi64 _ (by omega) (by omega);have w3:IntKind.i64.wrap (64+(kk:Int))=64+(kk:Int):=wi64 _ (by omega) (by omega);have w4:IntKind.i64.wrap (16*(k:Int))=16*(k:Int):=wi64 _ (by omega) (by omega);have w5:IntKind.i64.wrap (m:Int)=m:=wi64 _ (by omega) (by omega);have hm4:m<4:=by omega
 generalize ai0 k=u at *;clear e0;refine aad nf isF71 mix (by simp [Tryz.f71]) ?_;simp [Tryz.f71,t1,t2,w0,w1,w2,w3,w4,w5,hI,shpA];refine c1 o1 ?_;simp [t1,t2,w0,w1,w2,w3,w4,w5,hI,shpA];refine c1 o2 ?_;simp [t1,t2,w0,w1,w2,w3,w4,w5,hI,shpA];refine c1 o3 ?_;simp [t1,t2,w0,w1,w2,w3,w4,w5,hI,shpA];refine c1 o4 ?_;simp [t1,t2,w0,w1,w2,w3,w4,w5,hI,shpA];refine c2 o5 ?_;simp [t1,t2,w0,w1,w2,w3,w4,w5,hI,shpA];refine lp (α:=Nat) (fun i=>⟨[(25,.p (.int .i64 i)),(24,.p (.int .i64 m)),(4,.ptr 1 []),(2,.ptr 0 [])],[.box false (.p zeroV),.box false (.p (eNV (NV.rotn i u)))]⟩)
  (fun i=>i≤m) (fun i=>m - i) 0 (Nat.zero_le _) ?_ (hh:=by simp [NV.rotn,air,eNV,zeroV,ari])
 intro i hi;have wi:IntKind.i64.wrap ((i:Int)+1)=(i:Int)+1:=wi64 _ (by omega) (by omega);have bI:okU 8 (NV.rotn i u).q:=by rw [NV.asf]; exact ag4 ok0 i
 have hN:=apY (NV.rotn i u).y (bI.2.mono (by decide))
 by_cases him:i<m
 · have hnx:NV.rotn (i+1) u=⟨(NV.rotn i u).y.neg,(NV.rotn i u).x⟩:=rfl;generalize hv:NV.rotn i u=v at *;obtain ⟨x,y⟩:=v;have hiI:(i:Int)<m:=by omega
   rw [air];simp [hiI,him,shpA];refine e1 hN ?_;simp [shpA];refine ⟨by repeat' first | rfl | apply And.intro,?_⟩;exact rd (i+1) (show i+1≤m by omega) (he:=by simp [wi]) (hh:=by simp [hnx,air])
 · have hiI:¬ (i:Int)<m:=by omega
   have him2:i=m:=by omega
   subst him2;simp [zeroV,shpA]
theorem c_aUnit (n:Nat) (h:n<32):aab Tryz.prog 11 [.int .i64 n] (.tup [eV (aqk n),.int .i64 0]):=by
 have o1:=c_unit n h;have q:(NV.rotn (n / 8) (ai0 (n % 8))).q=aqk n:=by rw [NV.asf,arD]; rfl
 have o2:=awu (NV.rotn (n / 8) (ai0 (n % 8))) (by rw [q,aqk]; exact (ag4 (ahU (by omega)) _).mono (by decide));rw [q] at o2;have h0:¬ (n:Int)<0:=by omega
 have h1:¬ (32:Int)≤n:=by omega
 refine aad nf isF11 mix (by simp [Tryz.f11]) ?_;generalize NV.rotn (n / 8) (ai0 (n % 8))=u at *;generalize aqk n=v at *;simp [Tryz.f11,h0,h1,shpA];refine c1 o1 ?_;simp [shpA];refine c1 o2 ?_;simp [shpA]
theorem awD (n:Int) (h:n<0∨32≤n):aab Tryz.prog 11 [.int .i64 n] (.tup [.st 23 [.str [],.str []],.int .i64 10]):=by
 refine aad nf isF11 mix (by simp [Tryz.f11]) ?_
 by_cases h0:n<0
 · simp [Tryz.f11,h0,shpA]
 · have h1:32≤n:=by omega
   simp [Tryz.f11,h0,h1,shpA]
def aht (p:PlD):Bool:=decide (p.x.length≤40) && decide (p.y.length≤40) && (decide (chkP p≠0) || (fewB p.x 9 && fewB p.y 9))
theorem aob (p:PlD) (hp:okP p):aab Tryz.prog 9 [ePl p] (.bool (aht p)):=by
 have hC:=acB p hp;have hF:=aoi p 9 hp (by decide);refine aad nf isF9 mix (by simp [Tryz.f9]) ?_;rw [aht];obtain ⟨x,y⟩:=p;simp only [ePl] at *;generalize chkP ⟨x,y⟩=c at *;generalize (fewB x 9 && fewB y 9)=f at *
 by_cases h1:x.length≤40
 · have h1I:(x.length:Int)≤40:=by omega
   by_cases h2:y.length≤40
   · have h2I:(y.length:Int)≤40:=by omega
     by_cases h3:c=0
     · simp [Tryz.f9,h1I,h2I,shpA];refine c1 hC ?_;simp [h3,shpA];refine c2 hF ?_;simp [h1,h2,h3]
     · simp [Tryz.f9,h1I,h2I,shpA];refine c1 hC ?_;simp [h1,h2,h3,shpA]
   · have h2I:¬ (y.length:Int)≤40:=by omega
     simp [Tryz.f9,h1I,h2I,h2,shpA]
 · have h1I:¬ (x.length:Int)≤40:=by omega
   simp [Tryz.f9,h1I,h1,shpA]
theorem ayT {s:List Nat} (h:fewB s 9=true):okR 30 (valQ s):=by
 simp only [fewB,Bool.and_eq_true,decide_eq_true_eq] at h;have h1:=aw2 h.1.2;have h2:=aw2 h.2;exact ⟨Nat.lt_trans h1 (by decide),Nat.lt_trans h2 (by decide)⟩
theorem ajY {p:PlD} (h:aht p=true) (h0:chkP p=0):okU 30 (vP p):=by
 simp only [aht,h0,ne_eq,not_true_eq_false,decide_false,Bool.false_or,Bool.and_eq_true] at h;exact ⟨ayT h.2.1,ayT h.2.2⟩
theorem aja (r:Int):aab Tryz.prog 16 [.int .i64 r] (.int .i64 (abw r)):=by
 refine aad nf isF16 mix (by simp [Tryz.f16]) ?_;rw [abw]
 by_cases h1:r<1
 · simp [Tryz.f16,h1]
   try omega
 · by_cases h2:1000<r
   · simp [Tryz.f16,h1,h2]
     try omega
   · simp [Tryz.f16,h1,h2]
     try omega
theorem c_at (x y:List Nat):aab Tryz.prog 13 [.str x,.str y] (.st 23 [.str x,.str y]):=by
 refine aad nf isF13 mix (by simp [Tryz.f13]) ?_;simp [Tryz.f13,shpA]
theorem so_surd:Tryz.prog.stoodInHeld 32=false:=by kernel_rfl
@[simp] theorem eo_surd:eqOk Tryz.prog 32=true:=by kernel_rfl
def amY (a b c d e f:List Nat):Bool:=decide (a=d∧b=e∧c=f)
@[simp] theorem eq_surd {a b c d e f:List Nat}:eqT Tryz.prog 9 32 (.st 31 [.str a,.str b,.str c]) (.st 31 [.str d,.str e,.str f])=some (amY a b c d e f):=by
 have hu:=Tryz.underlying32;have:((a == d) && ((b == e) && ((c == f) && true)))=amY a b c d e f:=by
  rw [amY,Bool.eq_iff_iff]; simp
 rw [← this];simp [eqT,hu,so_surd,eqTs,shp]
theorem c_law3 (haw : aab Tryz.prog 10 [] (.bool true)) (n r : Int) (p d b : PlD) (hp : okP p) (hd : okP d) (hb : okP b) :
    aab Tryz.prog 3 [.int .i64 n,.int .i64 r,.st 25 [ePl p,ePl d,ePl b]] (.bool true):=by
 have s1:=aob p hp;have s2:=aob d hd;have s3:=aob b hb;refine aad nf isF3 mix (by simp [Tryz.f3]) ?_;rcases hs1:aht p with _ | _
 · rw [hs1] at s1;simp [Tryz.f3,shpA];refine c1 s1 ?_;simp [shpA];refine c0 haw ?_;simp
 rw [hs1] at s1;rcases hs2:aht d with _ | _
 · rw [hs2] at s2;simp [Tryz.f3,shpA];refine c1 s1 ?_;simp [shpA];refine c1 s2 ?_;simp [shpA];refine c0 haw ?_;simp
 rw [hs2] at s2;rcases hs3:aht b with _ | _
 · rw [hs3] at s3;simp [Tryz.f3,shpA];refine c1 s1 ?_;simp [shpA];refine c1 s2 ?_;simp [shpA];refine c1 s3 ?_;simp [shpA];refine c0 haw ?_;simp
 rw [hs3] at s3;simp [Tryz.f3,shpA,-aai];rw [aai];simp [-aai,shpA];rw [aai,aai];simp [-aai,shpA];refine c1 s1 ?_;simp [shpA,-aai];refine c1 s2 ?_;simp [shpA,-aai];refine c1 s3 ?_;simp [shpA,-aai]
 obtain ⟨ux, uy, eu, hU, hUc⟩ : ∃ ux uy eu, aab Tryz.prog 11 [.int .i64 n] (.tup [.st 23 [.str ux, .str uy], .int .i64 eu]) ∧
     (((n<0∨32≤n)∧ux=[]∧uy=[]∧eu=10)∨(¬ (n<0∨32≤n)∧eu=0∧aab Tryz.prog 14 [.int .i64 n] (.st 23 [.str ux,.str uy]))):=by
  by_cases hn:n<0∨32≤n
  · exact ⟨[],[],10,awD n hn,.inl ⟨hn,rfl,rfl,rfl⟩⟩
  · obtain ⟨m,rfl⟩:∃ m:Nat,n=m:=⟨n.toNat,by omega⟩
    exact ⟨_,_,0,c_aUnit m (by omega),.inr ⟨hn,rfl,c_UnitR m (by omega)⟩⟩
 obtain ⟨sa, sb, sd, ec, hK, hKc⟩ : ∃ sa sb sd ec, aab Tryz.prog 12 [.int .i64 r, ePl p, ePl d, ePl b] (.tup [.st 31 [.str sa, .str sb, .str sd], .int .i64 ec]) ∧
     ((aaw [abw r,chkP p,chkD d,chkP b]≠0∧sa=[]∧sb=[]∧sd=[]∧ec=aaw [abw r,chkP p,chkD d,chkP b]) ∨
      (aaw [abw r,chkP p,chkD d,chkP b]=0∧∃ (w v0 v1 v2:V2) (cc:Int),ePl p=eV v0∧ePl d=eV v1∧ePl b=eV v2∧aab Tryz.prog 20 [eV v2,eV v0] (eV w)∧aab Tryz.prog 19 [.int .i64 r,eV w,eV v1] (.int .i64 cc) ∧
       ((cc≠0∧sa=[]∧sb=[]∧sd=[]∧ec=cc)∨(cc=0∧ec=0∧aab Tryz.prog 21 [.int .i64 r,eV w,eV v1] (.st 31 [.str sa,.str sb,.str sd]))))):=by
  by_cases h0:aaw [abw r,chkP p,chkD d,chkP b]=0
  · have hz:=(adU _).1 h0;have hr:abw r=0:=hz _ (by simp);have hP:chkP p=0:=hz _ (by simp);have hD:chkD d=0:=hz _ (by simp);have hB:chkP b=0:=hz _ (by simp);have r1:0≤r∧r≤1000000:=by
     rw [abw] at hr; split at hr <;> omega
    have hDP:=(aiE hD).1;have bp:=ajY hs1 hP;have bd:=ajY hs2 hDP;have bb:=ajY hs3 hB;have hC:=aof r p d b hp hd hb h0 bp bd bb;have ep:∀ x:PlD,chkP x=0→ePl x=eV (vP x):=fun x hx=>by
     obtain ⟨g1,g2⟩:=acr hx;rw [eV,vP];dsimp only;rw [(aeY g1).1,(aeY g2).1]
    have bw:okU 500 ((vP b).sub (vP p)):=(anq bb bp).mono (by decide);have hL:=c_LessR (vP b) (vP p) (bb.mono (by decide)) (bp.mono (by decide));have hCC:=aiN r ((vP b).sub (vP p)) (vP d) r1.1 r1.2 bw (bd.mono (by decide))
    by_cases hc:acH r ((vP b).sub (vP p)) (vP d)=0
    · rw [if_pos hc] at hC;exact ⟨_,_,_,0,hC,.inr ⟨h0,_,vP p,vP d,vP b,_,ep p hP,ep d hDP,ep b hB,hL,hCC,.inr ⟨hc,rfl,ara r _ (vP d) r1.1 r1.2 bw (bd.mono (by decide)) (ayV hD)⟩⟩⟩
    · rw [if_neg hc] at hC;exact ⟨[],[],[],_,hC,.inr ⟨h0,_,vP p,vP d,vP b,_,ep p hP,ep d hDP,ep b hB,hL,hCC,.inl ⟨hc,rfl,rfl,rfl,rfl⟩⟩⟩
  · exact ⟨[],[],[],_,aog r p d b hp hd hb h0,.inl ⟨h0,rfl,rfl,rfl,rfl⟩⟩
 have r1:=aja r;have r2:=acB p hp;have r3:=agt d hd;have r4:=acB b hb;have r5:=awy [abw r,chkP p,chkD d,chkP b] (by simp);simp only [List.map_cons,List.map_nil] at r5;generalize aaw [abw r,chkP p,chkD d,chkP b]=e0 at *;generalize abw r=x1 at *;generalize chkP p=x2 at *;generalize chkD d=x3 at *;generalize chkP b=x4 at *;rw [aai];simp [shpA,-aai];refine c1 hU ?_;simp [shpA,-aai];rw [aai];simp [shpA,-aai];refine c4 hK ?_;simp [shpA,-aai];refine join (fun st=>getE st.env 1=.p (.int .i64 r)∧getE st.env 5=.ptr 0 []∧getE st.env 9=.ptr 2 []∧getE st.env 10=.p (.int .i64 ec)∧st.heap=[.box false (.p (.st 25 [ePl p,ePl d,ePl b])),.box false (.p (.st 23 [.str ux,.str uy])),.box false (.p (.st 31 [.str sa,.str sb,.str sd]))]) ?_ ?_
 · clear hK hKc r1 r2 r3 r4 r5;have hat:=c_at [] [];have pc:aej ux uy ux uy=true:=by simp [aej]
   rcases hUc with ⟨hn,rfl,rfl,rfl⟩ | ⟨hn,rfl,hR⟩
   · by_cases h0:n<0
     · simp [h0,shpA];refine e2 hat ?_;simp [shpA,aej]
     · have h1:32≤n:=by omega
       simp [h0,h1,shpA];refine e2 hat ?_;simp [shpA,aej]
   · have h0:¬ n<0:=by omega
     have h1:¬ 32≤n:=by omega
     simp [h0,h1,shpA];refine e1 hR ?_;simp [shpA,aej]
 rintro ⟨env',heap'⟩ ⟨y1,y5,y9,y10,hpp⟩;dsimp only at y1 y5 y9 y10 hpp;subst hpp;clear hU hUc;simp [y1,y5,y9,y10,shpA];refine e1 r1 ?_;simp [y1,y5,y9,y10,shpA];refine e1 r2 ?_;simp [y1,y5,y9,y10,shpA];refine e1 r3 ?_;simp [y1,y5,y9,y10,shpA];refine e1 r4 ?_;simp [y1,y5,y9,y10,shpA];refine ep r5 (by simp; first | exact ⟨rfl,rfl⟩ | rfl) (by simp; first | exact ⟨rfl,rfl⟩ | rfl) ?_;simp [y1,y5,y9,y10,shpA];refine ⟨by repeat' first | rfl | apply And.intro,?_⟩;have sc0:amY [] [] [] [] [] []=true:=by simp [amY]
 have sc:amY sa sb sd sa sb sd=true:=by simp [amY]
 rcases hKc with ⟨h0,rfl,rfl,rfl,rfl⟩ | ⟨h0,w,v0,v1,v2,cc,ea,ed,eb,hL,hCC,hcase⟩
 · simp [y1,y5,y9,y10,h0,sc0,shpA];refine c0 haw ?_;simp
 · rw [ea,ed,eb];simp [y1,y5,y9,y10,h0,shpA];refine e2 hL ?_;simp [y1,y5,y9,y10,shpA];refine e3 hCC ?_;simp [y1,y5,y9,y10,shpA];rcases hcase with ⟨hc,rfl,rfl,rfl,rfl⟩ | ⟨rfl,rfl,hct⟩
   · simp [y1,y5,y9,y10,hc,sc0,shpA];refine c0 haw ?_;simp
   · simp only [if_true];simp [y1,y5,y9,y10,shpA];refine e2 hL ?_;simp [y1,y5,y9,y10,shpA];refine e3 hct ?_;simp [y1,y5,y9,y10,sc,shpA];refine Go.Abs.e0 haw ?_;simp
end Go.Abs
