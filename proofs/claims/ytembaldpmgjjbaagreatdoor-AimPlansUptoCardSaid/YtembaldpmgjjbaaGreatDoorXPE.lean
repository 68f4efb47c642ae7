import Derived.Test.YtembaldpmgjjbaaGreatDoorXPD
import Derived.Deep.DeepHandedRow
import Derived.Deep.DeepWitnessRowRef
import Derived.Seven
import Derived.SevenTiedAt
/- Parts of a proof. -/
set_option linter.unusedSimpArgs false
set_option linter.unusedVariables false
set_option linter.unusedSectionVars false
open Go.Proofs.Tryz
open Go renaming OpenSpec->ab, Program->ac, Checked->am, ReturnsInHanded->ao, FuncId->av, World->ax, Value->ay
namespace Go.ae
open Go.Proofs
section
variable{H:Type}{enc:TypeId×ay->H}
theorem aP5{p:Pinned}{C:am}{P:ac}(b:p.checked=C)(d:C.prog=P){s:ab}{c:OpenClaim}(f:av)(fn:Func)
 (hn:c.program=p.name)(hs:c.sum=p.sum)(o:c.spec=s.name)
 (q:c.start=.entering)(n:c.outside=[])(aA:c.inits=[])(t:c.under=none)(i:c.initsInPlace=[]/\c.initsUnfollowed=false/\c.initsRecurse=false/\c.initsNamed=[]/\c.initsPassed=[])(m:c.noBlocks=false)(k:c.leaving=false)(g:c.followed=none)(l:c.narrowed=s.cond.isSome)(r:c.still=false)
 (e:P.funcNamed c.func=some f)(hf:P.funcs[f]?=some fn)
 (closed:joinedFacts P f fn s.bare c=true)
 (j:fn.isInstance P c.origin c.targs)(u:fn.isWrapper P c.wrapper c.mainSum)
 (h:∀os:Os,os.Started->∀(H:Type)(a:TypeId×ay->H)(F:Stop.Interp),
  ao c.assume C os f .any (s.preRow a P fn c.domain c.apart c.laid) ((s.at F).post a P fn c.apart c.fresh c.handsOn c.again)):c.holds p s:=by
 subst b;subst d;exact OpenClaim.holds_of_cond f fn hn hs o q n aA t i m k g l r e hf closed j u (fun os st H a _ F=>by rw[OpenClaim.pre_eq_preRow];exact h os st H a F)
theorem atb{a:Assume}{C:am}{P:ac}(q:C.prog=P){os:Os}{f:av}{fn:Func}{s:ab}{F:Stop.Interp}{h:List PathCond}{apart fresh handsOn again:Bool}{laid:List (String×DataW Unit)}
 (x:ownKnob P.godebug=none)(y:os.Started)(u:P.inits.idxOf? f=none)(r:P.funcs[f]?=some fn)
 (z:∃(w:ax)(tape:Tape)(i:Input),w.os=os/\(w.forCall tape i).Shaped P/\i.vars=[]/\Input.okWide P (w.forCall tape i) .any w.heap.size f i/\
  s.preRow enc P fn h apart laid (w.forCall tape i).memory i.args/\a.holds P (lone (Frame.enter P f i.args .normal) [] (w.forCall tape i)))
 (G1:∀(W:ax)(d:Nat)(args:Array ay)(b c:List (DataW H))(g:List MemPlace),
  (∀(j:Nat) t v,fn.params[j]?=some t->args[j]?=some v->Value.okWide P W .any d t v)->
  DataW.Whole enc P fn.params.toList s.vars apart W args.toList b c g->
  (∀k,s.cond=some k->k H (b++c)=true)->
  laidMetH P laid W->
  Calls P f args W fun e l=>∃v,e=.returned v/\(s.at F).post enc P fn apart fresh handsOn again W args v l):
 ao a C os f .any (s.preRow enc P fn h apart laid) ((s.at F).post enc P fn apart fresh handsOn again):=by
 subst q;exact returnsInHanded_of_row x y u r z (fun W d args b c g m n _ o _ p _ _=>G1 W d args b c g m n o p)
theorem aqj{C:am}{P:ac}(b:C.prog=P){os:Os}{f:av}{fn:Func}{s:ab}{a:List PathCond}{apart:Bool}{laid:List (String×DataW Unit)}(w0:ax)(args:Array ay)(d:w0.os=os)
 (h:(w0.forCall (fun _ _=>0) ⟨#[],args,[]⟩).variablesRefB P=true)
 (e:((w0.forCall (fun _ _=>0) ⟨#[],args,[]⟩).heap.toList.drop P.globals.size).take ((begin P (fun _ _=>0) default).world.heap.size-P.globals.size)=
  (begin P (fun _ _=>0) default).world.heap.toList.drop P.globals.size)
 (c:Input.okWideB P (w0.forCall (fun _ _=>0) ⟨#[],args,[]⟩) f ⟨#[],args,[]⟩=true)
 (g:s.preRow enc P fn a apart laid (w0.forCall (fun _ _=>0) ⟨#[],args,[]⟩).memory args):
 ∃(w:ax)(tape:Tape)(i:Input),w.os=os/\(w.forCall tape i).Shaped P/\i.vars=[]/\Input.okWide P (w.forCall tape i) .any w.heap.size f i/\
  s.preRow enc P fn a apart laid (w.forCall tape i).memory i.args/\({modest:=false}:Assume).holds P (lone (Frame.enter P f i.args .normal) [] (w.forCall tape i)):=by
 subst b;exact witness_row_atRef (C:=C) false w0 args d h e c g
theorem aLd{p:Pinned}{C:am}{P:ac}(m:p.checked=C)(n:C.prog=P)(d:Looks){s:ab}{c:OpenClaim}(kinds:List LaidKind)(e:Bool)(a:Bool×String)(b:Bool){g:av}{i:Func}
 (hc:c.holds p s)(z:c.wfByText s=true)(y:c.laidByTextAt d p kinds e)
 (aY:c.start=.entering)(v:c.noBlocks=false/\c.again=false)(u:P.mainIs=some (a.1,a.2.toList))(hn:(!a.1&&a.2.isEmpty&&!b)=false)
 (o:P.funcNamed c.func=some g)(hf:P.funcs[g]?=some i)(r:b=P.looks [])(w:∀t∈i.params.toList,P.wantsStandIn t=false)
 (q:false=c.goesBy P):
 Claim7.holds p (.plain s) {stood:={row:=c,standIns:=[],harness:=a,looks:=b},kinds:=[],alts:=[],laidByText:=true,laidKinds:=kinds,laidTests:=e,laidLooks:=d}:=by
 subst m;subst n;refine Claim7.holds_tied_plain_at d [] kinds e a b hc (fun _ h=>by cases h) z (fun _ h=>by cases h) y aY v u hn (fun f fn k l=>?_) q;rw[o]at k;cases k;rw[hf]at l;cases l;exact⟨r,fun j t x=>w t (by simpa using Array.mem_of_getElem? x)⟩
end
theorem Ot:Go.Proofs.YtembaldpmgjjbaaGreatDoor.Tryz.pinned.checked=checked:=rfl
theorem Co:checked.prog=prog:=rfl
theorem aPd:true=prog.looks []:=k_
theorem aPh:ownKnob prog.godebug=none:=k_
end Go.ae
