import Derived.Test.YtanjnahmbanmaaaGreatDoorPD
import Derived.Deep.DeepHandedRow
import Derived.Deep.DeepWitnessRowRef
import Derived.Seven
import Derived.SevenTiedAt
import Derived.Test.YtanjnahmbanmaaaGreatDoorPA
import Derived.KernelRfl
import Derived.Shelf.Spec.BitsCarry
import Derived.Shelf.Strings.Builder1
import Derived.Shelf.Strings.Builder2
import Derived.Shelf.Strings.Trim
import Derived.Shelf.Small.Utf8
import Derived.Shelf.Small.Bits
import Derived.Shelf.Small.Strs
import Derived.Shelf.Small.Wraps
import Derived.Shelf.Strings.BuilderF
import Derived.Shelf.Strings.Builder2Cap
import Derived.Shelf.Strconv.Atoi
import Derived.Shelf.Strconv.Itoa0
import Derived.Shelf.Strconv.Itoa1
import Derived.Shelf.LaysM
import Derived.Shelf.Strconv.Itoa2
import Derived.Shelf.Strconv.Itoa3
import Derived.Shelf.Strconv.AtoiErrFast
import Derived.Shelf.Strconv.ParseIntEmpty
import Derived.Shelf.Strconv.AtoiFail
import Derived.Shelf.Strconv.Clone
import Derived.Shelf.Strconv.SyntaxError
import Derived.Shelf.LaysC
import Derived.Shelf.Strconv.ToError
import Derived.Shelf.Strconv.Lower
import Derived.Shelf.Strconv.ParseUint10
import Derived.Shelf.Strconv.ParseUint10Empty
import Derived.Shelf.Strconv.ParseUint10Any
import Derived.Shelf.Strconv.ParseInt10
import Derived.Shelf.Strconv.AtoiLong
import Derived.Shelf.Strconv.AtoiInnerAll
import Derived.Shelf.Strconv.RangeError
import Derived.Shelf.Strconv.ToErrorRange
import Derived.Shelf.Strconv.AtoiAll
import Derived.Shelf.Strconv.ParseUintEmpty
import Derived.Shelf.Strings.Search1
import Derived.Shelf.Strings.Search2
import Derived.Shelf.Strings.Cut
import Derived.Shelf.Strings.Shaped
import Derived.Shelf.Strings.Prefix
import Derived.Shelf.Unicode.Decode
import Derived.Shelf.Strings.Runes
import Derived.Shelf.Strings.AsciiSet
import Derived.Shelf.Bits.Mul64
import Derived.Shelf.Strings.Repeat
import Derived.Shelf.Unicode.DecodeSlow
import Derived.Shelf.Unicode.DecodeAny
import Derived.Shelf.Unicode.DecodeLast
import Derived.Shelf.Slices.Turned
import Derived.Test.YtanjnahmbanmaaaGreatDoorProg
/- Parts of a proof. -/
set_option linter.unusedSimpArgs false
set_option linter.unusedVariables false
set_option linter.unusedSectionVars false
namespace Go.Abs
open Go.Proofs
section
variable {H:Type} {enc:TypeId×Value→H}
theorem aAK {p : Pinned} {C : Checked} {P : Program} (hC : p.checked = C) (hP : C.prog = P) {s : OpenSpec} {c : OpenClaim} (f : FuncId) (fn : Func)
    (hn:c.program=p.name) (hs:c.sum=p.sum) (hsp:c.spec=s.name)
    (hstart:c.start=.entering) (hout:c.outside=[]) (hin:c.inits=[]) (hun:c.under=none) (hi4:c.initsInPlace=[]∧c.initsUnfollowed=false∧c.initsRecurse=false∧c.initsNamed=[]∧c.initsPassed=[]) (hnb:c.noBlocks=false) (hlv:c.leaving=false) (hfo:c.followed=none) (hnar:c.narrowed=s.cond.isSome) (hstill:c.still=false)
    (hfn:P.funcNamed c.func=some f) (hf:P.funcs[f]?=some fn)
    (closed:joinedFacts P f fn s.bare c=true)
    (hinst:fn.isInstance P c.origin c.targs) (hwrap:fn.isWrapper P c.wrapper c.mainSum)
    (h:∀ os:Os,os.Started→∀ (H:Type) (enc:TypeId×Value→H) (F:Stop.Interp),
     ReturnsInHanded c.assume C os f .any (s.preRow enc P fn c.domain c.apart c.laid) ((s.at F).post enc P fn c.apart c.fresh c.handsOn c.again)):c.holds p s:=by
 subst hC; subst hP;exact OpenClaim.holds_of_cond f fn hn hs hsp hstart hout hin hun hi4 hnb hlv hfo hnar hstill hfn hf closed hinst hwrap (fun os st H enc _ F=>by rw [OpenClaim.pre_eq_preRow]; exact h os st H enc F)
theorem atb {a : Assume} {C : Checked} {P : Program} (hP : C.prog = P) {os : Os} {f : FuncId} {fn : Func} {s : OpenSpec} {F : Stop.Interp} {conds : List PathCond} {apart fresh handsOn again : Bool} {laid : List (String × DataW Unit)}
    (own:ownKnob P.godebug=none) (started:os.Started) (noInit:P.inits.idxOf? f=none) (hfn:P.funcs[f]?=some fn)
    (witness:∃ (w:World) (tape:Tape) (i:Input),w.os=os∧(w.forCall tape i).Shaped P∧i.vars=[]∧Input.okWide P (w.forCall tape i) .any w.heap.size f i ∧
     s.preRow enc P fn conds apart laid (w.forCall tape i).memory i.args∧a.holds P (lone (Frame.enter P f i.args .normal) [] (w.forCall tape i)))
    (akH:∀ (W:World) (base:Nat) (args:Array Value) (ds gs:List (DataW H)) (before:List MemPlace),
     (∀ (j:Nat) t v,fn.params[j]?=some t→args[j]?=some v→Value.okWide P W .any base t v) →
     DataW.Whole enc P fn.params.toList s.vars apart W args.toList ds gs before →
     (∀ k,s.cond=some k→k H (ds ++ gs)=true) →
     laidMetH P laid W →
     Calls P f args W fun e W'=>∃ v,e=.returned v∧(s.at F).post enc P fn apart fresh handsOn again W args v W') :
    ReturnsInHanded a C os f .any (s.preRow enc P fn conds apart laid) ((s.at F).post enc P fn apart fresh handsOn again):=by
 subst hP;exact returnsInHanded_of_row own started noInit hfn witness (fun W base args ds gs before h1 h2 _ h4 _ h6 _ _=>akH W base args ds gs before h1 h2 h4 h6)
theorem aqj {C : Checked} {P : Program} (hP : C.prog = P) {os : Os} {f : FuncId} {fn : Func} {s : OpenSpec} {conds : List PathCond} {apart : Bool} {laid : List (String × DataW Unit)} (w0 : World) (args : Array Value) (hos : w0.os = os)
    (hv:(w0.forCall (fun _ _=>0) ⟨#[],args,[]⟩).variablesRefB P=true)
    (hr:((w0.forCall (fun _ _=>0) ⟨#[],args,[]⟩).heap.toList.drop P.globals.size).take ((begin P (fun _ _=>0) default).world.heap.size - P.globals.size) =
     (begin P (fun _ _=>0) default).world.heap.toList.drop P.globals.size)
    (hok:Input.okWideB P (w0.forCall (fun _ _=>0) ⟨#[],args,[]⟩) f ⟨#[],args,[]⟩=true)
    (hrow:s.preRow enc P fn conds apart laid (w0.forCall (fun _ _=>0) ⟨#[],args,[]⟩).memory args) :
    ∃ (w:World) (tape:Tape) (i:Input),w.os=os∧(w.forCall tape i).Shaped P∧i.vars=[]∧Input.okWide P (w.forCall tape i) .any w.heap.size f i ∧
     s.preRow enc P fn conds apart laid (w.forCall tape i).memory i.args∧({ modest:=false }:Assume).holds P (lone (Frame.enter P f i.args .normal) [] (w.forCall tape i)):=by
 subst hP;exact witness_row_atRef (C:=C) false w0 args hos hv hr hok hrow
theorem aAQ {p : Pinned} {C : Checked} {P : Program} (hC : p.checked = C) (hP : C.prog = P) (Lk : Looks) {s : OpenSpec} {c : OpenClaim} (kinds : List LaidKind) (tests : Bool) (har : Bool × String) (lk : Bool) {f0 : FuncId} {fn0 : Func}
    (hc:c.holds p s) (hw:c.wfByText s=true) (htie:c.laidByTextAt Lk p kinds tests)
    (hst:c.start=.entering) (hnb:c.noBlocks=false∧c.again=false) (hm:P.mainIs=some (har.1,har.2.toList)) (hn:(!har.1 && har.2.isEmpty && !lk)=false)
    (hfn:P.funcNamed c.func=some f0) (hf:P.funcs[f0]?=some fn0) (hlk:lk=P.looks []) (hsi:∀ t∈fn0.params.toList,P.wantsStandIn t=false)
    (hg:false=c.goesBy P) :
    Claim7.holds p (.plain s) { stood:={ row:=c,standIns:=[],harness:=har,looks:=lk },kinds:=[],alts:=[],laidByText:=true,laidKinds:=kinds,laidTests:=tests,laidLooks:=Lk }:=by
 subst hC; subst hP;refine Claim7.holds_tied_plain_at Lk [] kinds tests har lk hc (fun _ h=>by cases h) hw (fun _ h=>by cases h) htie hst hnb hm hn (fun f fn h1 h2=>?_) hg;rw [hfn] at h1;cases h1;rw [hf] at h2;cases h2;exact ⟨hlk,fun j t ht=>hsi t (by simpa using Array.mem_of_getElem? ht)⟩
end
theorem ahM:Go.Proofs.YtanjnahmbanmaaaGreatDoor.Tryz.pinned.checked=Tryz.checked:=rfl
theorem ac1:Tryz.checked.prog=Tryz.prog:=rfl
theorem aAM:true=Tryz.prog.looks []:=by kernel_rfl
theorem p_own:ownKnob Tryz.prog.godebug=none:=by kernel_rfl
theorem mix:Tryz.prog.follows .mixedOrders=true:=by kernel_rfl
abbrev nf:FuncId→Bool:=fun _=>false
theorem isF2:IsFn Tryz.prog 2 Tryz.f2:=⟨Tryz.func2,by kernel_rfl⟩
theorem isF3:IsFn Tryz.prog 3 Tryz.f3:=⟨Tryz.func3,by kernel_rfl⟩
theorem isF4:IsFn Tryz.prog 4 Tryz.f4:=⟨Tryz.func4,by kernel_rfl⟩
theorem isF5:IsFn Tryz.prog 5 Tryz.f5:=⟨Tryz.func5,by kernel_rfl⟩
theorem isF6:IsFn Tryz.prog 6 Tryz.f6:=⟨Tryz.func6,by kernel_rfl⟩
theorem isF7:IsFn Tryz.prog 7 Tryz.f7:=⟨Tryz.func7,by kernel_rfl⟩
theorem isF8:IsFn Tryz.prog 8 Tryz.f8:=⟨Tryz.func8,by kernel_rfl⟩
theorem isF9:IsFn Tryz.prog 9 Tryz.f9:=⟨Tryz.func9,by kernel_rfl⟩
theorem isF10:IsFn Tryz.prog 10 Tryz.f10:=⟨Tryz.func10,by kernel_rfl⟩
theorem isF11:IsFn Tryz.prog 11 Tryz.f11:=⟨Tryz.func11,by kernel_rfl⟩
theorem isF12:IsFn Tryz.prog 12 Tryz.f12:=⟨Tryz.func12,by kernel_rfl⟩
theorem isF13:IsFn Tryz.prog 13 Tryz.f13:=⟨Tryz.func13,by kernel_rfl⟩
theorem isF14:IsFn Tryz.prog 14 Tryz.f14:=⟨Tryz.func14,by kernel_rfl⟩
theorem isF15:IsFn Tryz.prog 15 Tryz.f15:=⟨Tryz.func15,by kernel_rfl⟩
theorem isF16:IsFn Tryz.prog 16 Tryz.f16:=⟨Tryz.func16,by kernel_rfl⟩
theorem isF17:IsFn Tryz.prog 17 Tryz.f17:=⟨Tryz.func17,by kernel_rfl⟩
theorem isF18:IsFn Tryz.prog 18 Tryz.f18:=⟨Tryz.func18,by kernel_rfl⟩
theorem isF19:IsFn Tryz.prog 19 Tryz.f19:=⟨Tryz.func19,by kernel_rfl⟩
theorem isF20:IsFn Tryz.prog 20 Tryz.f20:=⟨Tryz.func20,by kernel_rfl⟩
theorem isF21:IsFn Tryz.prog 21 Tryz.f21:=⟨Tryz.func21,by kernel_rfl⟩
theorem isF22:IsFn Tryz.prog 22 Tryz.f22:=⟨Tryz.func22,by kernel_rfl⟩
theorem isF23:IsFn Tryz.prog 23 Tryz.f23:=⟨Tryz.func23,by kernel_rfl⟩
theorem isF24:IsFn Tryz.prog 24 Tryz.f24:=⟨Tryz.func24,by kernel_rfl⟩
theorem isF25:IsFn Tryz.prog 25 Tryz.f25:=⟨Tryz.func25,by kernel_rfl⟩
theorem isF26:IsFn Tryz.prog 26 Tryz.f26:=⟨Tryz.func26,by kernel_rfl⟩
theorem isF27:IsFn Tryz.prog 27 Tryz.f27:=⟨Tryz.func27,by kernel_rfl⟩
theorem isF28:IsFn Tryz.prog 28 Tryz.f28:=⟨Tryz.func28,by kernel_rfl⟩
theorem isF29:IsFn Tryz.prog 29 Tryz.f29:=⟨Tryz.func29,by kernel_rfl⟩
theorem isF30:IsFn Tryz.prog 30 Tryz.f30:=⟨Tryz.func30,by kernel_rfl⟩
theorem isF31:IsFn Tryz.prog 31 Tryz.f31:=⟨Tryz.func31,by kernel_rfl⟩
theorem isF32:IsFn Tryz.prog 32 Tryz.f32:=⟨Tryz.func32,by kernel_rfl⟩
theorem isF33:IsFn Tryz.prog 33 Tryz.f33:=⟨Tryz.func33,by kernel_rfl⟩
theorem isF34:IsFn Tryz.prog 34 Tryz.f34:=⟨Tryz.func34,by kernel_rfl⟩
theorem isF35:IsFn Tryz.prog 35 Tryz.f35:=⟨Tryz.func35,by kernel_rfl⟩
theorem isF36:IsFn Tryz.prog 36 Tryz.f36:=⟨Tryz.func36,by kernel_rfl⟩
theorem isF37:IsFn Tryz.prog 37 Tryz.f37:=⟨Tryz.func37,by kernel_rfl⟩
theorem isF38:IsFn Tryz.prog 38 Tryz.f38:=⟨Tryz.func38,by kernel_rfl⟩
theorem isF39:IsFn Tryz.prog 39 Tryz.f39:=⟨Tryz.func39,by kernel_rfl⟩
theorem isF40:IsFn Tryz.prog 40 Tryz.f40:=⟨Tryz.func40,by kernel_rfl⟩
theorem isF41:IsFn Tryz.prog 41 Tryz.f41:=⟨Tryz.func41,by kernel_rfl⟩
theorem isF42:IsFn Tryz.prog 42 Tryz.f42:=⟨Tryz.func42,by kernel_rfl⟩
theorem isF43:IsFn Tryz.prog 43 Tryz.f43:=⟨Tryz.func43,by kernel_rfl⟩
theorem isF44:IsFn Tryz.prog 44 Tryz.f44:=⟨Tryz.func44,by kernel_rfl⟩
theorem isF45:IsFn Tryz.prog 45 Tryz.f45:=⟨Tryz.func45,by kernel_rfl⟩
theorem isF46:IsFn Tryz.prog 46 Tryz.f46:=⟨Tryz.func46,by kernel_rfl⟩
theorem isF47:IsFn Tryz.prog 47 Tryz.f47:=⟨Tryz.func47,by kernel_rfl⟩
theorem isF48:IsFn Tryz.prog 48 Tryz.f48:=⟨Tryz.func48,by kernel_rfl⟩
theorem isF49:IsFn Tryz.prog 49 Tryz.f49:=⟨Tryz.func49,by kernel_rfl⟩
theorem isF50:IsFn Tryz.prog 50 Tryz.f50:=⟨Tryz.func50,by kernel_rfl⟩
theorem isF51:IsFn Tryz.prog 51 Tryz.f51:=⟨Tryz.func51,by kernel_rfl⟩
theorem isF52:IsFn Tryz.prog 52 Tryz.f52:=⟨Tryz.func52,by kernel_rfl⟩
theorem isF53:IsFn Tryz.prog 53 Tryz.f53:=⟨Tryz.func53,by kernel_rfl⟩
theorem isF54:IsFn Tryz.prog 54 Tryz.f54:=⟨Tryz.func54,by kernel_rfl⟩
theorem isF55:IsFn Tryz.prog 55 Tryz.f55:=⟨Tryz.func55,by kernel_rfl⟩
theorem isF56:IsFn Tryz.prog 56 Tryz.f56:=⟨Tryz.func56,by kernel_rfl⟩
theorem isF57:IsFn Tryz.prog 57 Tryz.f57:=⟨Tryz.func57,by kernel_rfl⟩
theorem isF58:IsFn Tryz.prog 58 Tryz.f58:=⟨Tryz.func58,by kernel_rfl⟩
theorem isF59:IsFn Tryz.prog 59 Tryz.f59:=⟨Tryz.func59,by kernel_rfl⟩
theorem isF60:IsFn Tryz.prog 60 Tryz.f60:=⟨Tryz.func60,by kernel_rfl⟩
theorem isF61:IsFn Tryz.prog 61 Tryz.f61:=⟨Tryz.func61,by kernel_rfl⟩
theorem isF62:IsFn Tryz.prog 62 Tryz.f62:=⟨Tryz.func62,by kernel_rfl⟩
theorem isF63:IsFn Tryz.prog 63 Tryz.f63:=⟨Tryz.func63,by kernel_rfl⟩
theorem isF64:IsFn Tryz.prog 64 Tryz.f64:=⟨Tryz.func64,by kernel_rfl⟩
theorem isF65:IsFn Tryz.prog 65 Tryz.f65:=⟨Tryz.func65,by kernel_rfl⟩
theorem isF66:IsFn Tryz.prog 66 Tryz.f66:=⟨Tryz.func66,by kernel_rfl⟩
theorem isF67:IsFn Tryz.prog 67 Tryz.f67:=⟨Tryz.func67,by kernel_rfl⟩
theorem isF68:IsFn Tryz.prog 68 Tryz.f68:=⟨Tryz.func68,by kernel_rfl⟩
theorem isF69:IsFn Tryz.prog 69 Tryz.f69:=⟨Tryz.func69,by kernel_rfl⟩
theorem isF70:IsFn Tryz.prog 70 Tryz.f70:=⟨Tryz.func70,by kernel_rfl⟩
theorem isF71:IsFn Tryz.prog 71 Tryz.f71:=⟨Tryz.func71,by kernel_rfl⟩
theorem isF72:IsFn Tryz.prog 72 Tryz.f72:=⟨Tryz.func72,by kernel_rfl⟩
theorem isF73:IsFn Tryz.prog 73 Tryz.f73:=⟨Tryz.func73,by kernel_rfl⟩
theorem isF74:IsFn Tryz.prog 74 Tryz.f74:=⟨Tryz.func74,by kernel_rfl⟩
theorem isF75:IsFn Tryz.prog 75 Tryz.f75:=⟨Tryz.func75,by kernel_rfl⟩
theorem isF76:IsFn Tryz.prog 76 Tryz.f76:=⟨Tryz.func76,by kernel_rfl⟩
theorem isF77:IsFn Tryz.prog 77 Tryz.f77:=⟨Tryz.func77,by kernel_rfl⟩
theorem isF78:IsFn Tryz.prog 78 Tryz.f78:=⟨Tryz.func78,by kernel_rfl⟩
theorem isF79:IsFn Tryz.prog 79 Tryz.f79:=⟨Tryz.func79,by kernel_rfl⟩
theorem isF80:IsFn Tryz.prog 80 Tryz.f80:=⟨Tryz.func80,by kernel_rfl⟩
theorem isF81:IsFn Tryz.prog 81 Tryz.f81:=⟨Tryz.func81,by kernel_rfl⟩
theorem isF82:IsFn Tryz.prog 82 Tryz.f82:=⟨Tryz.func82,by kernel_rfl⟩
theorem isF83:IsFn Tryz.prog 83 Tryz.f83:=⟨Tryz.func83,by kernel_rfl⟩
theorem isF84:IsFn Tryz.prog 84 Tryz.f84:=⟨Tryz.func84,by kernel_rfl⟩
theorem isF85:IsFn Tryz.prog 85 Tryz.f85:=⟨Tryz.func85,by kernel_rfl⟩
theorem isF86:IsFn Tryz.prog 86 Tryz.f86:=⟨Tryz.func86,by kernel_rfl⟩
theorem isF87:IsFn Tryz.prog 87 Tryz.f87:=⟨Tryz.func87,by kernel_rfl⟩
theorem isF88:IsFn Tryz.prog 88 Tryz.f88:=⟨Tryz.func88,by kernel_rfl⟩
theorem isF89:IsFn Tryz.prog 89 Tryz.f89:=⟨Tryz.func89,by kernel_rfl⟩
theorem isF90:IsFn Tryz.prog 90 Tryz.f90:=⟨Tryz.func90,by kernel_rfl⟩
theorem isF91:IsFn Tryz.prog 91 Tryz.f91:=⟨Tryz.func91,by kernel_rfl⟩
theorem isF92:IsFn Tryz.prog 92 Tryz.f92:=⟨Tryz.func92,by kernel_rfl⟩
theorem isF93:IsFn Tryz.prog 93 Tryz.f93:=⟨Tryz.func93,by kernel_rfl⟩
theorem isF94:IsFn Tryz.prog 94 Tryz.f94:=⟨Tryz.func94,by kernel_rfl⟩
theorem isF95:IsFn Tryz.prog 95 Tryz.f95:=⟨Tryz.func95,by kernel_rfl⟩
theorem isF96:IsFn Tryz.prog 96 Tryz.f96:=⟨Tryz.func96,by kernel_rfl⟩
theorem isF97:IsFn Tryz.prog 97 Tryz.f97:=⟨Tryz.func97,by kernel_rfl⟩
theorem isF98:IsFn Tryz.prog 98 Tryz.f98:=⟨Tryz.func98,by kernel_rfl⟩
theorem isF99:IsFn Tryz.prog 99 Tryz.f99:=⟨Tryz.func99,by kernel_rfl⟩
theorem isF100:IsFn Tryz.prog 100 Tryz.f100:=⟨Tryz.func100,by kernel_rfl⟩
theorem isF101:IsFn Tryz.prog 101 Tryz.f101:=⟨Tryz.func101,by kernel_rfl⟩
theorem isF102:IsFn Tryz.prog 102 Tryz.f102:=⟨Tryz.func102,by kernel_rfl⟩
theorem isF103:IsFn Tryz.prog 103 Tryz.f103:=⟨Tryz.func103,by kernel_rfl⟩
theorem ayM:IsFn Tryz.prog 104 Tryz.f104:=⟨Tryz.func104,by kernel_rfl⟩
theorem isF105:IsFn Tryz.prog 105 Tryz.f105:=⟨Tryz.func105,by kernel_rfl⟩
theorem ayL:IsFn Tryz.prog 106 Tryz.f106:=⟨Tryz.func106,by kernel_rfl⟩
theorem isF107:IsFn Tryz.prog 107 Tryz.f107:=⟨Tryz.func107,by kernel_rfl⟩
theorem isF108:IsFn Tryz.prog 108 Tryz.f108:=⟨Tryz.func108,by kernel_rfl⟩
theorem isF109:IsFn Tryz.prog 109 Tryz.f109:=⟨Tryz.func109,by kernel_rfl⟩
theorem isF110:IsFn Tryz.prog 110 Tryz.f110:=⟨Tryz.func110,by kernel_rfl⟩
theorem isF111:IsFn Tryz.prog 111 Tryz.f111:=⟨Tryz.func111,by kernel_rfl⟩
theorem isF112:IsFn Tryz.prog 112 Tryz.f112:=⟨Tryz.func112,by kernel_rfl⟩
theorem isF113:IsFn Tryz.prog 113 Tryz.f113:=⟨Tryz.func113,by kernel_rfl⟩
theorem isF114:IsFn Tryz.prog 114 Tryz.f114:=⟨Tryz.func114,by kernel_rfl⟩
theorem ayK:IsFn Tryz.prog 115 Tryz.f115:=⟨Tryz.func115,by kernel_rfl⟩
theorem ayJ:IsFn Tryz.prog 116 Tryz.f116:=⟨Tryz.func116,by kernel_rfl⟩
theorem ayI:IsFn Tryz.prog 117 Tryz.f117:=⟨Tryz.func117,by kernel_rfl⟩
theorem azU:IsFn Tryz.prog 118 Tryz.f118:=⟨Tryz.func118,by kernel_rfl⟩
theorem ayH:IsFn Tryz.prog 119 Tryz.f119:=⟨Tryz.func119,by kernel_rfl⟩
theorem azT:IsFn Tryz.prog 120 Tryz.f120:=⟨Tryz.func120,by kernel_rfl⟩
theorem azS:IsFn Tryz.prog 121 Tryz.f121:=⟨Tryz.func121,by kernel_rfl⟩
theorem isF122:IsFn Tryz.prog 122 Tryz.f122:=⟨Tryz.func122,by kernel_rfl⟩
theorem isF123:IsFn Tryz.prog 123 Tryz.f123:=⟨Tryz.func123,by kernel_rfl⟩
theorem isF124:IsFn Tryz.prog 124 Tryz.f124:=⟨Tryz.func124,by kernel_rfl⟩
theorem isF125:IsFn Tryz.prog 125 Tryz.f125:=⟨Tryz.func125,by kernel_rfl⟩
theorem isF126:IsFn Tryz.prog 126 Tryz.f126:=⟨Tryz.func126,by kernel_rfl⟩
theorem isF127:IsFn Tryz.prog 127 Tryz.f127:=⟨Tryz.func127,by kernel_rfl⟩
theorem isF128:IsFn Tryz.prog 128 Tryz.f128:=⟨Tryz.func128,by kernel_rfl⟩
theorem isF129:IsFn Tryz.prog 129 Tryz.f129:=⟨Tryz.func129,by kernel_rfl⟩
theorem isF130:IsFn Tryz.prog 130 Tryz.f130:=⟨Tryz.func130,by kernel_rfl⟩
theorem isF131:IsFn Tryz.prog 131 Tryz.f131:=⟨Tryz.func131,by kernel_rfl⟩
theorem isF132:IsFn Tryz.prog 132 Tryz.f132:=⟨Tryz.func132,by kernel_rfl⟩
theorem isF133:IsFn Tryz.prog 133 Tryz.f133:=⟨Tryz.func133,by kernel_rfl⟩
theorem isF134:IsFn Tryz.prog 134 Tryz.f134:=⟨Tryz.func134,by kernel_rfl⟩
theorem isF135:IsFn Tryz.prog 135 Tryz.f135:=⟨Tryz.func135,by kernel_rfl⟩
theorem isF136:IsFn Tryz.prog 136 Tryz.f136:=⟨Tryz.func136,by kernel_rfl⟩
theorem isF137:IsFn Tryz.prog 137 Tryz.f137:=⟨Tryz.func137,by kernel_rfl⟩
theorem isF138:IsFn Tryz.prog 138 Tryz.f138:=⟨Tryz.func138,by kernel_rfl⟩
theorem isF139:IsFn Tryz.prog 139 Tryz.f139:=⟨Tryz.func139,by kernel_rfl⟩
theorem isF140:IsFn Tryz.prog 140 Tryz.f140:=⟨Tryz.func140,by kernel_rfl⟩
theorem isF141:IsFn Tryz.prog 141 Tryz.f141:=⟨Tryz.func141,by kernel_rfl⟩
theorem isF142:IsFn Tryz.prog 142 Tryz.f142:=⟨Tryz.func142,by kernel_rfl⟩
theorem isF143:IsFn Tryz.prog 143 Tryz.f143:=⟨Tryz.func143,by kernel_rfl⟩
theorem isF144:IsFn Tryz.prog 144 Tryz.f144:=⟨Tryz.func144,by kernel_rfl⟩
theorem ayG:IsFn Tryz.prog 145 Tryz.f145:=⟨Tryz.func145,by kernel_rfl⟩
theorem ayF:IsFn Tryz.prog 146 Tryz.f146:=⟨Tryz.func146,by kernel_rfl⟩
theorem atl:IsFn Tryz.prog 147 Tryz.f147:=⟨Tryz.func147,by kernel_rfl⟩
theorem ayE:IsFn Tryz.prog 148 Tryz.f148:=⟨Tryz.func148,by kernel_rfl⟩
theorem ayD:IsFn Tryz.prog 149 Tryz.f149:=⟨Tryz.func149,by kernel_rfl⟩
theorem ayC:IsFn Tryz.prog 150 Tryz.f150:=⟨Tryz.func150,by kernel_rfl⟩
theorem ayB:IsFn Tryz.prog 151 Tryz.f151:=⟨Tryz.func151,by kernel_rfl⟩
theorem ayA:IsFn Tryz.prog 152 Tryz.f152:=⟨Tryz.func152,by kernel_rfl⟩
theorem aAI:IsFn Tryz.prog 153 Tryz.f153:=⟨Tryz.func153,by kernel_rfl⟩
theorem aAH:IsFn Tryz.prog 154 Tryz.f154:=⟨Tryz.func154,by kernel_rfl⟩
theorem aAG:IsFn Tryz.prog 155 Tryz.f155:=⟨Tryz.func155,by kernel_rfl⟩
theorem azR:IsFn Tryz.prog 156 Tryz.f156:=⟨Tryz.func156,by kernel_rfl⟩
theorem isF157:IsFn Tryz.prog 157 Tryz.f157:=⟨Tryz.func157,by kernel_rfl⟩
theorem isF158:IsFn Tryz.prog 158 Tryz.f158:=⟨Tryz.func158,by kernel_rfl⟩
theorem isF159:IsFn Tryz.prog 159 Tryz.f159:=⟨Tryz.func159,by kernel_rfl⟩
theorem isF160:IsFn Tryz.prog 160 Tryz.f160:=⟨Tryz.func160,by kernel_rfl⟩
theorem isF161:IsFn Tryz.prog 161 Tryz.f161:=⟨Tryz.func161,by kernel_rfl⟩
theorem ayz:IsFn Tryz.prog 162 Tryz.f162:=⟨Tryz.func162,by kernel_rfl⟩
theorem ayy:IsFn Tryz.prog 163 Tryz.f163:=⟨Tryz.func163,by kernel_rfl⟩
theorem ayx:IsFn Tryz.prog 164 Tryz.f164:=⟨Tryz.func164,by kernel_rfl⟩
theorem ayw:IsFn Tryz.prog 165 Tryz.f165:=⟨Tryz.func165,by kernel_rfl⟩
theorem ayv:IsFn Tryz.prog 166 Tryz.f166:=⟨Tryz.func166,by kernel_rfl⟩
theorem ayu:IsFn Tryz.prog 167 Tryz.f167:=⟨Tryz.func167,by kernel_rfl⟩
theorem ayt:IsFn Tryz.prog 168 Tryz.f168:=⟨Tryz.func168,by kernel_rfl⟩
theorem ays:IsFn Tryz.prog 169 Tryz.f169:=⟨Tryz.func169,by kernel_rfl⟩
theorem ayr:IsFn Tryz.prog 170 Tryz.f170:=⟨Tryz.func170,by kernel_rfl⟩
theorem ayq:IsFn Tryz.prog 171 Tryz.f171:=⟨Tryz.func171,by kernel_rfl⟩
theorem ayp:IsFn Tryz.prog 172 Tryz.f172:=⟨Tryz.func172,by kernel_rfl⟩
theorem ayo:IsFn Tryz.prog 173 Tryz.f173:=⟨Tryz.func173,by kernel_rfl⟩
theorem ayn:IsFn Tryz.prog 174 Tryz.f174:=⟨Tryz.func174,by kernel_rfl⟩
theorem isF175:IsFn Tryz.prog 175 Tryz.f175:=⟨Tryz.func175,by kernel_rfl⟩
theorem isF176:IsFn Tryz.prog 176 Tryz.f176:=⟨Tryz.func176,by kernel_rfl⟩
theorem isF177:IsFn Tryz.prog 177 Tryz.f177:=⟨Tryz.func177,by kernel_rfl⟩
theorem isF178:IsFn Tryz.prog 178 Tryz.f178:=⟨Tryz.func178,by kernel_rfl⟩
theorem isF179:IsFn Tryz.prog 179 Tryz.f179:=⟨Tryz.func179,by kernel_rfl⟩
theorem isF180:IsFn Tryz.prog 180 Tryz.f180:=⟨Tryz.func180,by kernel_rfl⟩
theorem isF181:IsFn Tryz.prog 181 Tryz.f181:=⟨Tryz.func181,by kernel_rfl⟩
theorem isF182:IsFn Tryz.prog 182 Tryz.f182:=⟨Tryz.func182,by kernel_rfl⟩
theorem isF183:IsFn Tryz.prog 183 Tryz.f183:=⟨Tryz.func183,by kernel_rfl⟩
theorem isF184:IsFn Tryz.prog 184 Tryz.f184:=⟨Tryz.func184,by kernel_rfl⟩
theorem isF185:IsFn Tryz.prog 185 Tryz.f185:=⟨Tryz.func185,by kernel_rfl⟩
theorem isF186:IsFn Tryz.prog 186 Tryz.f186:=⟨Tryz.func186,by kernel_rfl⟩
theorem isF187:IsFn Tryz.prog 187 Tryz.f187:=⟨Tryz.func187,by kernel_rfl⟩
theorem isF188:IsFn Tryz.prog 188 Tryz.f188:=⟨Tryz.func188,by kernel_rfl⟩
theorem isF189:IsFn Tryz.prog 189 Tryz.f189:=⟨Tryz.func189,by kernel_rfl⟩
theorem aym:IsFn Tryz.prog 190 Tryz.f190:=⟨Tryz.func190,by kernel_rfl⟩
theorem isF191:IsFn Tryz.prog 191 Tryz.f191:=⟨Tryz.func191,by kernel_rfl⟩
theorem ayl:IsFn Tryz.prog 192 Tryz.f192:=⟨Tryz.func192,by kernel_rfl⟩
theorem isF193:IsFn Tryz.prog 193 Tryz.f193:=⟨Tryz.func193,by kernel_rfl⟩
theorem isF194:IsFn Tryz.prog 194 Tryz.f194:=⟨Tryz.func194,by kernel_rfl⟩
theorem isF195:IsFn Tryz.prog 195 Tryz.f195:=⟨Tryz.func195,by kernel_rfl⟩
theorem isF196:IsFn Tryz.prog 196 Tryz.f196:=⟨Tryz.func196,by kernel_rfl⟩
theorem ayk:IsFn Tryz.prog 197 Tryz.f197:=⟨Tryz.func197,by kernel_rfl⟩
theorem ayj:IsFn Tryz.prog 198 Tryz.f198:=⟨Tryz.func198,by kernel_rfl⟩
theorem isF199:IsFn Tryz.prog 199 Tryz.f199:=⟨Tryz.func199,by kernel_rfl⟩
theorem isF200:IsFn Tryz.prog 200 Tryz.f200:=⟨Tryz.func200,by kernel_rfl⟩
theorem isF201:IsFn Tryz.prog 201 Tryz.f201:=⟨Tryz.func201,by kernel_rfl⟩
theorem isF202:IsFn Tryz.prog 202 Tryz.f202:=⟨Tryz.func202,by kernel_rfl⟩
theorem isF203:IsFn Tryz.prog 203 Tryz.f203:=⟨Tryz.func203,by kernel_rfl⟩
theorem isF204:IsFn Tryz.prog 204 Tryz.f204:=⟨Tryz.func204,by kernel_rfl⟩
theorem isF205:IsFn Tryz.prog 205 Tryz.f205:=⟨Tryz.func205,by kernel_rfl⟩
theorem isF206:IsFn Tryz.prog 206 Tryz.f206:=⟨Tryz.func206,by kernel_rfl⟩
theorem isF207:IsFn Tryz.prog 207 Tryz.f207:=⟨Tryz.func207,by kernel_rfl⟩
theorem isF208:IsFn Tryz.prog 208 Tryz.f208:=⟨Tryz.func208,by kernel_rfl⟩
theorem isF209:IsFn Tryz.prog 209 Tryz.f209:=⟨Tryz.func209,by kernel_rfl⟩
theorem isF210:IsFn Tryz.prog 210 Tryz.f210:=⟨Tryz.func210,by kernel_rfl⟩
theorem isF211:IsFn Tryz.prog 211 Tryz.f211:=⟨Tryz.func211,by kernel_rfl⟩
theorem isF212:IsFn Tryz.prog 212 Tryz.f212:=⟨Tryz.func212,by kernel_rfl⟩
theorem isF213:IsFn Tryz.prog 213 Tryz.f213:=⟨Tryz.func213,by kernel_rfl⟩
theorem isF214:IsFn Tryz.prog 214 Tryz.f214:=⟨Tryz.func214,by kernel_rfl⟩
theorem isF215:IsFn Tryz.prog 215 Tryz.f215:=⟨Tryz.func215,by kernel_rfl⟩
theorem isF216:IsFn Tryz.prog 216 Tryz.f216:=⟨Tryz.func216,by kernel_rfl⟩
theorem isF217:IsFn Tryz.prog 217 Tryz.f217:=⟨Tryz.func217,by kernel_rfl⟩
theorem isF218:IsFn Tryz.prog 218 Tryz.f218:=⟨Tryz.func218,by kernel_rfl⟩
theorem isF219:IsFn Tryz.prog 219 Tryz.f219:=⟨Tryz.func219,by kernel_rfl⟩
theorem isF220:IsFn Tryz.prog 220 Tryz.f220:=⟨Tryz.func220,by kernel_rfl⟩
theorem isF221:IsFn Tryz.prog 221 Tryz.f221:=⟨Tryz.func221,by kernel_rfl⟩
theorem isF222:IsFn Tryz.prog 222 Tryz.f222:=⟨Tryz.func222,by kernel_rfl⟩
theorem isF223:IsFn Tryz.prog 223 Tryz.f223:=⟨Tryz.func223,by kernel_rfl⟩
theorem isF224:IsFn Tryz.prog 224 Tryz.f224:=⟨Tryz.func224,by kernel_rfl⟩
theorem isF225:IsFn Tryz.prog 225 Tryz.f225:=⟨Tryz.func225,by kernel_rfl⟩
theorem isF226:IsFn Tryz.prog 226 Tryz.f226:=⟨Tryz.func226,by kernel_rfl⟩
theorem isF227:IsFn Tryz.prog 227 Tryz.f227:=⟨Tryz.func227,by kernel_rfl⟩
theorem isF228:IsFn Tryz.prog 228 Tryz.f228:=⟨Tryz.func228,by kernel_rfl⟩
theorem ayi:IsFn Tryz.prog 229 Tryz.f229:=⟨Tryz.func229,by kernel_rfl⟩
theorem ayh:IsFn Tryz.prog 230 Tryz.f230:=⟨Tryz.func230,by kernel_rfl⟩
theorem ayg:IsFn Tryz.prog 231 Tryz.f231:=⟨Tryz.func231,by kernel_rfl⟩
theorem ayf:IsFn Tryz.prog 232 Tryz.f232:=⟨Tryz.func232,by kernel_rfl⟩
theorem aye:IsFn Tryz.prog 233 Tryz.f233:=⟨Tryz.func233,by kernel_rfl⟩
theorem ayd:IsFn Tryz.prog 234 Tryz.f234:=⟨Tryz.func234,by kernel_rfl⟩
theorem ayc:IsFn Tryz.prog 235 Tryz.f235:=⟨Tryz.func235,by kernel_rfl⟩
theorem ayb:IsFn Tryz.prog 236 Tryz.f236:=⟨Tryz.func236,by kernel_rfl⟩
theorem aya:IsFn Tryz.prog 237 Tryz.f237:=⟨Tryz.func237,by kernel_rfl⟩
theorem ax9:IsFn Tryz.prog 238 Tryz.f238:=⟨Tryz.func238,by kernel_rfl⟩
theorem ax8:IsFn Tryz.prog 239 Tryz.f239:=⟨Tryz.func239,by kernel_rfl⟩
theorem ax7:IsFn Tryz.prog 240 Tryz.f240:=⟨Tryz.func240,by kernel_rfl⟩
theorem isF241:IsFn Tryz.prog 241 Tryz.f241:=⟨Tryz.func241,by kernel_rfl⟩
theorem isF242:IsFn Tryz.prog 242 Tryz.f242:=⟨Tryz.func242,by kernel_rfl⟩
theorem isF243:IsFn Tryz.prog 243 Tryz.f243:=⟨Tryz.func243,by kernel_rfl⟩
theorem isF244:IsFn Tryz.prog 244 Tryz.f244:=⟨Tryz.func244,by kernel_rfl⟩
theorem ax6:IsFn Tryz.prog 245 Tryz.f245:=⟨Tryz.func245,by kernel_rfl⟩
theorem apt:IsFn Tryz.prog 246 Tryz.f246:=⟨Tryz.func246,by kernel_rfl⟩
theorem ax5:IsFn Tryz.prog 247 Tryz.f247:=⟨Tryz.func247,by kernel_rfl⟩
theorem atk:IsFn Tryz.prog 248 Tryz.f248:=⟨Tryz.func248,by kernel_rfl⟩
theorem ax4:IsFn Tryz.prog 249 Tryz.f249:=⟨Tryz.func249,by kernel_rfl⟩
theorem ax3:IsFn Tryz.prog 250 Tryz.f250:=⟨Tryz.func250,by kernel_rfl⟩
theorem ax2:IsFn Tryz.prog 251 Tryz.f251:=⟨Tryz.func251,by kernel_rfl⟩
theorem isF252:IsFn Tryz.prog 252 Tryz.f252:=⟨Tryz.func252,by kernel_rfl⟩
theorem ax1:IsFn Tryz.prog 253 Tryz.f253:=⟨Tryz.func253,by kernel_rfl⟩
theorem ax0:IsFn Tryz.prog 254 Tryz.f254:=⟨Tryz.func254,by kernel_rfl⟩
theorem al6:IsFn Tryz.prog 255 Tryz.f255:=⟨Tryz.func255,by kernel_rfl⟩
theorem axZ:IsFn Tryz.prog 256 Tryz.f256:=⟨Tryz.func256,by kernel_rfl⟩
theorem axY:IsFn Tryz.prog 257 Tryz.f257:=⟨Tryz.func257,by kernel_rfl⟩
theorem axX:IsFn Tryz.prog 258 Tryz.f258:=⟨Tryz.func258,by kernel_rfl⟩
theorem axW:IsFn Tryz.prog 259 Tryz.f259:=⟨Tryz.func259,by kernel_rfl⟩
theorem isF260:IsFn Tryz.prog 260 Tryz.f260:=⟨Tryz.func260,by kernel_rfl⟩
theorem isF261:IsFn Tryz.prog 261 Tryz.f261:=⟨Tryz.func261,by kernel_rfl⟩
theorem isF262:IsFn Tryz.prog 262 Tryz.f262:=⟨Tryz.func262,by kernel_rfl⟩
theorem axV:IsFn Tryz.prog 263 Tryz.f263:=⟨Tryz.func263,by kernel_rfl⟩
theorem isF264:IsFn Tryz.prog 264 Tryz.f264:=⟨Tryz.func264,by kernel_rfl⟩
theorem isF265:IsFn Tryz.prog 265 Tryz.f265:=⟨Tryz.func265,by kernel_rfl⟩
theorem isF266:IsFn Tryz.prog 266 Tryz.f266:=⟨Tryz.func266,by kernel_rfl⟩
theorem isF267:IsFn Tryz.prog 267 Tryz.f267:=⟨Tryz.func267,by kernel_rfl⟩
theorem isF268:IsFn Tryz.prog 268 Tryz.f268:=⟨Tryz.func268,by kernel_rfl⟩
theorem isF269:IsFn Tryz.prog 269 Tryz.f269:=⟨Tryz.func269,by kernel_rfl⟩
theorem isF270:IsFn Tryz.prog 270 Tryz.f270:=⟨Tryz.func270,by kernel_rfl⟩
theorem atj:IsFn Tryz.prog 271 Tryz.f271:=⟨Tryz.func271,by kernel_rfl⟩
theorem isF272:IsFn Tryz.prog 272 Tryz.f272:=⟨Tryz.func272,by kernel_rfl⟩
theorem axU:IsFn Tryz.prog 273 Tryz.f273:=⟨Tryz.func273,by kernel_rfl⟩
theorem isF274:IsFn Tryz.prog 274 Tryz.f274:=⟨Tryz.func274,by kernel_rfl⟩
theorem isF275:IsFn Tryz.prog 275 Tryz.f275:=⟨Tryz.func275,by kernel_rfl⟩
theorem isF276:IsFn Tryz.prog 276 Tryz.f276:=⟨Tryz.func276,by kernel_rfl⟩
theorem isF277:IsFn Tryz.prog 277 Tryz.f277:=⟨Tryz.func277,by kernel_rfl⟩
theorem isF278:IsFn Tryz.prog 278 Tryz.f278:=⟨Tryz.func278,by kernel_rfl⟩
theorem isF279:IsFn Tryz.prog 279 Tryz.f279:=⟨Tryz.func279,by kernel_rfl⟩
theorem isF280:IsFn Tryz.prog 280 Tryz.f280:=⟨Tryz.func280,by kernel_rfl⟩
theorem isF281:IsFn Tryz.prog 281 Tryz.f281:=⟨Tryz.func281,by kernel_rfl⟩
theorem isF282:IsFn Tryz.prog 282 Tryz.f282:=⟨Tryz.func282,by kernel_rfl⟩
theorem isF283:IsFn Tryz.prog 283 Tryz.f283:=⟨Tryz.func283,by kernel_rfl⟩
theorem isF284:IsFn Tryz.prog 284 Tryz.f284:=⟨Tryz.func284,by kernel_rfl⟩
theorem isF285:IsFn Tryz.prog 285 Tryz.f285:=⟨Tryz.func285,by kernel_rfl⟩
theorem isF286:IsFn Tryz.prog 286 Tryz.f286:=⟨Tryz.func286,by kernel_rfl⟩
theorem isF287:IsFn Tryz.prog 287 Tryz.f287:=⟨Tryz.func287,by kernel_rfl⟩
theorem isF288:IsFn Tryz.prog 288 Tryz.f288:=⟨Tryz.func288,by kernel_rfl⟩
theorem isF289:IsFn Tryz.prog 289 Tryz.f289:=⟨Tryz.func289,by kernel_rfl⟩
theorem isF290:IsFn Tryz.prog 290 Tryz.f290:=⟨Tryz.func290,by kernel_rfl⟩
theorem isF291:IsFn Tryz.prog 291 Tryz.f291:=⟨Tryz.func291,by kernel_rfl⟩
theorem axT:IsFn Tryz.prog 292 Tryz.f292:=⟨Tryz.func292,by kernel_rfl⟩
theorem axS:IsFn Tryz.prog 293 Tryz.f293:=⟨Tryz.func293,by kernel_rfl⟩
theorem axR:IsFn Tryz.prog 294 Tryz.f294:=⟨Tryz.func294,by kernel_rfl⟩
theorem axQ:IsFn Tryz.prog 295 Tryz.f295:=⟨Tryz.func295,by kernel_rfl⟩
theorem axP:IsFn Tryz.prog 296 Tryz.f296:=⟨Tryz.func296,by kernel_rfl⟩
theorem axO:IsFn Tryz.prog 297 Tryz.f297:=⟨Tryz.func297,by kernel_rfl⟩
theorem isF298:IsFn Tryz.prog 298 Tryz.f298:=⟨Tryz.func298,by kernel_rfl⟩
theorem axN:IsFn Tryz.prog 299 Tryz.f299:=⟨Tryz.func299,by kernel_rfl⟩
theorem axM:IsFn Tryz.prog 300 Tryz.f300:=⟨Tryz.func300,by kernel_rfl⟩
theorem isF301:IsFn Tryz.prog 301 Tryz.f301:=⟨Tryz.func301,by kernel_rfl⟩
theorem axL:IsFn Tryz.prog 302 Tryz.f302:=⟨Tryz.func302,by kernel_rfl⟩
theorem axK:IsFn Tryz.prog 303 Tryz.f303:=⟨Tryz.func303,by kernel_rfl⟩
theorem isF304:IsFn Tryz.prog 304 Tryz.f304:=⟨Tryz.func304,by kernel_rfl⟩
theorem ati:IsFn Tryz.prog 305 Tryz.f305:=⟨Tryz.func305,by kernel_rfl⟩
theorem axJ:IsFn Tryz.prog 306 Tryz.f306:=⟨Tryz.func306,by kernel_rfl⟩
theorem axI:IsFn Tryz.prog 307 Tryz.f307:=⟨Tryz.func307,by kernel_rfl⟩
theorem axH:IsFn Tryz.prog 308 Tryz.f308:=⟨Tryz.func308,by kernel_rfl⟩
theorem isF309:IsFn Tryz.prog 309 Tryz.f309:=⟨Tryz.func309,by kernel_rfl⟩
theorem isF310:IsFn Tryz.prog 310 Tryz.f310:=⟨Tryz.func310,by kernel_rfl⟩
theorem axG:IsFn Tryz.prog 311 Tryz.f311:=⟨Tryz.func311,by kernel_rfl⟩
theorem axF:IsFn Tryz.prog 313 Tryz.f313:=⟨Tryz.func313,by kernel_rfl⟩
theorem axE:IsFn Tryz.prog 314 Tryz.f314:=⟨Tryz.func314,by kernel_rfl⟩
theorem isF315:IsFn Tryz.prog 315 Tryz.f315:=⟨Tryz.func315,by kernel_rfl⟩
theorem axD:IsFn Tryz.prog 316 Tryz.f316:=⟨Tryz.func316,by kernel_rfl⟩
theorem axC:IsFn Tryz.prog 317 Tryz.f317:=⟨Tryz.func317,by kernel_rfl⟩
theorem axB:IsFn Tryz.prog 318 Tryz.f318:=⟨Tryz.func318,by kernel_rfl⟩
theorem isF319:IsFn Tryz.prog 319 Tryz.f319:=⟨Tryz.func319,by kernel_rfl⟩
theorem axA:IsFn Tryz.prog 320 Tryz.f320:=⟨Tryz.func320,by kernel_rfl⟩
theorem axz:IsFn Tryz.prog 321 Tryz.f321:=⟨Tryz.func321,by kernel_rfl⟩
theorem axy:IsFn Tryz.prog 322 Tryz.f322:=⟨Tryz.func322,by kernel_rfl⟩
theorem isF323:IsFn Tryz.prog 323 Tryz.f323:=⟨Tryz.func323,by kernel_rfl⟩
theorem isF324:IsFn Tryz.prog 324 Tryz.f324:=⟨Tryz.func324,by kernel_rfl⟩
theorem isF325:IsFn Tryz.prog 325 Tryz.f325:=⟨Tryz.func325,by kernel_rfl⟩
theorem isF326:IsFn Tryz.prog 326 Tryz.f326:=⟨Tryz.func326,by kernel_rfl⟩
theorem isF327:IsFn Tryz.prog 327 Tryz.f327:=⟨Tryz.func327,by kernel_rfl⟩
theorem isF328:IsFn Tryz.prog 328 Tryz.f328:=⟨Tryz.func328,by kernel_rfl⟩
theorem isF329:IsFn Tryz.prog 329 Tryz.f329:=⟨Tryz.func329,by kernel_rfl⟩
theorem axx:IsFn Tryz.prog 330 Tryz.f330:=⟨Tryz.func330,by kernel_rfl⟩
theorem axw:IsFn Tryz.prog 331 Tryz.f331:=⟨Tryz.func331,by kernel_rfl⟩
theorem axv:IsFn Tryz.prog 332 Tryz.f332:=⟨Tryz.func332,by kernel_rfl⟩
theorem isF333:IsFn Tryz.prog 333 Tryz.f333:=⟨Tryz.func333,by kernel_rfl⟩
theorem axu:IsFn Tryz.prog 334 Tryz.f334:=⟨Tryz.func334,by kernel_rfl⟩
theorem isF335:IsFn Tryz.prog 335 Tryz.f335:=⟨Tryz.func335,by kernel_rfl⟩
theorem axt:IsFn Tryz.prog 336 Tryz.f336:=⟨Tryz.func336,by kernel_rfl⟩
theorem axs:IsFn Tryz.prog 337 Tryz.f337:=⟨Tryz.func337,by kernel_rfl⟩
theorem isF338:IsFn Tryz.prog 338 Tryz.f338:=⟨Tryz.func338,by kernel_rfl⟩
theorem isF339:IsFn Tryz.prog 339 Tryz.f339:=⟨Tryz.func339,by kernel_rfl⟩
theorem isF340:IsFn Tryz.prog 340 Tryz.f340:=⟨Tryz.func340,by kernel_rfl⟩
theorem isF341:IsFn Tryz.prog 341 Tryz.f341:=⟨Tryz.func341,by kernel_rfl⟩
theorem isF342:IsFn Tryz.prog 342 Tryz.f342:=⟨Tryz.func342,by kernel_rfl⟩
theorem axr:IsFn Tryz.prog 343 Tryz.f343:=⟨Tryz.func343,by kernel_rfl⟩
theorem isF344:IsFn Tryz.prog 344 Tryz.f344:=⟨Tryz.func344,by kernel_rfl⟩
theorem isF345:IsFn Tryz.prog 345 Tryz.f345:=⟨Tryz.func345,by kernel_rfl⟩
theorem isF346:IsFn Tryz.prog 346 Tryz.f346:=⟨Tryz.func346,by kernel_rfl⟩
theorem isF347:IsFn Tryz.prog 347 Tryz.f347:=⟨Tryz.func347,by kernel_rfl⟩
theorem isF348:IsFn Tryz.prog 348 Tryz.f348:=⟨Tryz.func348,by kernel_rfl⟩
theorem axq:IsFn Tryz.prog 349 Tryz.f349:=⟨Tryz.func349,by kernel_rfl⟩
theorem isF351:IsFn Tryz.prog 351 Tryz.f351:=⟨Tryz.func351,by kernel_rfl⟩
theorem isF352:IsFn Tryz.prog 352 Tryz.f352:=⟨Tryz.func352,by kernel_rfl⟩
theorem isF353:IsFn Tryz.prog 353 Tryz.f353:=⟨Tryz.func353,by kernel_rfl⟩
theorem isF354:IsFn Tryz.prog 354 Tryz.f354:=⟨Tryz.func354,by kernel_rfl⟩
theorem isF355:IsFn Tryz.prog 355 Tryz.f355:=⟨Tryz.func355,by kernel_rfl⟩
theorem isF356:IsFn Tryz.prog 356 Tryz.f356:=⟨Tryz.func356,by kernel_rfl⟩
theorem isF357:IsFn Tryz.prog 357 Tryz.f357:=⟨Tryz.func357,by kernel_rfl⟩
theorem isF358:IsFn Tryz.prog 358 Tryz.f358:=⟨Tryz.func358,by kernel_rfl⟩
theorem isF360:IsFn Tryz.prog 360 Tryz.f360:=⟨Tryz.func360,by kernel_rfl⟩
theorem isF362:IsFn Tryz.prog 362 Tryz.f362:=⟨Tryz.func362,by kernel_rfl⟩
theorem isF363:IsFn Tryz.prog 363 Tryz.f363:=⟨Tryz.func363,by kernel_rfl⟩
theorem isF364:IsFn Tryz.prog 364 Tryz.f364:=⟨Tryz.func364,by kernel_rfl⟩
theorem isF365:IsFn Tryz.prog 365 Tryz.f365:=⟨Tryz.func365,by kernel_rfl⟩
theorem isF366:IsFn Tryz.prog 366 Tryz.f366:=⟨Tryz.func366,by kernel_rfl⟩
theorem isF367:IsFn Tryz.prog 367 Tryz.f367:=⟨Tryz.func367,by kernel_rfl⟩
theorem isF368:IsFn Tryz.prog 368 Tryz.f368:=⟨Tryz.func368,by kernel_rfl⟩
theorem isF369:IsFn Tryz.prog 369 Tryz.f369:=⟨Tryz.func369,by kernel_rfl⟩
theorem isF370:IsFn Tryz.prog 370 Tryz.f370:=⟨Tryz.func370,by kernel_rfl⟩
theorem isF371:IsFn Tryz.prog 371 Tryz.f371:=⟨Tryz.func371,by kernel_rfl⟩
theorem axp:IsFn Tryz.prog 372 Tryz.f372:=⟨Tryz.func372,by kernel_rfl⟩
theorem axo:IsFn Tryz.prog 373 Tryz.f373:=⟨Tryz.func373,by kernel_rfl⟩
theorem isF374:IsFn Tryz.prog 374 Tryz.f374:=⟨Tryz.func374,by kernel_rfl⟩
theorem isF375:IsFn Tryz.prog 375 Tryz.f375:=⟨Tryz.func375,by kernel_rfl⟩
theorem isF376:IsFn Tryz.prog 376 Tryz.f376:=⟨Tryz.func376,by kernel_rfl⟩
theorem isF377:IsFn Tryz.prog 377 Tryz.f377:=⟨Tryz.func377,by kernel_rfl⟩
theorem isF378:IsFn Tryz.prog 378 Tryz.f378:=⟨Tryz.func378,by kernel_rfl⟩
theorem isF379:IsFn Tryz.prog 379 Tryz.f379:=⟨Tryz.func379,by kernel_rfl⟩
theorem isF382:IsFn Tryz.prog 382 Tryz.f382:=⟨Tryz.func382,by kernel_rfl⟩
theorem isF383:IsFn Tryz.prog 383 Tryz.f383:=⟨Tryz.func383,by kernel_rfl⟩
theorem isF384:IsFn Tryz.prog 384 Tryz.f384:=⟨Tryz.func384,by kernel_rfl⟩
theorem isF385:IsFn Tryz.prog 385 Tryz.f385:=⟨Tryz.func385,by kernel_rfl⟩
theorem axn:IsFn Tryz.prog 386 Tryz.f386:=⟨Tryz.func386,by kernel_rfl⟩
theorem isF387:IsFn Tryz.prog 387 Tryz.f387:=⟨Tryz.func387,by kernel_rfl⟩
theorem isF388:IsFn Tryz.prog 388 Tryz.f388:=⟨Tryz.func388,by kernel_rfl⟩
theorem isF389:IsFn Tryz.prog 389 Tryz.f389:=⟨Tryz.func389,by kernel_rfl⟩
theorem isF390:IsFn Tryz.prog 390 Tryz.f390:=⟨Tryz.func390,by kernel_rfl⟩
theorem isF391:IsFn Tryz.prog 391 Tryz.f391:=⟨Tryz.func391,by kernel_rfl⟩
theorem isF392:IsFn Tryz.prog 392 Tryz.f392:=⟨Tryz.func392,by kernel_rfl⟩
theorem isF393:IsFn Tryz.prog 393 Tryz.f393:=⟨Tryz.func393,by kernel_rfl⟩
theorem isF394:IsFn Tryz.prog 394 Tryz.f394:=⟨Tryz.func394,by kernel_rfl⟩
theorem isF395:IsFn Tryz.prog 395 Tryz.f395:=⟨Tryz.func395,by kernel_rfl⟩
theorem isF396:IsFn Tryz.prog 396 Tryz.f396:=⟨Tryz.func396,by kernel_rfl⟩
theorem isF397:IsFn Tryz.prog 397 Tryz.f397:=⟨Tryz.func397,by kernel_rfl⟩
theorem isF398:IsFn Tryz.prog 398 Tryz.f398:=⟨Tryz.func398,by kernel_rfl⟩
theorem isF432:IsFn Tryz.prog 432 Tryz.f432:=⟨Tryz.func432,by kernel_rfl⟩
set_option maxHeartbeats 4000000
set_option maxRecDepth 100000
def wB:Nat:=18446744073709551616
theorem afh (x y c:Nat) (hc:c≤1):aab Tryz.prog 312 [.int .u64 x,.int .u64 y,.int .u64 c] (.tup [.int .u64 ((x+y+c) % wB:Nat),.int .u64 ((x+y+c) / wB:Nat)]):=by
 refine .inr fun w Imm cargs h=>?_;simp only [PVVl,PVV] at h;obtain ⟨_,_,rfl,rfl,_,_,rfl,rfl,_,_,rfl,rfl,rfl⟩:=h;refine ⟨.tuple #[.int .u64 ((x+y+c) % wB:Nat),.int .u64 ((x+y+c) / wB:Nat)],?_,?_⟩
 · show (callFunc 312 #[.int .u64 x,.int .u64 y,.int .u64 c]).run Tryz.prog w=_;rw [run_callFunc_extern Tryz.func312 (by kernel_rfl) (by kernel_rfl) (by kernel_rfl) (e:=add64Entry) (by kernel_rfl),run_add64 x y c (by omega) (by omega) (by omega) (by omega)];simp only [Result.andThen,wB];congr 5 <;> omega
 · simp only [PVV,PVVl];exact ⟨[.int .u64 ((x+y+c) % wB:Nat),.int .u64 ((x+y+c) / wB:Nat)],⟨_,_,rfl,rfl,_,_,rfl,rfl,rfl⟩,rfl⟩
theorem c_sub64 (x y c:Nat) (hc:c≤1):aab Tryz.prog 350 [.int .u64 x,.int .u64 y,.int .u64 c] (.tup [.int .u64 ((x+wB - y - c) % wB:Nat),.int .u64 ((if x<y+c then 1 else 0:Nat):Int)]):=by
 refine .inr fun w Imm cargs h=>?_;simp only [PVVl,PVV] at h;obtain ⟨_,_,rfl,rfl,_,_,rfl,rfl,_,_,rfl,rfl,rfl⟩:=h;refine ⟨.tuple #[.int .u64 ((x+wB - y - c) % wB:Nat),.int .u64 ((if x<y+c then 1 else 0:Nat):Int)],?_,?_⟩
 · show (callFunc 350 #[.int .u64 x,.int .u64 y,.int .u64 c]).run Tryz.prog w=_;rw [run_callFunc_extern Tryz.func350 (by kernel_rfl) (by kernel_rfl) (by kernel_rfl) (e:=sub64Entry) (by kernel_rfl),run_sub64 x y c hc];rfl
 · simp only [PVV,PVVl];exact ⟨[.int .u64 ((x+wB - y - c) % wB:Nat),.int .u64 ((if x<y+c then 1 else 0:Nat):Int)],⟨_,_,rfl,rfl,_,_,rfl,rfl,rfl⟩,rfl⟩
def digs (B:Nat):Nat→Nat→List Nat
 | 0,_=>[]
 | f+1,n=>if n=0 then [] else n % B::digs B f (n / B)
def dig (B n:Nat):List Nat:=digs B (n+1) n
def valD (B:Nat):List Nat→Nat
 | []=>0
 | d::l=>d+B*valD B l
def plc (B n i:Nat):Nat:=n / B ^ i % B
section
variable {B:Nat}
theorem aiv (hB:2≤B):∀ (f g n:Nat),n<f→n<g→digs B f n=digs B g n
 | 0,_,_,h,_=>by omega
 | _,0,_,_,h=>by omega
 | f+1,g+1,n,h1,h2=>by
  simp only [digs]
  split
  · rfl
  · rename_i hn;have:n / B<n:=Nat.div_lt_self (by omega) (by omega);rw [aiv hB f g (n / B) (by omega) (by omega)]
theorem acj:dig B 0=[]:=by simp [dig,digs]
theorem ago (hB:2≤B) {n:Nat} (h:n≠0):dig B n=n % B::dig B (n / B):=by
 have:n / B<n:=Nat.div_lt_self (by omega) (by omega);rw [dig,digs,if_neg h,dig,aiv hB n (n / B+1) (n / B) this (by omega)]
theorem aoD (hB:2≤B) (n:Nat):valD B (dig B n)=n:=by
 induction n using Nat.strongRecOn with
 | ind n ih =>
  by_cases h:n=0
  · subst h; simp [acj,valD]
  · rw [ago hB h,valD,ih _ (Nat.div_lt_self (by omega) (by omega))];exact Nat.mod_add_div n B
theorem dig_get (hB:2≤B):∀ (i n:Nat),(dig B n)[i]?.getD 0=plc B n i
 | i,n=>by
  induction i generalizing n with
  | zero =>
   by_cases h:n=0
   · subst h; simp [acj,plc]
   · rw [ago hB h]; simp [plc]
  | succ i ih =>
   by_cases h:n=0
   · subst h; simp [acj,plc]
   · rw [ago hB h,List.getElem?_cons_succ,ih];simp only [plc,Nat.div_div_eq_div_mul,Nat.pow_succ];rw [Nat.mul_comm B]
theorem aal (hB:2≤B) {n i:Nat} (h:i<(dig B n).length):(dig B n)[i]=plc B n i:=by
 have:=dig_get hB i n;rw [List.getElem?_eq_getElem h] at this;exact this
theorem aaf (hB:2≤B) (n:Nat):n<B ^ (dig B n).length:=by
 induction n using Nat.strongRecOn with
 | ind n ih =>
  by_cases h:n=0
  · subst h; simp [acj]
  · rw [ago hB h,List.length_cons,Nat.pow_succ];have:=ih _ (Nat.div_lt_self (n:=n) (k:=B) (by omega) (by omega));have h2:=Nat.mod_add_div n B;have h3:=Nat.mod_lt n (show 0<B by omega);have h4:(n / B+1)*B≤B ^ (dig B (n / B)).length*B:=Nat.mul_le_mul_right B this;rw [Nat.add_mul,Nat.mul_comm (n / B) B] at h4;omega
theorem aak (hB:2≤B):∀ (k n:Nat),n<B ^ k→(dig B n).length≤k
 | 0,n,h=>by
  have:n=0:=by simpa using h
  subst this; simp [acj]
 | k+1,n,h=>by
  by_cases h0:n=0
  · subst h0; simp [acj]
  · rw [ago hB h0,List.length_cons];have:=aak hB k (n / B) (by
     rw [Nat.div_lt_iff_lt_mul (by omega),← Nat.pow_succ]; exact h)
    omega
theorem ajz (hB:2≤B) {k n:Nat} (h:B ^ k≤n):k<(dig B n).length:=by
 have:=aaf hB n;exact (Nat.pow_lt_pow_iff_right (by omega:1<B)).1 (Nat.lt_of_le_of_lt h this)
def aby:List Nat→List Nat
 | []=>[]
 | d::l=>match aby l with
  | []=>if d=0 then [] else [d]
  | t=>d::t
theorem anZ (hB:2≤B):∀ {l:List Nat},(∀ d∈l,d<B)→dig B (valD B l)=aby l
 | [],_=>by simp [valD,acj,aby]
 | d::l,h=>by
  have ih:=anZ hB (l:=l) fun x hx=>h x (List.mem_cons_of_mem _ hx);have h2:=h d List.mem_cons_self;simp only [aby,valD]
  by_cases h0:d+B*valD B l=0
  · have hd:d=0:=by omega
    have hv:valD B l=0:=by
     rcases Nat.mul_eq_zero.1 (show B*valD B l=0 by omega) with e | e
     · omega
     · exact e
    rw [h0,acj,← ih,hv,acj]; simp [hd]
  · rw [ago hB h0];have e1:(d+B*valD B l) % B=d:=by rw [Nat.add_mul_mod_self_left,Nat.mod_eq_of_lt h2]
    have e2:(d+B*valD B l) / B=valD B l:=by
     rw [Nat.add_mul_div_left _ _ (by omega),Nat.div_eq_of_lt h2,Nat.zero_add]
    rw [e1,e2,ih]
    split
    · rename_i ht;have ih':=ih;rw [ht,dig_eq_nil hB] at ih';rw [if_neg (by rw [ih'] at h0; simpa using h0),ht]
    · rfl
where dig_eq_nil (hB : 2 ≤ B) {n : Nat} : (dig B n = []) = (n = 0) := by
        apply propext; constructor
        · intro h; rw [← aoD hB n,h]; rfl
        · rintro rfl; exact acj
def row (B m n:Nat):List Nat:=(List.range m).map (plc B n)
theorem asd {m n:Nat}:(row B m n).length=m:=by simp [row]
theorem avb (m n:Nat):row B (m+1) n=n % B::row B m (n / B):=by
 rw [row,List.range_succ_eq_map,List.map_cons,List.map_map];congr 1
 · simp [plc]
 · rw [row];apply List.map_congr_left;intro i _;simp only [Function.comp,plc,Nat.div_div_eq_div_mul,Nat.pow_succ];rw [Nat.mul_comm]
theorem asc (hB:2≤B):∀ (m n:Nat),valD B (row B m n)=n % B ^ m
 | 0,n=>by simp [row,valD,Nat.mod_one]
 | m+1,n=>by
  rw [avb,valD,asc hB m,Nat.pow_succ,Nat.mul_comm (B ^ m),Nat.mod_mul]
theorem abl (hB:2≤B) {m n:Nat} (h:n<B ^ m):aby (row B m n)=dig B n:=by
 rw [← anZ hB (l:=row B m n),asc hB,Nat.mod_eq_of_lt h];intro d hd;simp only [row,List.mem_map] at hd;obtain ⟨i,_,rfl⟩:=hd;exact Nat.mod_lt _ (by omega)
theorem dig_row (hB:2≤B) (n:Nat):dig B n=row B (dig B n).length n:=by
 apply List.ext_getElem (by simp [row]);intro i h1 h2;rw [aal hB h1];simp [row]
end
section
variable {B:Nat}
theorem mod_pow_succ (n i:Nat):n % B ^ (i+1)=n % B ^ i+B ^ i*plc B n i:=by
 rw [Nat.pow_succ,Nat.mod_mul,plc]
def aaz (B a b i:Nat):Nat:=(a % B ^ i+b % B ^ i) / B ^ i
theorem adZ (a b:Nat):aaz B a b 0=0:=by simp [aaz,Nat.mod_one]
theorem abx (hB:2≤B) (a b i:Nat):aaz B a b i≤1:=by
 have hp:0<B ^ i:=Nat.pow_pos (by omega);have h1:=Nat.mod_lt a hp;have h2:=Nat.mod_lt b hp;rw [aaz];have:(a % B ^ i+b % B ^ i) / B ^ i<2:=by rw [Nat.div_lt_iff_lt_mul hp]; omega
 omega
theorem ad2 (hB:2≤B) (a b i:Nat):(plc B a i+plc B b i+aaz B a b i) % B=plc B (a+b) i∧(plc B a i+plc B b i+aaz B a b i) / B=aaz B a b (i+1):=by
 have hp:0<B ^ i:=Nat.pow_pos (by omega);constructor
 · have h1:(a+b) / B ^ i=aaz B a b i+(a / B ^ i+b / B ^ i):=by
    rw [aaz]
    conv=>lhs; rw [← Nat.mod_add_div a (B ^ i),← Nat.mod_add_div b (B ^ i)]
    rw [show a % B ^ i+B ^ i*(a / B ^ i)+(b % B ^ i+B ^ i*(b / B ^ i))=(a % B ^ i+b % B ^ i)+B ^ i*(a / B ^ i+b / B ^ i) by rw [Nat.mul_add]; omega];rw [Nat.add_mul_div_left _ _ hp]
   rw [plc,plc,plc,h1,Nat.add_mod,← Nat.add_mod (a / B ^ i),← Nat.add_mod,Nat.add_comm]
 · conv=>rhs; rw [aaz,mod_pow_succ,mod_pow_succ,Nat.pow_succ,← Nat.div_div_eq_div_mul]
   rw [show a % B ^ i+B ^ i*plc B a i+(b % B ^ i+B ^ i*plc B b i)=(a % B ^ i+b % B ^ i)+B ^ i*(plc B a i+plc B b i) by rw [Nat.mul_add]; omega];rw [Nat.add_mul_div_left _ _ hp,aaz,Nat.add_comm ((a % B ^ i+b % B ^ i) / B ^ i)]
theorem aat {n i:Nat} (h:n<B ^ i):plc B n i=0:=by
 rw [plc,Nat.div_eq_of_lt h,Nat.zero_mod]
theorem aaq (hB:2≤B) (n i:Nat):plc B n i<B:=Nat.mod_lt _ (by omega)
def aaF (B a b i:Nat):Nat:=if a % B ^ i<b % B ^ i then 1 else 0
theorem aev (a b:Nat):aaF B a b 0=0:=by simp [aaF,Nat.mod_one]
theorem aoN (hB : 2 ≤ B) {a b : Nat} (hab : b ≤ a) (i : Nat) :
    (plc B a i<plc B b i+aaF B a b i∧aaF B a b (i+1)=1∧plc B a i+B=plc B (a - b) i+(plc B b i+aaF B a b i)) ∨
    (plc B b i+aaF B a b i≤plc B a i∧aaF B a b (i+1)=0∧plc B a i=plc B (a - b) i+(plc B b i+aaF B a b i)):=by
 have hp:0<B ^ i:=Nat.pow_pos (by omega);obtain ⟨c,rfl⟩:=Nat.le.dest hab;have h0:=ad2 hB b c i;rw [show b+c - b=c by omega];have hc:∀ i,aaF B (b+c) b i=aaz B b c i:=by
  intro i;have hp:0<B ^ i:=Nat.pow_pos (by omega);have h1:=Nat.mod_lt b hp;have h2:=Nat.mod_lt c hp;rw [aaF,aaz,Nat.add_mod]
  by_cases h:b % B ^ i+c % B ^ i<B ^ i
  · rw [Nat.mod_eq_of_lt h,Nat.div_eq_of_lt h,if_neg (Nat.not_lt.2 (Nat.le_add_right _ _))]
  · have e1:(b % B ^ i+c % B ^ i) / B ^ i=1:=by
     rw [show b % B ^ i+c % B ^ i=(b % B ^ i+c % B ^ i - B ^ i)+B ^ i*1 by omega,Nat.add_mul_div_left _ _ hp,Nat.div_eq_of_lt (by omega)]
    have e2:(b % B ^ i+c % B ^ i) % B ^ i=b % B ^ i+c % B ^ i - B ^ i:=by
     rw [Nat.mod_eq_sub_mod (by omega),Nat.mod_eq_of_lt (by omega)]
    rw [e1,e2,if_pos (by omega)]
 rw [hc,hc];have h3:=aaq hB b i;have h4:=aaq hB c i;have h5:=abx hB b c i;have h6:=Nat.mod_add_div (plc B b i+plc B c i+aaz B b c i) B;rw [h0.1,h0.2] at h6;have h7:=abx hB b c (i+1);have h8:=aaq hB (b+c) i;rcases (show aaz B b c (i+1)=0∨aaz B b c (i+1)=1 by omega) with e | e
 · right; rw [e] at h6 ⊢; simp at h6; exact ⟨by omega,rfl,by omega⟩
 · left; rw [e] at h6 ⊢; simp at h6; exact ⟨by omega,rfl,by omega⟩
def mulT (B a b i j:Nat):Nat:=(a % B ^ i)*b+plc B a i*(b % B ^ j)*B ^ i
def mulP (B a b i j k:Nat):Nat:=if k<i+j then plc B (mulT B a b i j) k else plc B ((a % B ^ i)*b) k
def mulC (B a b i j:Nat):Nat:=mulT B a b i j / B ^ (i+j) - (a % B ^ i)*b / B ^ (i+j)
theorem mulT_ge (a b i j:Nat):(a % B ^ i)*b≤mulT B a b i j:=by rw [mulT]; omega
theorem alR (a b i:Nat):mulT B a b i 0=(a % B ^ i)*b:=by simp [mulT,Nat.mod_one]
theorem ah1 (a b i:Nat):mulC B a b i 0=0:=by simp [mulC,alR]
theorem alT (a b i j:Nat):mulT B a b i (j+1)=mulT B a b i j+plc B a i*plc B b j*B ^ (i+j):=by
 rw [mulT,mulT,mod_pow_succ,Nat.mul_add,Nat.add_mul,Nat.pow_add];have:plc B a i*(B ^ j*plc B b j)*B ^ i=plc B a i*plc B b j*(B ^ i*B ^ j):=by
  rw [Nat.mul_comm (B ^ j),← Nat.mul_assoc,Nat.mul_assoc,Nat.mul_comm (B ^ j)]
 omega
theorem apf (a b i:Nat) {n:Nat} (h:b<B ^ n):mulT B a b i n=(a % B ^ (i+1))*b:=by
 rw [mulT,Nat.mod_eq_of_lt h,mod_pow_succ,Nat.add_mul];congr 1;rw [Nat.mul_right_comm,Nat.mul_comm (plc B a i)]
theorem ac0 (n k:Nat):n / B ^ (k+1)=n / B ^ k / B:=by rw [Nat.pow_succ,Nat.div_div_eq_div_mul]
theorem akm (hB : 2 ≤ B) (a b i j : Nat) :
    (plc B a i*plc B b j+mulP B a b i j (i+j)+mulC B a b i j) % B=plc B (mulT B a b i (j+1)) (i+j) ∧
    (plc B a i*plc B b j+mulP B a b i j (i+j)+mulC B a b i j) / B=mulC B a b i (j+1):=by
 have hp:0<B ^ (i+j):=Nat.pow_pos (by omega);have hT:mulT B a b i (j+1) / B ^ (i+j)=mulT B a b i j / B ^ (i+j)+plc B a i*plc B b j:=by
  rw [alT,Nat.add_mul_div_right _ _ hp]
 have hle:(a % B ^ i)*b / B ^ (i+j)≤mulT B a b i j / B ^ (i+j):=Nat.div_le_div_right (mulT_ge a b i j);have hP:mulP B a b i j (i+j)=(a % B ^ i)*b / B ^ (i+j) % B:=by rw [mulP,if_neg (by omega),plc]
 have e:plc B a i*plc B b j+mulP B a b i j (i+j)+mulC B a b i j+B*((a % B ^ i)*b / B ^ (i+j) / B)=mulT B a b i (j+1) / B ^ (i+j):=by
  rw [hT,hP,mulC];have:=Nat.mod_add_div ((a % B ^ i)*b / B ^ (i+j)) B;omega
 constructor
 · conv=>rhs; rw [plc,← e]
   rw [Nat.add_mul_mod_self_left]
 · conv=>rhs; rw [mulC,show i+(j+1)=i+j+1 from rfl,ac0,ac0,← e,Nat.add_mul_div_left _ _ (by omega)]
   rw [Nat.add_sub_cancel]
theorem alU (hB:2≤B) {a b i j k:Nat} (hk:k≠i+j):mulP B a b i (j+1) k=mulP B a b i j k:=by
 rw [mulP,mulP]
 by_cases h:k<i+j
 · rw [if_pos (by omega),if_pos h,alT];have hp:0<B ^ k:=Nat.pow_pos (by omega);obtain ⟨d,hd⟩:∃ d,i+j=k+1+d:=⟨i+j - (k+1),by
    have:k+1≤i+j:=h;rw [Nat.add_sub_cancel' this]⟩
   rw [hd,Nat.pow_add,Nat.pow_succ];generalize plc B a i*plc B b j=x;rw [plc,plc,show x*(B ^ k*B*B ^ d)=x*B ^ d*B*B ^ k by simp only [Nat.mul_assoc,Nat.mul_comm,Nat.mul_left_comm]];rw [Nat.add_mul_div_right _ _ hp,Nat.add_mul_mod_self_right]
 · rw [if_neg (by omega),if_neg h]
theorem apg (a b i j:Nat):mulP B a b i (j+1) (i+j)=plc B (mulT B a b i (j+1)) (i+j):=by
 rw [mulP,if_pos (by omega)]
theorem ahK (hB:2≤B) (a:Nat) {b n:Nat} (i:Nat) (h:b<B ^ n):(a % B ^ i)*b<B ^ (i+n):=by
 have hp:0<B ^ i:=Nat.pow_pos (by omega);rw [Nat.pow_add];exact Nat.mul_lt_mul'' (Nat.mod_lt _ hp) h
theorem ahZ (hB:2≤B) {a b i n:Nat} (h:b<B ^ n):mulC B a b i n=plc B ((a % B ^ (i+1))*b) (i+n):=by
 have h1:=ahK hB a i h;have h2:=ahK hB a (i+1) h;rw [mulC,apf a b i h,Nat.div_eq_of_lt h1,Nat.sub_zero];refine (Nat.mod_eq_of_lt ?_).symm;rw [Nat.div_lt_iff_lt_mul (Nat.pow_pos (by omega)),Nat.mul_comm B,← Nat.pow_succ,show (i+n).succ=i+1+n by omega]; exact h2
theorem acq (a b i k:Nat):mulP B a b i 0 k=plc B ((a % B ^ i)*b) k:=by
 rw [mulP,alR]; split <;> rfl
theorem aph (hB:2≤B) {a b i n k:Nat} (h:b<B ^ n) (hk:k≠i+n):mulP B a b i n k=plc B ((a % B ^ (i+1))*b) k:=by
 rw [mulP]
 split
 · rw [apf a b i h]
 · rename_i h1;have e1:(a % B ^ i)*b<B ^ k:=Nat.lt_of_lt_of_le (ahK hB a i h) (Nat.pow_le_pow_right (by omega) (by omega));have e2:(a % B ^ (i+1))*b<B ^ k:=Nat.lt_of_lt_of_le (ahK hB a (i+1) h) (Nat.pow_le_pow_right (by omega) (by omega));rw [aat e1,aat e2]
theorem agb (hB:2≤B) (a b i:Nat):∀ j,mulC B a b i j<B
 | 0=>by rw [ah1]; omega
 | j+1=>by
  have h:=(akm hB a b i j).2;have h1:=agb hB a b i j;have h2:mulP B a b i j (i+j) < B:=by rw [mulP]; split <;> exact aaq hB _ _
  have h3:plc B a i*plc B b j≤(B - 1)*(B - 1):=Nat.mul_le_mul (by have:=aaq hB a i; omega) (by have:=aaq hB b j; omega);rw [← h,Nat.div_lt_iff_lt_mul (by omega)];obtain ⟨c,rfl⟩:∃ c,B=c+1:=⟨B - 1,by omega⟩
  simp only [Nat.add_sub_cancel] at h3;rw [Nat.add_mul,Nat.mul_add];omega
end
section
variable {B:Nat}
theorem ajv {V W d:Nat} (h1:0<V / d):W / V≤W / d / (V / d):=by
 have hd:0<d:=by
  rcases Nat.eq_zero_or_pos d with h | h
  · subst h; simp at h1
  · exact h
 have hV:0<V:=by
  rcases Nat.eq_zero_or_pos V with h | h
  · subst h; simp at h1
  · exact h
 rw [Nat.le_div_iff_mul_le h1,Nat.le_div_iff_mul_le hd];have a1:W / V*V≤W:=Nat.div_mul_le_self W V;have a2:V / d*d≤V:=Nat.div_mul_le_self V d
 calc W / V*(V / d)*d=W / V*(V / d*d):=Nat.mul_assoc _ _ _
  _≤W / V*V:=Nat.mul_le_mul_left _ a2
  _≤W:=a1
theorem att {V W d q:Nat} (hd:0<d) (hV:0<V) (h:W / d<q*(V / d)):W / V<q:=by
 rw [Nat.div_lt_iff_lt_mul hV];have a1:W<(W / d+1)*d:=by
  have:=Nat.lt_div_mul_add (a:=W) hd;rw [Nat.add_mul]; omega
 have a2:V / d*d≤V:=Nat.div_mul_le_self V d
 calc W<(W / d+1)*d:=a1
  _≤q*(V / d)*d:=Nat.mul_le_mul_right _ h
  _=q*(V / d*d):=Nat.mul_assoc _ _ _
  _≤q*V:=Nat.mul_le_mul_left _ a2
theorem aqS {V W d q:Nat} (hd:0<d) (hV:q*d≤V) (hV0:0<V) (h:q*(V / d)≤W / d):q≤W / V+1:=by
 rcases Nat.eq_zero_or_pos q with hq | hq
 · subst hq; exact Nat.zero_le _
 have:q - 1≤W / V:=by
  rw [Nat.le_div_iff_mul_le hV0,Nat.sub_mul,Nat.one_mul];have a1:V≤V / d*d+d:=Nat.le_of_lt (Nat.lt_div_mul_add hd);have a2:W / d*d≤W:=Nat.div_mul_le_self W d;have a3:q*V≤q*(V / d)*d+q*d:=by
   calc q*V≤q*(V / d*d+d):=Nat.mul_le_mul_left _ a1
    _=q*(V / d)*d+q*d:=by rw [Nat.mul_add,Nat.mul_assoc]
  have a4:q*(V / d)*d≤W / d*d:=Nat.mul_le_mul_right _ h;omega
 omega
theorem ajV {q v1 v2 T u2 r:Nat} (hT:q*v1+r=T):q*(v1*B+v2)≤T*B+u2↔q*v2≤r*B+u2:=by
 subst hT;rw [Nat.mul_add,Nat.add_mul,Nat.mul_assoc];omega
theorem abG (n k:Nat):n / B ^ k=n / B ^ (k+1)*B+plc B n k:=by
 rw [ac0,plc,Nat.mul_comm]; exact (Nat.div_add_mod _ _).symm
theorem ae6 (n j i:Nat):plc B (n / B ^ j) i=plc B n (j+i):=by
 rw [plc,plc,Nat.div_div_eq_div_mul,Nat.pow_add]
theorem ane {n m i:Nat} (h:i<m):plc B (n % B ^ m) i=plc B n i:=by
 obtain ⟨d,rfl⟩:∃ d,m=i+(d+1):=⟨m - i - 1,by omega⟩
 rw [plc,plc,Nat.pow_add,Nat.mod_mul_right_div_self,Nat.pow_succ,Nat.mul_comm (B ^ d),Nat.mod_mul_right_mod]
theorem adI {n c m i:Nat} (h:i<m):plc B (n+c*B ^ m) i=plc B n i:=by
 rw [← ane (n:=n+c*B ^ m) h,Nat.add_mul_mod_self_right,ane h]
def remW (B W V q n:Nat):Nat:=W+B ^ (n+1) - q*V
theorem remW_eq {W V q n:Nat} (h:q*V≤W) {i:Nat} (hi:i<n+1):plc B (remW B W V q n) i=plc B (W - q*V) i:=by
 rw [remW,show W+B ^ (n+1) - q*V=(W - q*V)+1*B ^ (n+1) by omega,adI hi]
theorem alb (hB:2≤B) {R d j:Nat} (k:Nat):plc B (R % B ^ j+d*B ^ j) k=if k<j then plc B R k else plc B d (k - j):=by
 have hp:0<B ^ j:=Nat.pow_pos (by omega)
 split
 · rename_i h;rw [adI h,ane h]
 · rename_i h;obtain ⟨e,rfl⟩:∃ e,k=j+e:=⟨k - j,by omega⟩
   rw [← ae6,Nat.add_mul_div_right _ _ hp,Nat.div_eq_of_lt (Nat.mod_lt _ hp),Nat.zero_add,Nat.add_sub_cancel_left]
theorem afH {R V j:Nat}:R % (V*B ^ j)=R % B ^ j+(R / B ^ j % V)*B ^ j∧R / (V*B ^ j)=R / B ^ j / V:=by
 constructor
 · rw [Nat.mul_comm V,Nat.mod_mul,Nat.mul_comm (B ^ j)]
 · rw [Nat.mul_comm V,Nat.div_div_eq_div_mul]
end
section
variable {c v1 v0 T u1 q r:Nat}
def hq (c v1 v0 T u1:Nat):Nat:=(T*c+u1) / (v1*c+v0)
theorem hq_lt (hT:T<v1*c+v0) (hu:u1<c):hq c v1 v0 T u1<c:=by
 rw [hq,Nat.div_lt_iff_lt_mul (by omega)]
 calc T*c+u1<T*c+c:=by omega
  _=(T+1)*c:=by rw [Nat.add_mul,Nat.one_mul]
  _≤(v1*c+v0)*c:=Nat.mul_le_mul_right _ hT
  _=c*(v1*c+v0):=Nat.mul_comm _ _
theorem atr (h1:0<v1) (hv:v0<c) (hu:u1<c):hq c v1 v0 T u1≤T / v1:=by
 have hc:0<c:=by omega
 have a1:(v1*c+v0) / c=v1:=by rw [Nat.mul_comm,Nat.mul_add_div hc,Nat.div_eq_of_lt hv,Nat.add_zero]
 have a2:(T*c+u1) / c=T:=by rw [Nat.mul_comm,Nat.mul_add_div hc,Nat.div_eq_of_lt hu,Nat.add_zero]
 have h:=ajv (V:=v1*c+v0) (W:=T*c+u1) (d:=c) (by rw [a1]; exact h1)
 rwa [a1,a2] at h
theorem anR (h1:0<v1) (hc:0<c) (hr:q*v1+r=T) (hq1:hq c v1 v0 T u1≤q) (ht:q*v0≤c*r+u1):q=hq c v1 v0 T u1:=by
 have hV:0<v1*c+v0:=by have:=Nat.mul_pos h1 hc; omega
 have h:q*(v1*c+v0)≤T*c+u1:=(ajV hr).2 (by rw [Nat.mul_comm r]; exact ht);have:q≤hq c v1 v0 T u1:=by rw [hq,Nat.le_div_iff_mul_le hV]; exact h
 omega
theorem ayN (h1:0<v1) (hc:0<c) (hr:q*v1+r=T) (hq1:hq c v1 v0 T u1≤q) (ht:c≤q∧hq c v1 v0 T u1<c∨c*r+u1<q*v0):hq c v1 v0 T u1≤q - 1:=by
 rcases ht with ⟨ht,h2⟩ | ht
 · omega
 · have hV:0<v1*c+v0:=by have:=Nat.mul_pos h1 hc; omega
   have h:¬ q*(v1*c+v0)≤T*c+u1:=fun e=>by
    have:=(ajV hr).1 e;rw [Nat.mul_comm r] at this; omega
   have:hq c v1 v0 T u1<q:=by rw [hq,Nat.div_lt_iff_lt_mul hV]; omega
   omega
theorem av0 (hT:T<v1*c+v0) (hv:v0<c) (hr:q*v1+r=T) (hrc:c≤r):q<c:=by
 rcases Nat.lt_or_ge q c with h | h
 · exact h
 · have:c*v1≤q*v1:=Nat.mul_le_mul_right _ h;rw [Nat.mul_comm c] at this;omega
theorem apy (h1:0<v1) (hT:T<v1*c+v0) (hv:v0<c) (hr:q*v1+r=T) (hrc:c≤r) (hq1:hq c v1 v0 T u1≤q):q=hq c v1 v0 T u1:=by
 have hq2:=av0 hT hv hr hrc;refine anR h1 (by omega) hr hq1 ?_;have a1:q*v0≤c*v0:=Nat.mul_le_mul_right _ (by omega);have a2:c*v0≤c*r:=Nat.mul_le_mul_left _ (by omega);omega
theorem hq_le (h1:0<v1) (hT:T<v1*c+v0) (hn:c≤2*v1) (hv:v0<c):T / v1≤c+1:=by
 have:T / v1<c+2:=by
  rw [Nat.div_lt_iff_lt_mul h1,Nat.add_mul,Nat.mul_comm c]; omega
 omega
theorem atq:T*c+u1 - hq c v1 v0 T u1*(v1*c+v0)=(T*c+u1) % (v1*c+v0):=by
 rw [hq];generalize T*c+u1=A;generalize v1*c+v0=V;have:=Nat.div_add_mod A V;rw [Nat.mul_comm (A / V)]; omega
theorem hq_both {Y U c:Nat} (hY:0<Y):U / Y=U / c / Y*c+((U / c % Y)*c+U % c) / Y∧U % Y=((U / c % Y)*c+U % c) % Y:=by
 have e:U=(U / c % Y*c+U % c)+(U / c / Y*c)*Y:=by
  have h1:=Nat.div_add_mod U c;have h2:=Nat.div_add_mod (U / c) Y;have h3:(Y*(U / c / Y)+U / c % Y)*c=U / c*c:=by rw [h2]
  rw [Nat.add_mul,Nat.mul_comm Y,Nat.mul_right_comm] at h3;rw [Nat.mul_comm c] at h1;omega
 constructor
 · conv=>lhs; rw [e]
   rw [Nat.add_mul_div_right _ _ hY,Nat.add_comm]
 · conv=>lhs; rw [e]
   rw [Nat.add_mul_mod_self_right]
end
section
variable {B W V n q r:Nat}
theorem two_top (hB:2≤B) (hn:2≤n) (hV2:V<B ^ n):V / B ^ (n - 2)=plc B V (n - 1)*B+plc B V (n - 2):=by
 obtain ⟨k,rfl⟩:∃ k,n=k+2:=⟨n - 2,by omega⟩
 have e1:k+2 - 2=k:=by omega
 have e2:k+2 - 1=k+1:=by omega
 rw [e1,e2,abG];have:V / B ^ (k+1)=plc B V (k+1):=by
  rw [plc,Nat.mod_eq_of_lt];rw [Nat.div_lt_iff_lt_mul (Nat.pow_pos (by omega)),Nat.mul_comm,← Nat.pow_succ]; exact hV2
 rw [this]
theorem top_pos (hB:2≤B) (hn:2≤n) (hV:B ^ (n - 1)≤V) (hV2:V<B ^ n):V / B ^ (n - 1)=plc B V (n - 1)∧0<plc B V (n - 1):=by
 obtain ⟨k,rfl⟩:∃ k,n=k+1:=⟨n - 1,by omega⟩
 have e2:k+1 - 1=k:=by omega
 rw [e2] at *;have:V / B ^ k=plc B V k:=by
  rw [plc,Nat.mod_eq_of_lt];rw [Nat.div_lt_iff_lt_mul (Nat.pow_pos (by omega)),Nat.mul_comm,← Nat.pow_succ]; exact hV2
 exact ⟨this,by rw [← this]; exact Nat.div_pos hV (Nat.pow_pos (by omega))⟩
theorem ajU (hB:2≤B) (hn:2≤n) (hV:B ^ (n - 1)≤V):0<V:=Nat.lt_of_lt_of_le (Nat.pow_pos (by omega)) hV
theorem atw (hB:2≤B) (hn:2≤n) (hV:B ^ (n - 1)≤V) (hV2:V<B ^ n):W / V≤W / B ^ (n - 1) / plc B V (n - 1):=by
 obtain ⟨h1,h2⟩:=top_pos hB hn hV hV2;rw [← h1];exact ajv (by rw [h1]; exact h2)
theorem ayO (hB : 2 ≤ B) (hn : 2 ≤ n) (hV2 : V < B ^ n) (hr : q * plc B V (n - 1) + r = W / B ^ (n - 1)) :
    q*(V / B ^ (n - 2))≤W / B ^ (n - 2)↔q*plc B V (n - 2)≤r*B+plc B W (n - 2):=by
 rw [two_top hB hn hV2,abG,show n - 2+1=n - 1 by omega];exact ajV hr
theorem gs_ok (hB:2≤B) (hn:2≤n) (hV:B ^ (n - 1)≤V) (hV2:V<B ^ n) (hr:q*plc B V (n - 1)+r=W / B ^ (n - 1)) (hq:q<B) (ht:q*plc B V (n - 2)≤r*B+plc B W (n - 2)):q≤W / V+1:=by
 have hp:0<B ^ (n - 2):=Nat.pow_pos (by omega);refine aqS hp ?_ (ajU hB hn hV) ((ayO hB hn hV2 hr).2 ht);have e:n - 1=n - 2+1:=by omega
 rw [e,Nat.pow_succ,Nat.mul_comm] at hV;exact Nat.le_trans (Nat.mul_le_mul_right _ (by omega)) hV
theorem ayP (hB:2≤B) (hn:2≤n) (hV:B ^ (n - 1)≤V) (hV2:V<B ^ n) (hr:q*plc B V (n - 1)+r=W / B ^ (n - 1)) (ht:r*B+plc B W (n - 2)<q*plc B V (n - 2)):W / V<q:=by
 have hp:0<B ^ (n - 2):=Nat.pow_pos (by omega);refine att hp (ajU hB hn hV) ?_;rcases Nat.lt_or_ge (W / B ^ (n - 2)) (q*(V / B ^ (n - 2))) with h | h
 · exact h
 · have:=(ayO hB hn hV2 hr).1 h; omega
theorem atv (hB:2≤B) (hr:B≤r) (hq:q<B):q*plc B V (n - 2)≤r*B+plc B W (n - 2):=by
 have h1:plc B V (n - 2)<B:=aaq hB _ _;have a1:q*plc B V (n - 2)≤B*B:=Nat.mul_le_mul (by omega) (by omega);have a2:B*B≤r*B:=Nat.mul_le_mul_right _ hr;omega
theorem anT (hB:2≤B) (hn:1≤n) (hV2:V<B ^ n) (hW:W<V*B):W / B ^ n≤plc B V (n - 1)∧W / V<B:=by
 obtain ⟨k,rfl⟩:∃ k,n=k+1:=⟨n - 1,by omega⟩
 have e2:k+1 - 1=k:=by omega
 rw [e2];have hk:0<B ^ k:=Nat.pow_pos (by omega);have h1:V / B ^ k=plc B V k:=by
  rw [plc,Nat.mod_eq_of_lt];rw [Nat.div_lt_iff_lt_mul hk,Nat.mul_comm,← Nat.pow_succ]; exact hV2
 refine ⟨?_,?_⟩
 · rw [← h1,Nat.pow_succ,Nat.mul_comm,← Nat.div_div_eq_div_mul];refine Nat.div_le_div_right ?_;have:W / B<V:=by rw [Nat.div_lt_iff_lt_mul (by omega)]; exact hW
   omega
 · have hv:0<V:=by
    rcases Nat.eq_zero_or_pos V with h | h
    · subst h; simp at hW
    · exact h
   rw [Nat.div_lt_iff_lt_mul hv,Nat.mul_comm]; exact hW
def rowC (B V q i:Nat):Nat:=q*(V % B ^ i) / B ^ i
theorem ase:rowC B V q 0=0:=by simp [rowC,Nat.mod_one]
theorem avd (hB:2≤B) (i:Nat):(q*plc B V i+rowC B V q i) % B=plc B (q*V) i∧(q*plc B V i+rowC B V q i) / B=rowC B V q (i+1):=by
 have hp:0<B ^ i:=Nat.pow_pos (by omega);have e:q*(V % B ^ (i+1)) / B ^ i=q*plc B V i+rowC B V q i:=by
  rw [mod_pow_succ,Nat.mul_add,Nat.mul_left_comm,Nat.add_mul_div_left _ _ hp,rowC,Nat.add_comm]
 rw [← e];constructor
 · have e2:q*V=q*(V % B ^ (i+1))+q*(V / B ^ (i+1))*B ^ (i+1):=by
    have:=Nat.mod_add_div V (B ^ (i+1))
    conv=>lhs; rw [← this]
    rw [Nat.mul_add,Nat.mul_comm (B ^ (i+1)),Nat.mul_assoc]
   conv=>rhs; rw [e2,adI (by omega)]
   rfl
 · rw [rowC,ac0]
theorem rowC_lt (hB:2≤B) (hq:q<B) (i:Nat):rowC B V q i<B:=by
 have hp:0<B ^ i:=Nat.pow_pos (by omega);rw [rowC,Nat.div_lt_iff_lt_mul hp];exact Nat.mul_lt_mul'' hq (Nat.mod_lt _ hp)
theorem avf (hB:2≤B) (hq:q<B) (hV2:V<B ^ n):rowC B V q n=plc B (q*V) n:=by
 have hp:0<B ^ n:=Nat.pow_pos (by omega);rw [rowC,Nat.mod_eq_of_lt hV2,plc];refine (Nat.mod_eq_of_lt ?_).symm;rw [Nat.div_lt_iff_lt_mul hp];exact Nat.mul_lt_mul'' hq hV2
theorem aqA (hq:q<B) (hV2:V<B ^ n):q*V<B ^ (n+1):=by
 rw [Nat.pow_succ,Nat.mul_comm (B ^ n)];exact Nat.mul_lt_mul'' hq hV2
theorem afw {m i:Nat} (hi:i<m):plc B (W+B ^ m) i=plc B W i:=by
 have:=adI (B:=B) (n:=W) (c:=1) hi
 rwa [Nat.one_mul] at this
theorem anO (hW:W<B ^ (n+1)) (h2:q*V<B ^ (n+1)):aaF B (W+B ^ (n+1)) (q*V) (n+1)=if W<q*V then 1 else 0:=by
 rw [aaF,Nat.add_mod_right,Nat.mod_eq_of_lt hW,Nat.mod_eq_of_lt h2]
theorem rem_no (h:q*V≤W) (h2:q≤W / V+1) (hV:0<V) (h3:W / V≤q):q=W / V∧W - q*V=W % V:=by
 have e:q=W / V:=by
  have:=(Nat.le_div_iff_mul_le hV).2 h;omega
 refine ⟨e,?_⟩;have:=Nat.div_add_mod W V;rw [e,Nat.mul_comm]; omega
theorem avj (h:W<q*V) (h2:q≤W / V+1) (hV:0<V) (h3:W / V≤q):q=W / V+1∧∀ M,q*V≤W+M→W+M - q*V+V=W % V+M:=by
 have e:q=W / V+1:=by
  have:¬ q≤W / V:=fun e=>by
   have:=(Nat.le_div_iff_mul_le hV).1 e; omega
  omega
 refine ⟨e,fun M hM=>?_⟩;have:=Nat.div_add_mod W V;have e2:q*V=V*(W / V)+V:=by rw [e,Nat.add_mul,Nat.one_mul,Nat.mul_comm]
 omega
end
section
variable {S T:Nat}
theorem ah0 {x0 x1:Nat} (h:x0<S) (hT:0<T):(x0+S*x1) % (S*T)=x0+S*(x1 % T):=by
 have hS:0<S:=by omega
 have e:x1=x1 % T+T*(x1 / T):=(Nat.mod_add_div x1 T).symm
 conv=>lhs; rw [e,Nat.mul_add,← Nat.mul_assoc,← Nat.add_assoc,Nat.add_mul_mod_self_left]
 refine Nat.mod_eq_of_lt ?_;have h1:x1 % T+1≤T:=Nat.mod_lt _ hT;have h2:S*(x1 % T+1)≤S*T:=Nat.mul_le_mul_left _ h1;rw [Nat.mul_add,Nat.mul_one] at h2;omega
theorem au6 (w:Nat):plc (S*T) (w*S) 0=(plc (S*T) w 0*S) % (S*T):=by
 simp only [plc,Nat.pow_zero,Nat.div_one];rw [Nat.mod_mul_mod]
theorem au7 (hS:0<S) (hT:0<T) (w i:Nat):plc (S*T) (w*S) (i+1)=(plc (S*T) w (i+1)*S) % (S*T)+plc (S*T) w i / T:=by
 have hB:0<S*T:=Nat.mul_pos hS hT;have e0:w*S / (S*T) ^ (i+1)=w / (S*T) ^ i / T:=by
  rw [Nat.pow_succ,Nat.mul_comm S T,← Nat.mul_assoc,Nat.mul_div_mul_right _ _ hS,Nat.div_div_eq_div_mul]
 have e1:w / (S*T) ^ (i+1)=w / (S*T) ^ i / (S*T):=by rw [Nat.pow_succ,Nat.div_div_eq_div_mul]
 simp only [plc];rw [e0,e1];generalize w / (S*T) ^ i=x;have e2:x / T=x % (S*T) / T+S*(x / (S*T)):=by
  conv=>lhs; rw [← Nat.mod_add_div x (S*T)]
  rw [show S*T*(x / (S*T))=T*(S*(x / (S*T))) by rw [Nat.mul_comm S T,Nat.mul_assoc],Nat.add_mul_div_left _ _ hT]
 have h1:x % (S*T) / T<S:=by rw [Nat.div_lt_iff_lt_mul hT]; exact Nat.mod_lt _ hB
 rw [e2,ah0 h1 hT];have e3:x / (S*T) % (S*T)*S % (S*T)=S*(x / (S*T) % T):=by
  rw [Nat.mul_comm _ S,Nat.mul_mod_mul_left,Nat.mul_comm S T,Nat.mod_mul_right_mod]
 rw [e3,Nat.add_comm]
theorem shr_plc (hS:0<S) (hT:0<T) (R i:Nat):plc (S*T) (R / S) i=plc (S*T) R i / S+(plc (S*T) R (i+1)*T) % (S*T):=by
 have hB:0<S*T:=Nat.mul_pos hS hT;have e0:R / S / (S*T) ^ i=R / (S*T) ^ i / S:=by rw [Nat.div_div_eq_div_mul,Nat.mul_comm,Nat.div_div_eq_div_mul]
 have e1:R / (S*T) ^ (i+1)=R / (S*T) ^ i / (S*T):=by rw [Nat.pow_succ,Nat.div_div_eq_div_mul]
 simp only [plc];rw [e0,e1];generalize R / (S*T) ^ i=x;have e2:x / S=x % (S*T) / S+T*(x / (S*T)):=by
  conv=>lhs; rw [← Nat.mod_add_div x (S*T)]
  rw [Nat.mul_assoc,Nat.add_mul_div_left _ _ hS]
 have h1:x % (S*T) / S<T:=by rw [Nat.div_lt_iff_lt_mul hS,Nat.mul_comm T]; exact Nat.mod_lt _ hB
 have h2:=ah0 (S:=T) (T:=S) (x0:=x % (S*T) / S) (x1:=x / (S*T)) h1 hS;rw [Nat.mul_comm T S] at h2;rw [e2,h2];have e3:x / (S*T) % (S*T)*T % (S*T)=T*(x / (S*T) % S):=by
  rw [Nat.mul_comm _ T,Nat.mul_comm S T,Nat.mul_mod_mul_left,Nat.mul_comm T S,Nat.mod_mul_right_mod]
 rw [e3]
end
theorem asL {a b s:Nat} (hb:b<2 ^ s):a*2 ^ s ||| b=a*2 ^ s+b:=by
 have:=Nat.shiftLeft_add_eq_or_of_lt hb a;rw [Nat.shiftLeft_eq] at this;exact this.symm
def eW (l:List Nat):List PV:=l.map fun x:Nat=>.int .u64 x
theorem shpW (w:List Nat):abj Tryz.prog 1 (w.map (AV.p∘fun x:Nat=>PV.int .u64 x)):=by
 rw [aeL];intro v hv;obtain ⟨x,_,rfl⟩:=List.mem_map.1 hv;simp [shpA,shp,aah]
theorem af1:∀ l:List Nat,aby (l ++ [0])=aby l
 | []=>by simp [aby]
 | d::l=>by rw [List.cons_append,aby,af1 l,aby]
theorem adm:∀ (l:List Nat) (d:Nat),d≠0→aby (l ++ [d])=l ++ [d]
 | [],d,h=>by simp [aby,h]
 | x::l,d,h=>by
  rw [List.cons_append,aby,adm l d h]
  split
  · rename_i e; simp at e
  · rfl
theorem agq (w:List Nat) (h:w.length≤1048576):aab Tryz.prog 313 [.seq (eW w)] (.seq (eW (aby w))):=by
 refine aad nf axF mix (by simp [Tryz.f313]) ?_;simp only [eW];simp [Tryz.f313];refine lp (α:=Nat) (fun i=>⟨[(3,.p (.int .i64 i)),(0,.p (.seq (w.map fun x:Nat=>.int .u64 x)))],[]⟩) (fun i=>i≤w.length∧aby w=aby (w.take i)) (fun i=>i) w.length (by simp) ?_;rintro i ⟨k1,k2⟩
 by_cases hi:0<i
 · obtain ⟨j,rfl⟩:∃ j,i=j+1:=⟨i - 1,by omega⟩
   have hw1:IntKind.i64.wrap (j:Int)=j:=wi64 _ (by omega) (by omega);have hj:j<w.length:=by omega
   have hp:(0:Int)<(j:Int)+1:=by omega
   have k3:=k2;rw [List.take_succ_eq_append_getElem hj] at k2
   by_cases hz:w[j]=0
   · rw [hz,af1] at k2;have hz':((w[j]:Nat):Int)=0:=by omega
     simp [hp,hw1,hj,hz];exact rd j ⟨by omega,k2⟩
   · rw [adm _ _ hz,← List.take_succ_eq_append_getElem hj] at k2;simp [hp,hw1,hj,hz];refine ⟨⟨by omega,by omega,shpW w⟩,?_⟩;rw [k2,List.map_take];exact Wkl.refl _
 · obtain rfl:i=0:=by omega
   simp [aby] at k2;simp [k2];exact shpW w
def eN (n:Nat):PV:=.seq ((dig wB n).map fun x:Nat=>.int .u64 x)
theorem wB2:2≤wB:=by decide
def cmpN (a b:Nat):Int:=if a<b then -1 else if b<a then 1 else 0
theorem ajA {a b:Nat} (h:(dig wB a).length<(dig wB b).length):a<b:=by
 have h1:=aaf wB2 a;rcases Nat.lt_or_ge a b with h' | h'
 · exact h'
 · have:=aak wB2 (dig wB a).length b (Nat.lt_of_le_of_lt h' h1);omega
theorem amz {a b i:Nat} (h:a / wB ^ (i+1)=b / wB ^ (i+1)) (hp:plc wB a i<plc wB b i):a<b:=by
 rw [Nat.pow_succ,← Nat.div_div_eq_div_mul,← Nat.div_div_eq_div_mul] at h;have e1:=Nat.div_add_mod (a / wB ^ i) wB;have e2:=Nat.div_add_mod (b / wB ^ i) wB;rw [plc,plc] at hp;rw [h] at e1;rcases Nat.lt_or_ge a b with h' | h'
 · exact h'
 · have:=Nat.div_le_div_right (c:=wB ^ i) h';omega
theorem awk {a b i:Nat} (h:a / wB ^ (i+1)=b / wB ^ (i+1)) (hp:plc wB a i=plc wB b i):a / wB ^ i=b / wB ^ i:=by
 rw [Nat.pow_succ,← Nat.div_div_eq_div_mul,← Nat.div_div_eq_div_mul] at h;have e1:=Nat.div_add_mod (a / wB ^ i) wB;have e2:=Nat.div_add_mod (b / wB ^ i) wB;rw [plc,plc] at hp;rw [h] at e1;omega
theorem aeV (a b:Nat) (ha:(dig wB a).length≤1048576) (hb:(dig wB b).length≤1048576):aab Tryz.prog 321 [eN a,eN b] (.int .i64 (cmpN a b)):=by
 refine aad nf axz mix (by simp [Tryz.f321]) ?_
 by_cases hl:(dig wB a).length=(dig wB b).length
 case neg =>
  have hl':¬ ((dig wB a).length:Int)=(dig wB b).length:=by omega
  by_cases hl2:(dig wB a).length<(dig wB b).length
  · have hl3:((dig wB a).length:Int)<(dig wB b).length:=by omega
    have:=ajA hl2;have hc:cmpN a b = -1:=if_pos this;simp [Tryz.f321,eN,hl',hl3,hc]
  · have hl3:¬ ((dig wB a).length:Int)<(dig wB b).length:=by omega
    have:=ajA (a:=b) (b:=a) (by omega);have hc:cmpN a b=1:=by rw [cmpN,if_neg (by omega),if_pos this]
    simp [Tryz.f321,eN,hl',hl3,hc]
 have hga:∀ i (h:i<(dig wB a).length),(dig wB a)[i]=plc wB a i:=fun i h=>aal wB2 h;have hgb:∀ i (h:i<(dig wB b).length),(dig wB b)[i]=plc wB b i:=fun i h=>aal wB2 h;have h1:=aaf wB2 a;have h2:=aaf wB2 b;rw [← hl] at h2;have hinit:a / wB ^ (dig wB a).length=b / wB ^ (dig wB a).length:=by rw [Nat.div_eq_of_lt h1,Nat.div_eq_of_lt h2]
 have hd0:a=b∨a≠b:=by omega
 simp only [eN];generalize dig wB a=x at *;generalize dig wB b=y at *;have hwl:IntKind.i64.wrap ((y.length:Int) - 1)=y.length - 1:=wi64 _ (by omega) (by omega);simp [Tryz.f321,hl,hwl];refine lp (α:=Nat) (fun i=>⟨[(5,.p (.int .i64 ((i:Int) - 1))),(1,.p (.seq (y.map fun x:Nat=>.int .u64 x))),(0,.p (.seq (x.map fun x:Nat=>.int .u64 x)))],[]⟩) (fun i=>i≤y.length∧a / wB ^ i=b / wB ^ i) (fun i=>i) y.length ⟨Nat.le_refl _,by rw [← hl]; exact hinit⟩ ?_;rintro i ⟨k1,k2⟩
 by_cases hi:0<i
 · obtain ⟨j,rfl⟩:∃ j,i=j+1:=⟨i - 1,by omega⟩
   have hjx:j<x.length:=by omega
   have hjy:j<y.length:=by omega
   have hwj:IntKind.i64.wrap ((j:Int) - 1)=j - 1:=wi64 _ (by omega) (by omega);have gx:=hga j hjx;have gy:=hgb j hjy
   by_cases hq:plc wB a j=plc wB b j
   · simp [hjx,hjy,gx,gy,hq,hwj];exact rd j ⟨by omega,awk k2 hq⟩
   · have hqI:¬ (plc wB a j:Int)=plc wB b j:=by omega
     by_cases hq2:plc wB a j<plc wB b j
     · have:=amz k2 hq2;have hc:cmpN a b = -1:=if_pos this;simp [hjx,hjy,gx,gy,hqI,hq2,hc]
     · have:=amz k2.symm (show plc wB b j<plc wB a j by omega);have hc:cmpN a b=1:=by rw [cmpN,if_neg (by omega),if_pos this]
       simp [hjx,hjy,gx,gy,hqI,hq2,hc]
 · obtain rfl:i=0:=by omega
   rw [Nat.pow_zero,Nat.div_one,Nat.div_one] at k2;have hc:cmpN a b=0:=by rw [cmpN,if_neg (by omega),if_neg (by omega)]
   simp [hc]
@[simp] theorem amL {α:Type} {f:α→PV}:∀ {l:List α},allP (l.map (AV.p∘f))=some (l.map f)
 | []=>rfl
 | x::l=>by simp only [List.map_cons,Function.comp,allP]; rw [show (l.map (AV.p∘f))=l.map (fun x=>AV.p (f x)) from rfl] at *; have:=@amL α f l; rw [show (l.map (AV.p∘f))=l.map (fun x=>AV.p (f x)) from rfl] at this; simp [this]
def uA (x:Nat):AV:=.p (.int .u64 x)
def mkO (n i:Nat) (f:Nat→Nat):List AV:=(List.range n).map fun j=>uA (if j<i then f j else 0)
theorem anz (n i:Nat) (f:Nat→Nat):(mkO n i f).length=n:=by simp [mkO]
theorem api (n:Nat) (f:Nat→Nat):List.replicate n (AV.p (.int .u64 0))=mkO n 0 f:=by
 apply List.ext_getElem (by simp [mkO]);intro i h1 h2;simp [mkO,uA]
theorem anx {n i:Nat} (f:Nat→Nat) (h:i<n):(mkO n i f).set i (.p (.int .u64 (f i)))=mkO n (i+1) f:=by
 apply List.ext_getElem (by simp [mkO]);intro j h1 h2;simp only [mkO,List.length_map,List.length_range] at h2;rw [List.getElem_set];simp only [mkO,List.getElem_map,List.getElem_range,uA]
 by_cases hj:i=j
 · subst hj; rw [if_pos rfl,if_pos (by omega)]
 · rw [if_neg hj]
   by_cases hj2:j<i
   · rw [if_pos hj2,if_pos (by omega)]
   · rw [if_neg hj2,if_neg (by omega)]
theorem apj (n:Nat) (f:Nat→Nat):mkO n n f=((List.range n).map f).map (AV.p∘fun x:Nat=>PV.int .u64 x):=by
 rw [mkO,List.map_map];apply List.map_congr_left;intro j hj;rw [if_pos (List.mem_range.1 hj)]; rfl
@[simp] theorem mkO_refs {N:Nat×Nat→Prop} {n i:Nat} {f:Nat→Nat}:aac N (mkO n i f)=True:=by
 rw [aag,eq_iff_iff,iff_true]; intro v hv; simp only [mkO,List.mem_map] at hv; obtain ⟨x,_,rfl⟩:=hv; trivial
theorem ah2 {n i j:Nat} (f:Nat→Nat) (h:j<n):(mkO n i f)[j]?=some (uA (if j<i then f j else 0)):=by
 rw [mkO,List.getElem?_map,List.getElem?_range h]; rfl
theorem aq3 {A C n:Nat} (h1:A<wB ^ n) (h2:C<wB ^ n):aaz wB A C n=plc wB (A+C) n:=by
 have hp:0<wB ^ n:=Nat.pow_pos (by decide);have:=abx wB2 A C n;rw [aaz,Nat.mod_eq_of_lt h1,Nat.mod_eq_of_lt h2] at *;rw [plc,Nat.mod_eq_of_lt];exact Nat.lt_of_le_of_lt this (by decide)
theorem anc {n i:Nat} (h:(dig wB n).length≤i):plc wB n i=0:=aat (Nat.lt_of_lt_of_le (aaf wB2 n) (Nat.pow_le_pow_right (by decide) h))
theorem aq7 (a b:Nat) (ha:(dig wB a).length≤1000000) (hb:(dig wB b).length≤1000000):aab Tryz.prog 320 [eN a,eN b] (eN (a+b)):=by
 refine aad nf axA mix (by simp [Tryz.f320]) ?_;simp [Tryz.f320,-aai];rw [aai];simp [-aai];refine join (fun s=>∃ A C,A+C=a+b∧(dig wB C).length≤(dig wB A).length∧(dig wB A).length≤1000000∧getE s.env 0=.p (eN A)∧getE s.env 1=.p (eN C)∧s.heap=[]) ?_ ?_
 · by_cases hl:(dig wB a).length<(dig wB b).length
   · have hl':((dig wB a).length:Int)<(dig wB b).length:=by omega
     simp [eN,hl'];exact ⟨b,a,by omega,by omega,hb,rfl,rfl⟩
   · have hl':¬ ((dig wB a).length:Int)<(dig wB b).length:=by omega
     simp [eN,hl'];exact ⟨a,b,rfl,by omega,ha,rfl,rfl⟩
 rintro ⟨env',heap'⟩ ⟨A,C,hs,hlc,hla,f0,f1,hp⟩;dsimp only at f0 f1 hp;subst hp;rw [← hs];simp only [eN] at f0 f1 ⊢;have hdA:∀ i (h:i<(dig wB A).length),(dig wB A)[i]=plc wB A i:=fun i h=>aal wB2 h;have hdC:∀ i (h:i<(dig wB C).length),(dig wB C)[i]=plc wB C i:=fun i h=>aal wB2 h;have hlA:=aaf wB2 A;have hlC:=Nat.lt_of_lt_of_le (aaf wB2 C) (Nat.pow_le_pow_right (show 0<wB by decide) hlc);have hct:=aq3 hlA hlC;have hoC:=@anc C;have htr:aby ((List.range ((dig wB A).length+1)).map (plc wB (A+C)))=dig wB (A+C):=abl wB2 (by
  have h4:2*wB ^ (dig wB A).length≤wB ^ ((dig wB A).length+1):=by rw [Nat.pow_succ,Nat.mul_comm]; exact Nat.mul_le_mul_left _ wB2
  omega)
 have hT:=agq ((List.range ((dig wB A).length+1)).map (plc wB (A+C))) (by simp; omega);rw [htr] at hT;generalize dig wB (A+C)=z at *;generalize dig wB A=x at *;generalize dig wB C=y at *;obtain ⟨n,hn⟩:∃ n,x.length=n:=⟨_,rfl⟩
 obtain ⟨m,hm⟩:∃ m,y.length=m:=⟨_,rfl⟩
 rw [hn] at hct hT;have hfull:=apj (n+1) (plc wB (A+C));have hll:((List.range (n+1)).map (plc wB (A+C))).length=n+1:=by simp
 generalize (List.range (n+1)).map (plc wB (A+C))=l at hT hfull hll;have hla':n≤1000000:=by omega
 have hmn:m≤n:=by omega
 have hwn:IntKind.i64.wrap ((n:Int)+1)=n+1:=wi1 (by omega);simp [f0,f1,hn,hwn];refine ⟨⟨by omega,by simp only [maxL]; omega⟩,?_⟩;rw [api (n+1) (plc wB (A+C))];refine lp (α:=Nat) (fun i=>⟨[(22,.p (.int .i64 i)),(21,.p (.int .i64 n)),(6,.p (.int .u64 (aaz wB A C i:Nat))),(5,.sl 0 0 1 0 (n+1)),(1,.p (.seq (y.map fun x:Nat=>.int .u64 x))),(0,.p (.seq (x.map fun x:Nat=>.int .u64 x)))],[.arr .exact 0 1 (mkO (n+1) i (plc wB (A+C)))]⟩)
  (fun i=>i≤n) (fun i=>n - i) 0 (by simp) ?_ (he:=by simp [f0,f1,adZ])
 intro i k1;have hwi:=wi1 (i:=i) (by omega)
 by_cases hi:i<n
 · have hix:i<x.length:=by rw [hn]; exact hi
   have hx:=hdA i hix;have hca:=afh (plc wB A i) (plc wB C i) (aaz wB A C i) (abx wB2 A C i);obtain ⟨g1,g2⟩:=ad2 wB2 A C i;rw [g1,g2] at hca;have hst:=anx (n:=n+1) (plc wB (A+C)) (show i<n+1 by omega);have hin:i<(mkO (n+1) i (plc wB (A+C))).length:=by rw [anz]; omega
   have hml:(mkO (n+1) i (plc wB (A+C))).length=n+1:=anz _ _ _;have hne:mkO (n+1) i (plc wB (A+C))≠[]:=by intro h; rw [h] at hml; simp at hml
   have hi1:i<n+1:=by omega
   by_cases hm2:i<m
   · have hiy:i<y.length:=by rw [hm]; exact hm2
     have hy:=hdC i hiy;have hm3:(i:Int)<m:=by omega
     simp [hn,hm,hi,hm2,hm3,hx,hy,hix,hiy];refine c3 hca ?_;simp [hi1,hst,hwi,ah2 _ hi1,shpA,shp,aah,uA];exact rd (i+1) (show i+1≤n by omega)
   · have hm3:¬ (i:Int)<m:=by omega
     have hz:=hoC (i:=i) (by omega);rw [hz] at hca;simp [hn,hm,hi,hm2,hm3,hx,hix];refine c3 hca ?_;simp [hi1,hst,hwi,ah2 _ hi1,shpA,shp,aah,uA];exact rd (i+1) (show i+1≤n by omega)
 have:i=n:=by omega
 subst this;simp [hn,hct,ah2 _ (Nat.lt_succ_self i),anx _ (Nat.lt_succ_self i),hfull,shpA,shp,aah,uA];refine cp hT (by simp [hll]; exact ⟨rfl,rfl⟩) ?_ (h1:=by simp [eW,List.take_of_length_le,hll]);simp;exact Wkl.refl _
end Go.Abs
namespace Go.Abs
open Go.Proofs
theorem au0 {x y c d:Nat} (h:x+wB=d+(y+c)) (hd:d<wB):(x+wB - y - c) % wB=d:=by rw [show x+wB - y - c=d by omega]; exact Nat.mod_eq_of_lt hd
theorem auZ {x y c d:Nat} (h:x=d+(y+c)) (hd:d<wB):(x+wB - y - c) % wB=d:=by rw [show x+wB - y - c=d+wB by omega,Nat.add_mod_right]; exact Nat.mod_eq_of_lt hd
theorem ay6 {A C:Nat} (h:C≤A) (i:Nat):aab Tryz.prog 350 [.int .u64 (plc wB A i),.int .u64 (plc wB C i),.int .u64 (aaF wB A C i)] (.tup [.int .u64 (plc wB (A - C) i),.int .u64 (aaF wB A C (i+1))]):=by
 have hb:aaF wB A C i≤1:=by rw [aaF]; split <;> omega
 have h1:=c_sub64 (plc wB A i) (plc wB C i) (aaF wB A C i) hb;have h2:=aaq wB2 (A - C) i;have h3:=aaq wB2 A i;have h4:=aaq wB2 C i;have h0:wB=18446744073709551616:=rfl;rcases aoN wB2 h i with ⟨e1,e2,e3⟩ | ⟨e1,e2,e3⟩
 · rw [if_pos e1,au0 e3 h2] at h1;rw [e2]; exact h1
 · rw [if_neg (by omega),auZ e3 h2] at h1;rw [e2]; exact h1
theorem ajK (A C:Nat) (hCA:C≤A) (hla:(dig wB A).length≤1000000):aab Tryz.prog 322 [eN A,eN C] (eN (A - C)):=by
 refine aad nf axy mix (by simp [Tryz.f322]) ?_;have hlc:(dig wB C).length≤(dig wB A).length:=aak wB2 _ _ (Nat.lt_of_le_of_lt hCA (aaf wB2 A));have hdA:∀ i (h:i<(dig wB A).length),(dig wB A)[i]=plc wB A i:=fun i h=>aal wB2 h;have hdC:∀ i (h:i<(dig wB C).length),(dig wB C)[i]=plc wB C i:=fun i h=>aal wB2 h;have hoC:=@anc C;have htr:aby ((List.range (dig wB A).length).map (plc wB (A - C)))=dig wB (A - C):=abl wB2 (Nat.lt_of_le_of_lt (Nat.sub_le A C) (aaf wB2 A));have hT:=agq ((List.range (dig wB A).length).map (plc wB (A - C))) (by simp; omega);rw [htr] at hT;simp only [eN];generalize dig wB (A - C)=z at *;generalize dig wB A=x at *;generalize dig wB C=y at *;obtain ⟨n,hn⟩:∃ n,x.length=n:=⟨_,rfl⟩
 obtain ⟨m,hm⟩:∃ m,y.length=m:=⟨_,rfl⟩
 rw [hn] at hT;have hfull:=apj n (plc wB (A - C));have hll:((List.range n).map (plc wB (A - C))).length=n:=by simp
 generalize (List.range n).map (plc wB (A - C))=l at hT hfull hll;have hla':n≤1000000:=by omega
 have hmn:m≤n:=by omega
 simp [Tryz.f322,hn];refine ⟨by simp only [maxL]; omega,?_⟩;rw [api n (plc wB (A - C))];refine lp (α:=Nat) (fun i=>⟨[(14,.p (.int .i64 i)),(13,.p (.int .i64 n)),(6,.p (.int .u64 (aaF wB A C i:Nat))),(5,.sl 0 0 1 0 n),(1,.p (.seq (y.map fun x:Nat=>.int .u64 x))),(0,.p (.seq (x.map fun x:Nat=>.int .u64 x)))],[.arr .exact 0 1 (mkO n i (plc wB (A - C)))]⟩)
  (fun i=>i≤n) (fun i=>n - i) 0 (by simp) ?_ (he:=by simp [aev])
 intro i k1;have hwi:=wi1 (i:=i) (by omega)
 by_cases hi:i<n
 · have hix:i<x.length:=by rw [hn]; exact hi
   have hx:=hdA i hix;have hca:=ay6 hCA i;have hst:=anx (n:=n) (plc wB (A - C)) hi;have hml:(mkO n i (plc wB (A - C))).length=n:=anz _ _ _
   by_cases hm2:i<m
   · have hiy:i<y.length:=by rw [hm]; exact hm2
     have hy:=hdC i hiy;have hm3:(i:Int)<m:=by omega
     simp [hn,hm,hi,hm2,hm3,hx,hy,hix,hiy];refine c3 hca ?_;simp [hi,hst,hwi,ah2 _ hi,shpA,shp,aah,uA];exact rd (i+1) (show i+1≤n by omega)
   · have hm3:¬ (i:Int)<m:=by omega
     have hz:=hoC (i:=i) (by omega);rw [hz] at hca;simp [hn,hm,hi,hm2,hm3,hx,hix];refine c3 hca ?_;simp [hi,hst,hwi,ah2 _ hi,shpA,shp,aah,uA];exact rd (i+1) (show i+1≤n by omega)
 have:i=n:=by omega
 subst this;simp [hn,hfull,shpA,shp,aah,uA];refine cp hT (by simp [hll]; exact ⟨rfl,rfl⟩) ?_ (h1:=by simp [eW,List.take_of_length_le,hll]);simp;exact Wkl.refl _
end Go.Abs
namespace Go.Proofs
open Go.Shelf
def Tryz.anK:Go.Shelf.Ren:=⟨fun | 134=>335 | 129=>323 | n=>n,fun | 53=>309 | 3=>3 | 4=>4 | 46=>369 | 5=>5 | 9=>9 | n=>n,fun | n=>n⟩
theorem Tryz.lays134:Go.Proofs.Lays.n134 Tryz.prog Tryz.anK:={
 mixed:=by kernel_rfl
 f129:=Tryz.func323.trans (congrArg some (by kernel_rfl))
 f134:=Tryz.func335.trans (congrArg some (by kernel_rfl))
 t3:=Tryz.underlying3
 a3:=Tryz.isAgg3
 z3:=Tryz.sizeOf3
 v3:=Tryz.zeroValue3
 t4:=Tryz.underlying4
 a4:=Tryz.isAgg4
 z4:=Tryz.sizeOf4
 v4:=Tryz.zeroValue4
 t5:=Tryz.underlying5
 a5:=Tryz.isAgg5
 z5:=Tryz.sizeOf5
 v5:=Tryz.zeroValue5
 t9:=Tryz.underlying9
 a9:=Tryz.isAgg9
 z9:=Tryz.sizeOf9
 v9:=Tryz.zeroValue9
 t46:=Tryz.underlying369
 a46:=Tryz.isAgg369
 z46:=Tryz.sizeOf369
 v46:=Tryz.zeroValue369
 t53:=Tryz.underlying309
 a53:=Tryz.isAgg309
 z53:=Tryz.sizeOf309
 v53:=Tryz.zeroValue309 }
theorem Tryz.bits_LeadingZeros64 (x : Int) (w : World) (h0 : 0 ≤ x) (h1 : x ≤ 18446744073709551615) :
    Calls Tryz.prog 335 #[.int .u64 x] w fun e w'=>e=.returned (.int .i64 (64 - (Lib.bitLen x.toNat:Int)))∧w'=w:=Any.bits_LeadingZeros64 Tryz.lays134 x w h0 h1
def Tryz.anL:Go.Shelf.Ren:=⟨fun | 129=>323 | n=>n,fun | 53=>309 | 3=>3 | 4=>4 | 46=>369 | 5=>5 | 9=>9 | n=>n,fun | n=>n⟩
theorem Tryz.lays129:Go.Proofs.Lays.n129 Tryz.prog Tryz.anL:={
 mixed:=by kernel_rfl
 f129:=Tryz.func323.trans (congrArg some (by kernel_rfl))
 t3:=Tryz.underlying3
 a3:=Tryz.isAgg3
 z3:=Tryz.sizeOf3
 v3:=Tryz.zeroValue3
 t4:=Tryz.underlying4
 a4:=Tryz.isAgg4
 z4:=Tryz.sizeOf4
 v4:=Tryz.zeroValue4
 t5:=Tryz.underlying5
 a5:=Tryz.isAgg5
 z5:=Tryz.sizeOf5
 v5:=Tryz.zeroValue5
 t9:=Tryz.underlying9
 a9:=Tryz.isAgg9
 z9:=Tryz.sizeOf9
 v9:=Tryz.zeroValue9
 t46:=Tryz.underlying369
 a46:=Tryz.isAgg369
 z46:=Tryz.sizeOf369
 v46:=Tryz.zeroValue369
 t53:=Tryz.underlying309
 a53:=Tryz.isAgg309
 z53:=Tryz.sizeOf309
 v53:=Tryz.zeroValue309 }
theorem Tryz.bits_Len64 (x : Int) (w : World) (h0 : 0 ≤ x) (h1 : x ≤ 18446744073709551615) :
    Calls Tryz.prog 323 #[.int .u64 x] w fun e w'=>e=.returned (.int .i64 (Lib.bitLen x.toNat))∧w'=w:=Any.bits_Len64 Tryz.lays129 x w h0 h1
def Tryz.anI:Go.Shelf.Ren:=⟨fun | 264=>252 | n=>n,fun | 53=>309 | 46=>369 | n=>n,fun | n=>n⟩
theorem Tryz.lays264:Go.Proofs.Lays.n264 Tryz.prog Tryz.anI:={
 mixed:=by kernel_rfl
 f264:=Tryz.func252.trans (congrArg some (by kernel_rfl))
 t46:=Tryz.underlying369
 a46:=Tryz.isAgg369
 z46:=Tryz.sizeOf369
 v46:=Tryz.zeroValue369
 t53:=Tryz.underlying309
 a53:=Tryz.isAgg309
 z53:=Tryz.sizeOf309
 v53:=Tryz.zeroValue309 }
open Go.RowKit Go.Lib in
theorem Tryz.bits_Mul64 (x y : Nat) (hx : x < 18446744073709551616) (hy : y < 18446744073709551616) (w : World) :
    Calls Tryz.prog 252 #[.int .u64 x,.int .u64 y] w fun e w'=>e=.returned (.tuple #[.int .u64 ((x*y / 18446744073709551616:Nat):Int),.int .u64 ((x*y % 18446744073709551616:Nat):Int)])∧w'=w:=Any.bits_Mul64 Tryz.lays264 x y hx hy w
end Go.Proofs
namespace Go.Abs
open Go.Proofs
section
variable [Gl] {P:Program}
theorem abe {f : FuncId} {fn : Func} (h : P.funcs[f]? = some fn) (hs : (fn.body.isSome && (fn.name != "runtime.NumGoroutine")) = true) : Enters P f := by
 intro args w;simp only [Bool.and_eq_true,bne_iff_ne] at hs;cases hfb:fn.body with
 | none=>rw [hfb] at hs; simp at hs
 | some c=>simp [callFunc,h,hs.2,hfb]
theorem abd {f : FuncId} {args : List PV} {v : PV} (he : Enters P f)
    (h:∀ (w:World) (Imm:Nat→Prop) (cargs:List Value),(∀ k,Imm k→k<w.heap.size)→aeX P w Imm→PVVl P w Imm args cargs →
     Calls P f cargs.toArray w fun e w'=>∃ cv,e=.returned cv∧(w.heap.size≤w'.heap.size∧(∀ k,k<w.heap.size→w'.heap[k]?=w.heap[k]?)∧w'.os=w.os∧w'.output=w.output)∧∀ (w:World) (Imm:Nat→Prop),PVV P w Imm v cv):aab P f args v:=by
 refine .inl ⟨he,fun w Imm cargs hb hg ha=>(h w Imm cargs hb hg ha).mono ?_⟩;rintro e w' ⟨cv,rfl,⟨h1,h2,hio⟩,h3⟩;exact ⟨cv,Imm,rfl,fun _ x=>x,fun _ x=>.inl x,fun k hk=>Nat.lt_of_lt_of_le (hb k hk) h1,h1,h2,hio,h3 _ _⟩
theorem ad4 {w:World} {Imm:Nat→Prop} {a b:PV} {cs:List Value} (h:PVVl P w Imm [a,b] cs):∃ x y,cs=[x,y]∧PVV P w Imm a x∧PVV P w Imm b y:=by
 simp only [PVVl] at h;obtain ⟨x,xs,rfl,h1,y,ys,rfl,h2,rfl⟩:=h;exact ⟨x,y,rfl,h1,h2⟩
theorem ahc {w:World} {Imm:Nat→Prop} {a:PV} {cs:List Value} (h:PVVl P w Imm [a] cs):∃ x,cs=[x]∧PVV P w Imm a x:=by
 simp only [PVVl] at h;obtain ⟨x,xs,rfl,h1,rfl⟩:=h;exact ⟨x,rfl,h1⟩
end
theorem akN (x y:Nat) (hx:x<18446744073709551616) (hy:y<18446744073709551616):aab Tryz.prog 252 [.int .u64 x,.int .u64 y] (.tup [.int .u64 ((x*y / 18446744073709551616:Nat):Int),.int .u64 ((x*y % 18446744073709551616:Nat):Int)]):=by
 refine abd (abe Tryz.func252 (by kernel_rfl)) fun w Imm cargs _ _ ha=>?_;obtain ⟨a,b,rfl,h1,h2⟩:=ad4 ha;simp only [PVV] at h1 h2;subst h1 h2;refine (Tryz.bits_Mul64 x y hx hy w).mono ?_;rintro e w' ⟨rfl,rfl⟩;refine ⟨_,rfl,⟨Nat.le_refl _,fun _ _=>rfl,rfl,rfl⟩,fun w Imm=>?_⟩;simp only [PVV,PVVl];exact ⟨[_,_],⟨_,_,rfl,rfl,_,_,rfl,rfl,rfl⟩,rfl⟩
theorem ay8 (x:Nat) (hx:x<18446744073709551616):aab Tryz.prog 335 [.int .u64 x] (.int .i64 (64 - (Lib.bitLen x:Int))):=by
 refine abd (abe Tryz.func335 (by kernel_rfl)) fun w Imm cargs _ _ ha=>?_;obtain ⟨a,rfl,h1⟩:=ahc ha;simp only [PVV] at h1;subst h1;refine (Tryz.bits_LeadingZeros64 x w (by omega) (by omega)).mono ?_;rintro e w' ⟨rfl,rfl⟩;refine ⟨_,rfl,⟨Nat.le_refl _,fun _ _=>rfl,rfl,rfl⟩,fun w Imm=>?_⟩;simp only [PVV]; rfl
end Go.Abs
namespace Go.Abs
open Go.Proofs
theorem wu64 (n:Int) (h:0≤n) (h':n<wB):IntKind.u64.wrap n=n:=IntWalk.u64_in n ⟨h,by simp only [wB] at h'; omega⟩
def mkF (n:Nat) (f:Nat→Nat):List AV:=(List.range n).map fun j=>uA (f j)
theorem as2 (n:Nat) (f:Nat→Nat):(mkF n f).length=n:=by simp [mkF]
theorem ac9 {n j:Nat} (f:Nat→Nat) (h:j<n):(mkF n f)[j]?=some (.p (.int .u64 (f j))):=by
 rw [mkF,List.getElem?_map,List.getElem?_range h]; rfl
theorem akn {n:Nat} {f:Nat→Nat} (h:∀ j,f j=0):List.replicate n (AV.p (.int .u64 0))=mkF n f:=by
 apply List.ext_getElem (by simp [mkF]);intro i h1 h2;simp [mkF,uA,h]
theorem aep {n i v:Nat} {f g:Nat→Nat} (hv:g i=v) (hg:∀ k,k≠i→g k=f k):(mkF n f).set i (.p (.int .u64 v))=mkF n g:=by
 apply List.ext_getElem (by simp [mkF]);intro j h1 h2;simp only [mkF,List.length_map,List.length_range] at h2;rw [List.getElem_set];simp only [mkF,List.getElem_map,List.getElem_range,uA]
 by_cases hj:i=j
 · subst hj; rw [if_pos rfl,hv]
 · rw [if_neg hj,hg j (by omega)]
theorem ako (n:Nat) (f:Nat→Nat):mkF n f=((List.range n).map f).map (AV.p∘fun x:Nat=>PV.int .u64 x):=by
 rw [mkF,List.map_map]; rfl
theorem ah3 {n:Nat} {f g:Nat→Nat} (h:∀ k,f k=g k):mkF n f=mkF n g:=by rw [show f=g from funext h]
@[simp] theorem mkF_refs {N:Nat×Nat→Prop} {n:Nat} {f:Nat→Nat}:aac N (mkF n f)=True:=by
 rw [aag,eq_iff_iff,iff_true]; intro v hv; simp only [mkF,List.mem_map] at hv; obtain ⟨x,_,rfl⟩:=hv; trivial
@[simp] theorem renL_mkF {σ:Nat→Nat} {n:Nat} {f:Nat→Nat}:renL σ (mkF n f)=mkF n f:=by
 have:∀ l:List Nat,renL σ (l.map fun j=>uA (f j))=l.map fun j=>uA (f j):=by
  intro l
  induction l with
  | nil=>rfl
  | cons a r ih=>simp only [List.map_cons,renL,ih]; rfl
 exact this _
theorem mul_two (P o k : Nat) (h : (P + o + k) / wB < wB) (ho : o < wB) (hk : k < wB) :
    ((P % wB+o+0) % wB+k+0) % wB=(P+o+k) % wB∧P / wB+(P % wB+o+0) / wB+((P % wB+o+0) % wB+k+0) / wB=(P+o+k) / wB∧P / wB+(P % wB+o+0) / wB<wB:=by
 simp only [wB] at *;omega
theorem aq5 (a b:Nat) (hab:(dig wB a).length+(dig wB b).length≤1000000):aab Tryz.prog 256 [eN a,eN b] (eN (a*b)):=by
 refine aad nf axZ mix (by simp [Tryz.f256]) ?_;have hda:∀ i (h:i<(dig wB a).length),(dig wB a)[i]=plc wB a i:=fun i h=>aal wB2 h;have hdb:∀ i (h:i<(dig wB b).length),(dig wB b)[i]=plc wB b i:=fun i h=>aal wB2 h;have hla:=aaf wB2 a;have hlb:=aaf wB2 b;have htr:aby ((List.range ((dig wB a).length+(dig wB b).length)).map (plc wB (a*b)))=dig wB (a*b):=abl wB2 (by
  rw [Nat.pow_add]; exact Nat.mul_lt_mul'' hla hlb)
 have hT:=agq ((List.range ((dig wB a).length+(dig wB b).length)).map (plc wB (a*b))) (by simp; omega);rw [htr] at hT;simp only [eN];generalize dig wB (a*b)=z at *;generalize dig wB a=x at *;generalize dig wB b=y at *;obtain ⟨n,hn⟩:∃ n,x.length=n:=⟨_,rfl⟩
 obtain ⟨m,hm⟩:∃ m,y.length=m:=⟨_,rfl⟩
 rw [hn] at hla hT hab;rw [hm] at hlb hT hab;have hfull:=ako (n+m) (plc wB (a*b));have hll:((List.range (n+m)).map (plc wB (a*b))).length=n+m:=by simp
 generalize (List.range (n+m)).map (plc wB (a*b))=l at hT hfull hll;have hwn:IntKind.i64.wrap ((n:Int)+m)=((n+m:Nat):Int):=by rw [wi64 _ (by omega) (by omega)]; omega
 have ht1:((n:Int)+m).toNat=n+m:=by omega
 have hp1:0≤(n:Int)+m:=by omega
 have hwn':IntKind.i64.wrap ((n:Int)+m)=(n:Int)+m:=wi64 _ (by omega) (by omega);simp [Tryz.f256,hn,hm,hwn',ht1,hp1];refine ⟨by simp only [maxL]; omega,?_⟩;rw [akn (f:=mulP wB a b 0 0) (by intro j; simp [acq,Nat.mod_one,plc])];refine lp (α:=Nat) (fun i=>⟨[(22,.p (.int .i64 i)),(21,.p (.int .i64 n)),(20,.p (.seq (x.map fun x:Nat=>.int .u64 x))),(5,.sl 0 0 1 0 (n+m)),(1,.p (.seq (y.map fun x:Nat=>.int .u64 x)))],[.arr .exact 0 1 (mkF (n+m) (mulP wB a b i 0))]⟩)
  (fun i=>i≤n) (fun i=>n - i) 0 (by simp) ?_ (he:=by simp)
 intro i k1;have hwi:=wi1 (i:=i) (by omega)
 by_cases hi:i<n
 · have hix:i<x.length:=by rw [hn]; exact hi
   have hx:=hda i hix;simp [hn,hm,hi,hix,hx];refine lp (α:=Nat) (fun j=>⟨[(29,.p (.int .i64 j)),(28,.p (.int .i64 m)),(27,.p (.seq (y.map fun x:Nat=>.int .u64 x))),(8,.p (.int .u64 (mulC wB a b i j:Nat))),(7,.p (.int .u64 (plc wB a i:Nat))),(6,.p (.int .i64 i)),(22,.p (.int .i64 i)),(21,.p (.int .i64 n)),(20,.p (.seq (x.map fun x:Nat=>.int .u64 x))),(5,.sl 0 0 1 0 (n+m)),(1,.p (.seq (y.map fun x:Nat=>.int .u64 x)))],[.arr .exact 0 1 (mkF (n+m) (mulP wB a b i j))]⟩)
    (fun j=>j≤m) (fun j=>m - j) 0 (by simp) ?_ (he:=by simp [ah1])
   intro j k2;have hwj:=wi1 (i:=j) (by omega);have ht2:((i:Int)+j).toNat=i+j:=by omega
   have hp2:0≤(i:Int)+j:=by omega
   have hwij:IntKind.i64.wrap ((i:Int)+j)=(i:Int)+j:=wi64 _ (by omega) (by omega)
   by_cases hj:j<m
   · have hjy:j<y.length:=by rw [hm]; exact hj
     have hy:=hdb j hjy;have hij:i+j<n+m:=by omega
     have hg:=ac9 (mulP wB a b i j) hij;have h0:=akm wB2 a b i j;have h1:=agb wB2 a b i j;have h2:=agb wB2 a b i (j+1);have h3:mulP wB a b i j (i+j) < wB:=by rw [mulP]; split <;> exact aaq wB2 _ _
     obtain ⟨e1,e2,e3⟩:=mul_two (plc wB a i*plc wB b j) (mulP wB a b i j (i+j)) (mulC wB a b i j) (by rw [h0.2]; exact h2) h3 h1;rw [h0.1] at e1;rw [h0.2] at e2;have m1:=akN (plc wB a i) (plc wB b j) (aaq wB2 _ _) (aaq wB2 _ _);rw [show (18446744073709551616:Nat)=wB from rfl] at m1;have m2:=afh (plc wB a i*plc wB b j % wB) (mulP wB a b i j (i+j)) 0 (by omega);have m3:=afh ((plc wB a i*plc wB b j % wB+mulP wB a b i j (i+j)+0) % wB) (mulC wB a b i j) 0 (by omega);rw [e1] at m3;have hs:=aep (n:=n+m) (i:=i+j) (f:=mulP wB a b i j) (g:=mulP wB a b i (j+1)) (apg a b i j) (fun k hk=>alU wB2 hk);generalize plc wB a i*plc wB b j % wB=r1 at *;generalize plc wB a i*plc wB b j / wB=r2 at *;generalize (r1+mulP wB a b i j (i+j)+0) % wB=r3 at *;generalize (r1+mulP wB a b i j (i+j)+0) / wB=r4 at *;generalize (r3+mulC wB a b i j+0) / wB=r5 at *;have w1:IntKind.u64.wrap ((r2:Int)+r4)=((r2+r4:Nat):Int):=by rw [wu64 _ (by omega) (by omega)]; omega
     have w2:IntKind.u64.wrap ((r2:Int)+r4+r5)=(mulC wB a b i (j+1):Nat):=by rw [wu64 _ (by omega) (by omega)]; omega
     simp [hn,hm,hj,hjy,hy];refine c2 m1 ?_;simp [hwij,ht2,hp2,hij,hg,shpA,shp,aah];refine c3 m2 ?_;simp [w1];refine c3 m3 ?_;simp [hwij,ht2,hp2,hij,hg,hs,w1,w2,hwj,shpA,shp,aah];exact rd (j+1) (show j+1≤m by omega)
   have:j=m:=by omega
   subst this;have hwy:IntKind.i64.wrap ((i:Int)+j)=(i:Int)+j:=wi64 _ (by omega) (by omega);have hin:i+j<n+j:=by omega
   have hg:=ac9 (mulP wB a b i j) hin;have hs:=aep (n:=n+j) (i:=i+j) (f:=mulP wB a b i j) (g:=mulP wB a b (i+1) 0) (v:=mulC wB a b i j) (by rw [acq,ahZ wB2 hlb]) (fun k hk=>by rw [acq,aph wB2 hlb hk]);simp [hm,hwy,ht2,hp2,hi,hin,hg,hs,hwi,shpA,shp,aah];exact rd (i+1) (show i+1≤n by omega)
 have:i=n:=by omega
 subst this;have hfin:mkF (i+m) (mulP wB a b i 0)=mkF (i+m) (plc wB (a*b)):=ah3 fun k=>by rw [acq,Nat.mod_eq_of_lt hla]
 simp [hn,hfin,hfull];refine cp hT (by simp [hll]; exact ⟨rfl,rfl⟩) ?_ (h1:=by simp [eW,List.take_of_length_le,hll]);simp;exact Wkl.refl _
end Go.Abs
