import Derived.Test.YthmfmhbicipdmaaGreatDoorPD
import Derived.Deep.DeepHandedRow
import Derived.Deep.DeepWitnessRowRef
import Derived.Seven
import Derived.SevenTiedAt
import Derived.Test.YthmfmhbicipdmaaGreatDoorPC
import Derived.Test.YthmfmhbicipdmaaGreatDoorPA
import Derived.KernelRfl
import Derived.Shelf.Spec.BitsCarry
import Derived.Shelf.Strings.Builder1
import Derived.Shelf.Strings.Builder2
import Derived.Shelf.Strings.Trim
import Derived.Shelf.Small.Utf8
import Derived.Shelf.Small.Bits
import Derived.Shelf.Small.Strs
import Derived.Shelf.Small.Wraps
import Derived.Shelf.Strings.BuilderF
import Derived.Shelf.Strings.Builder2Cap
import Derived.Shelf.Strconv.Atoi
import Derived.Shelf.Strconv.Itoa0
import Derived.Shelf.Strconv.Itoa1
import Derived.Shelf.LaysM
import Derived.Shelf.Strconv.Itoa2
import Derived.Shelf.Strconv.Itoa3
import Derived.Shelf.Strconv.AtoiErrFast
import Derived.Shelf.Strconv.ParseIntEmpty
import Derived.Shelf.Strconv.AtoiFail
import Derived.Shelf.Strconv.Clone
import Derived.Shelf.Strconv.SyntaxError
import Derived.Shelf.LaysC
import Derived.Shelf.Strconv.ToError
import Derived.Shelf.Strconv.Lower
import Derived.Shelf.Strconv.ParseUint10
import Derived.Shelf.Strconv.ParseUint10Empty
import Derived.Shelf.Strconv.ParseUint10Any
import Derived.Shelf.Strconv.ParseInt10
import Derived.Shelf.Strconv.AtoiLong
import Derived.Shelf.Strconv.AtoiInnerAll
import Derived.Shelf.Strconv.RangeError
import Derived.Shelf.Strconv.ToErrorRange
import Derived.Shelf.Strconv.AtoiAll
import Derived.Shelf.Strconv.ParseUintEmpty
import Derived.Shelf.Strings.Search1
import Derived.Shelf.Strings.Search2
import Derived.Shelf.Strings.Cut
import Derived.Shelf.Strings.Shaped
import Derived.Shelf.Strings.Prefix
import Derived.Shelf.Unicode.Decode
import Derived.Shelf.Strings.Runes
import Derived.Shelf.Strings.AsciiSet
import Derived.Shelf.Bits.Mul64
import Derived.Shelf.Strings.Repeat
import Derived.Shelf.Unicode.DecodeSlow
import Derived.Shelf.Unicode.DecodeAny
import Derived.Shelf.Unicode.DecodeLast
import Derived.Shelf.Slices.Turned
import Derived.Test.YthmfmhbicipdmaaGreatDoorProg
/- Parts of a proof. -/
set_option linter.unusedSimpArgs false
set_option linter.unusedVariables false
set_option linter.unusedSectionVars false
open Go.Proofs.Tryz
open Go renaming World->am, FuncId->ao, Program->ap, Value->av, OpenSpec->ax, run_callFunc_extern->ay, Checked->aT, ReturnsInHanded->a2, DataW->a6, Calls->a7
open Go.IntKind renaming i64->a8, u64->bb
open List renaming range->be, ext_getElem->bi, take_of_length_le->bl, mem_map->bo, take_succ_eq_append_getElem->bp, length_map->bv, map_cons->bI, map_map->bV, map_congr_left->b2, getElem?_range->b3, getElem_range->b4, length_range->b5, getElem?_map->cb, length_cons->cc, getElem_set->ce, getElem_map->ch, cons_append->ck, replicate->cv
open Nat renaming mul_comm->cx, div_lt_iff_lt_mul->cy, div_div_eq_div_mul->c6, mod_eq_of_lt->c9, pow_succ->da, pow_pos->db, mul_le_mul_right->dg, div_eq_of_lt->dk, add_mul_div_left->dl, mul_assoc->dp, mod_add_div->dq, div_add_mod->dz, mod_lt->ea, le_div_iff_mul_le->eb, mul_le_mul_left->ec, mul_add->ed, add_mul->ee, lt_of_lt_of_le->ei, lt_of_le_of_lt->ej, add_mul_div_right->em, mul_lt_mul''->en, pow_le_pow_right->eo, div_mul_le_self->eq, eq_zero_or_pos->ew, add_mul_mod_self_right->e6, add_mul_mod_self_left->e7, pow_add->e8, mod_one->e9, add_comm->fb, div_lt_self->fd, mod_mul_right_mod->fl, div_le_div_right->fm, lt_or_ge->fv, one_mul->fw, mul_pos->gb, add_mod->gc, mul_mod_mul_left->ge, mod_mul->gg, le_refl->gi, div_one->gj, mul_right_comm->gm, lt_div_mul_add->gt, add_sub_cancel->gw, mul_left_comm->gx, add_mod_right->gy, lt_succ_self->gE, strongRecOn->g0, mul_add_div->g4, mul_le_mul->g5, zero_add->g6, pow_zero->g7, add_zero->g8
namespace Go.ah
open Go.Proofs
section
variable{H:Type}{enc:TypeId×av->H}
theorem FI{p:Pinned}{C:aT}{P:ap}(b:p.checked=C)(d:C.prog=P){s:ax}{c:OpenClaim}(f:ao)(fn:Func)
 (l:c.program=p.name)(hs:c.sum=p.sum)(q:c.spec=s.name)
 (r:c.start=.entering)(o:c.outside=[])(aq:c.inits=[])(u:c.under=none)(i:c.initsInPlace=[]/\c.initsUnfollowed=false/\c.initsRecurse=false/\c.initsNamed=[]/\c.initsPassed=[])(n:c.noBlocks=false)(k:c.leaving=false)(g:c.followed=none)(m:c.narrowed=s.cond.isSome)(t:c.still=false)
 (e:P.funcNamed c.func=some f)(hf:P.funcs[f]?=some fn)
 (closed:joinedFacts P f fn s.bare c=true)
 (j:fn.isInstance P c.origin c.targs)(v:fn.isWrapper P c.wrapper c.mainSum)
 (h:∀os:Os,os.Started->∀(H:Type)(a:TypeId×av->H)(F:Stop.Interp),
  a2 c.assume C os f .any (s.preRow a P fn c.domain c.apart c.laid) ((s.at F).post a P fn c.apart c.fresh c.handsOn c.again)):c.holds p s:=by
 subst b;subst d;exact OpenClaim.holds_of_cond f fn l hs q r o aq u i n k g m t e hf closed j v (fun os st H a _ F=>by rw[OpenClaim.pre_eq_preRow];exact h os st H a F)
theorem Od{a:Assume}{C:aT}{P:ap}(q:C.prog=P){os:Os}{f:ao}{fn:Func}{s:ax}{F:Stop.Interp}{h:List PathCond}{apart fresh handsOn again:Bool}{laid:List (String×a6 Unit)}
 (x:ownKnob P.godebug=none)(y:os.Started)(u:P.inits.idxOf? f=none)(r:P.funcs[f]?=some fn)
 (z:∃(w:am)(tape:Tape)(i:Input),w.os=os/\(w.forCall tape i).Shaped P/\i.vars=[]/\Input.okWide P (w.forCall tape i) .any w.heap.size f i/\
  s.preRow enc P fn h apart laid (w.forCall tape i).memory i.args/\a.holds P (lone (Frame.enter P f i.args .normal) [] (w.forCall tape i)))
 (wF:∀(W:am)(d:Nat)(args:Array av)(b c:List (a6 H))(g:List MemPlace),
  (∀(j:Nat) t v,fn.params[j]?=some t->args[j]?=some v->Value.okWide P W .any d t v)->
  DataW.Whole enc P fn.params.toList s.vars apart W args.toList b c g->
  (∀k,s.cond=some k->k H (b++c)=true)->
  laidMetH P laid W->
  a7 P f args W fun e l=>∃v,e=.returned v/\(s.at F).post enc P fn apart fresh handsOn again W args v l):
 a2 a C os f .any (s.preRow enc P fn h apart laid) ((s.at F).post enc P fn apart fresh handsOn again):=by
 subst q;exact returnsInHanded_of_row x y u r z (fun W d args b c g m n _ o _ p _ _=>wF W d args b c g m n o p)
theorem Nf{C:aT}{P:ap}(b:C.prog=P){os:Os}{f:ao}{fn:Func}{s:ax}{a:List PathCond}{apart:Bool}{laid:List (String×a6 Unit)}(w0:am)(args:Array av)(d:w0.os=os)
 (h:(w0.forCall (fun _ _=>0) ⟨#[],args,[]⟩).variablesRefB P=true)
 (e:((w0.forCall (fun _ _=>0) ⟨#[],args,[]⟩).heap.toList.drop P.globals.size).take ((begin P (fun _ _=>0) default).world.heap.size-P.globals.size)=
  (begin P (fun _ _=>0) default).world.heap.toList.drop P.globals.size)
 (c:Input.okWideB P (w0.forCall (fun _ _=>0) ⟨#[],args,[]⟩) f ⟨#[],args,[]⟩=true)
 (g:s.preRow enc P fn a apart laid (w0.forCall (fun _ _=>0) ⟨#[],args,[]⟩).memory args):
 ∃(w:am)(tape:Tape)(i:Input),w.os=os/\(w.forCall tape i).Shaped P/\i.vars=[]/\Input.okWide P (w.forCall tape i) .any w.heap.size f i/\
  s.preRow enc P fn a apart laid (w.forCall tape i).memory i.args/\({modest:=false}:Assume).holds P (lone (Frame.enter P f i.args .normal) [] (w.forCall tape i)):=by
 subst b;exact witness_row_atRef (C:=C) false w0 args d h e c g
theorem FN{p:Pinned}{C:aT}{P:ap}(m:p.checked=C)(n:C.prog=P)(d:Looks){s:ax}{c:OpenClaim}(kinds:List LaidKind)(e:Bool)(a:Bool×String)(b:Bool){g:ao}{i:Func}
 (hc:c.holds p s)(A:c.wfByText s=true)(z:c.laidByTextAt d p kinds e)
 (aO:c.start=.entering)(w:c.noBlocks=false/\c.again=false)(u:P.mainIs=some (a.1,a.2.toList))(v:(!a.1&&a.2.isEmpty&&!b)=false)
 (o:P.funcNamed c.func=some g)(hf:P.funcs[g]?=some i)(r:b=P.looks [])(x:∀t∈i.params.toList,P.wantsStandIn t=false)
 (q:false=c.goesBy P):
 Claim7.holds p (.plain s) {stood:={row:=c,standIns:=[],harness:=a,looks:=b},kinds:=[],alts:=[],laidByText:=true,laidKinds:=kinds,laidTests:=e,laidLooks:=d}:=by
 subst m;subst n;refine Claim7.holds_tied_plain_at d [] kinds e a b hc (fun _ h=>by cases h) A (fun _ h=>by cases h) z aO w u v (fun f fn k l=>?_) q;rw[o]at k;cases k;rw[hf]at l;cases l;exact⟨r,fun j t y=>x t (by simpa using Array.mem_of_getElem? y)⟩
end
theorem ze:Go.Proofs.YthmfmhbicipdmaaGreatDoor.Tryz.pinned.checked=checked:=rfl
theorem pA:checked.prog=prog:=rfl
theorem FK:true=prog.looks []:=by kernel_rfl
theorem Sj:ownKnob prog.godebug=none:=by kernel_rfl
open Go.Proofs Go.Proofs.YthmfmhbicipdmaaGreatDoor
set_option maxRecDepth 100000
section
variable{H:Type}{W:am}{ad:Nat->Prop}
theorem Ur{n:Nat}{d:a6 H}(h:∃cs,aW prog W ad (bu prog (n+1) 9 d) cs)(a:Rows.uptoBulk d<=1048576):∃s:List Nat,bu prog (n+1) 9 d=.str s/\s.length<=1048576/\∀c∈s,c<256:=by
 obtain⟨cs,h⟩:=h;cases d with
 |lit l=>
  cases l with
  |string bytes=>
   refine⟨bytes.map (·.toNat),by simp only[bu,uV],?_,?_⟩
   ·rw[Rows.uptoBulk]at a;rw[bv];omega
   ·intro c hc;obtain⟨u,_,rfl⟩:=bo.1 hc;exact u.toNat_lt
  |_=>simp only[bu,uV,aW]at h
 |_=>simp only[bu,uV,aW]at h
theorem aKU{d:a6 H}(h:∃cs,aW prog W ad (bu prog 8 9 d) cs)(a:Rows.uptoBulk d<=1048576):∃s:List Nat,bu prog 8 9 d=.str s/\s.length<=1048576/\∀c∈s,c<256:=
 Ur (n:=7) h a
end
theorem mix:prog.follows .mixedOrders=true:=by kernel_rfl
abbrev nf:ao->Bool:=fun _=>false
theorem aCP:az prog 2 f2:=⟨func2,by kernel_rfl⟩
theorem aDc:az prog 3 f3:=⟨func3,by kernel_rfl⟩
theorem uL:az prog 4 f4:=⟨func4,by kernel_rfl⟩
theorem aIF:az prog 5 f5:=⟨func5,by kernel_rfl⟩
theorem xu:az prog 6 f6:=⟨func6,by kernel_rfl⟩
theorem RJ:az prog 7 f7:=⟨func7,by kernel_rfl⟩
theorem aI2:az prog 8 f8:=⟨func8,by kernel_rfl⟩
theorem aI8:az prog 9 f9:=⟨func9,by kernel_rfl⟩
theorem aAo:az prog 10 f10:=⟨func10,by kernel_rfl⟩
theorem Rk:az prog 11 f11:=⟨func11,by kernel_rfl⟩
theorem Rl:az prog 12 f12:=⟨func12,by kernel_rfl⟩
theorem aAC:az prog 13 f13:=⟨func13,by kernel_rfl⟩
theorem aAW:az prog 14 f14:=⟨func14,by kernel_rfl⟩
theorem aBn:az prog 15 f15:=⟨func15,by kernel_rfl⟩
theorem Rm:az prog 16 f16:=⟨func16,by kernel_rfl⟩
theorem aBT:az prog 17 f17:=⟨func17,by kernel_rfl⟩
theorem Rn:az prog 18 f18:=⟨func18,by kernel_rfl⟩
theorem ye:az prog 19 f19:=⟨func19,by kernel_rfl⟩
theorem Ro:az prog 20 f20:=⟨func20,by kernel_rfl⟩
theorem EJ:az prog 21 f21:=⟨func21,by kernel_rfl⟩
theorem Rp:az prog 22 f22:=⟨func22,by kernel_rfl⟩
theorem Rq:az prog 23 f23:=⟨func23,by kernel_rfl⟩
theorem Rr:az prog 24 f24:=⟨func24,by kernel_rfl⟩
theorem Rs:az prog 25 f25:=⟨func25,by kernel_rfl⟩
theorem Rt:az prog 26 f26:=⟨func26,by kernel_rfl⟩
theorem Ru:az prog 27 f27:=⟨func27,by kernel_rfl⟩
theorem aC0:az prog 28 f28:=⟨func28,by kernel_rfl⟩
theorem aC2:az prog 29 f29:=⟨func29,by kernel_rfl⟩
theorem aDl:az prog 30 f30:=⟨func30,by kernel_rfl⟩
theorem aDp:az prog 31 f31:=⟨func31,by kernel_rfl⟩
theorem Rv:az prog 32 f32:=⟨func32,by kernel_rfl⟩
theorem aDK:az prog 33 f33:=⟨func33,by kernel_rfl⟩
theorem aEm:az prog 34 f34:=⟨func34,by kernel_rfl⟩
theorem EK:az prog 35 f35:=⟨func35,by kernel_rfl⟩
theorem EL:az prog 36 f36:=⟨func36,by kernel_rfl⟩
theorem Rw:az prog 37 f37:=⟨func37,by kernel_rfl⟩
theorem Rx:az prog 38 f38:=⟨func38,by kernel_rfl⟩
theorem Ry:az prog 39 f39:=⟨func39,by kernel_rfl⟩
theorem Rz:az prog 40 f40:=⟨func40,by kernel_rfl⟩
theorem RA:az prog 41 f41:=⟨func41,by kernel_rfl⟩
theorem RC:az prog 42 f42:=⟨func42,by kernel_rfl⟩
theorem RD:az prog 43 f43:=⟨func43,by kernel_rfl⟩
theorem RE:az prog 44 f44:=⟨func44,by kernel_rfl⟩
theorem RF:az prog 45 f45:=⟨func45,by kernel_rfl⟩
theorem aIB:az prog 46 f46:=⟨func46,by kernel_rfl⟩
theorem aIC:az prog 47 f47:=⟨func47,by kernel_rfl⟩
theorem aID:az prog 48 f48:=⟨func48,by kernel_rfl⟩
theorem aIE:az prog 49 f49:=⟨func49,by kernel_rfl⟩
theorem aIG:az prog 50 f50:=⟨func50,by kernel_rfl⟩
theorem aIH:az prog 51 f51:=⟨func51,by kernel_rfl⟩
theorem aII:az prog 52 f52:=⟨func52,by kernel_rfl⟩
theorem aIJ:az prog 53 f53:=⟨func53,by kernel_rfl⟩
theorem aIK:az prog 54 f54:=⟨func54,by kernel_rfl⟩
theorem aIL:az prog 55 f55:=⟨func55,by kernel_rfl⟩
theorem aIM:az prog 56 f56:=⟨func56,by kernel_rfl⟩
theorem aIN:az prog 57 f57:=⟨func57,by kernel_rfl⟩
theorem aIO:az prog 58 f58:=⟨func58,by kernel_rfl⟩
theorem aIP:az prog 59 f59:=⟨func59,by kernel_rfl⟩
theorem aIQ:az prog 60 f60:=⟨func60,by kernel_rfl⟩
theorem aIR:az prog 61 f61:=⟨func61,by kernel_rfl⟩
theorem aIS:az prog 62 f62:=⟨func62,by kernel_rfl⟩
theorem aIT:az prog 63 f63:=⟨func63,by kernel_rfl⟩
theorem RG:az prog 64 f64:=⟨func64,by kernel_rfl⟩
theorem RH:az prog 65 f65:=⟨func65,by kernel_rfl⟩
theorem RI:az prog 66 f66:=⟨func66,by kernel_rfl⟩
theorem aIU:az prog 67 f67:=⟨func67,by kernel_rfl⟩
theorem aIV:az prog 68 f68:=⟨func68,by kernel_rfl⟩
theorem aIW:az prog 69 f69:=⟨func69,by kernel_rfl⟩
theorem aIX:az prog 70 f70:=⟨func70,by kernel_rfl⟩
theorem aIY:az prog 71 f71:=⟨func71,by kernel_rfl⟩
theorem aIZ:az prog 72 f72:=⟨func72,by kernel_rfl⟩
theorem aI0:az prog 73 f73:=⟨func73,by kernel_rfl⟩
theorem aI1:az prog 74 f74:=⟨func74,by kernel_rfl⟩
theorem RL:az prog 75 f75:=⟨func75,by kernel_rfl⟩
theorem RM:az prog 76 f76:=⟨func76,by kernel_rfl⟩
theorem EM:az prog 77 f77:=⟨func77,by kernel_rfl⟩
theorem EN:az prog 78 f78:=⟨func78,by kernel_rfl⟩
theorem RN:az prog 79 f79:=⟨func79,by kernel_rfl⟩
theorem RO:az prog 80 f80:=⟨func80,by kernel_rfl⟩
theorem RP:az prog 81 f81:=⟨func81,by kernel_rfl⟩
theorem RQ:az prog 82 f82:=⟨func82,by kernel_rfl⟩
theorem RR:az prog 83 f83:=⟨func83,by kernel_rfl⟩
theorem aI3:az prog 84 f84:=⟨func84,by kernel_rfl⟩
theorem aI4:az prog 85 f85:=⟨func85,by kernel_rfl⟩
theorem RS:az prog 86 f86:=⟨func86,by kernel_rfl⟩
theorem aI5:az prog 87 f87:=⟨func87,by kernel_rfl⟩
theorem aI6:az prog 88 f88:=⟨func88,by kernel_rfl⟩
theorem aI7:az prog 89 f89:=⟨func89,by kernel_rfl⟩
theorem RU:az prog 90 f90:=⟨func90,by kernel_rfl⟩
theorem RV:az prog 91 f91:=⟨func91,by kernel_rfl⟩
theorem aI9:az prog 92 f92:=⟨func92,by kernel_rfl⟩
theorem RW:az prog 93 f93:=⟨func93,by kernel_rfl⟩
theorem aJa:az prog 94 f94:=⟨func94,by kernel_rfl⟩
theorem aJb:az prog 95 f95:=⟨func95,by kernel_rfl⟩
theorem RX:az prog 96 f96:=⟨func96,by kernel_rfl⟩
theorem aJc:az prog 97 f97:=⟨func97,by kernel_rfl⟩
theorem aJd:az prog 98 f98:=⟨func98,by kernel_rfl⟩
theorem aJe:az prog 99 f99:=⟨func99,by kernel_rfl⟩
theorem aAq:az prog 100 f100:=⟨func100,by kernel_rfl⟩
theorem aAr:az prog 101 f101:=⟨func101,by kernel_rfl⟩
theorem GM:az prog 102 f102:=⟨func102,by kernel_rfl⟩
theorem aAs:az prog 103 f103:=⟨func103,by kernel_rfl⟩
theorem aAt:az prog 104 f104:=⟨func104,by kernel_rfl⟩
theorem GL:az prog 105 f105:=⟨func105,by kernel_rfl⟩
theorem P3:az prog 106 f106:=⟨func106,by kernel_rfl⟩
theorem GK:az prog 107 f107:=⟨func107,by kernel_rfl⟩
theorem GJ:az prog 108 f108:=⟨func108,by kernel_rfl⟩
theorem G7:az prog 109 f109:=⟨func109,by kernel_rfl⟩
theorem G6:az prog 110 f110:=⟨func110,by kernel_rfl⟩
theorem G5:az prog 111 f111:=⟨func111,by kernel_rfl⟩
theorem G4:az prog 112 f112:=⟨func112,by kernel_rfl⟩
theorem G3:az prog 113 f113:=⟨func113,by kernel_rfl⟩
theorem G2:az prog 114 f114:=⟨func114,by kernel_rfl⟩
theorem P2:az prog 115 f115:=⟨func115,by kernel_rfl⟩
theorem P1:az prog 116 f116:=⟨func116,by kernel_rfl⟩
theorem P0:az prog 117 f117:=⟨func117,by kernel_rfl⟩
theorem aAu:az prog 118 f118:=⟨func118,by kernel_rfl⟩
theorem aAx:az prog 119 f119:=⟨func119,by kernel_rfl⟩
theorem Qz:az prog 120 f120:=⟨func120,by kernel_rfl⟩
theorem aAy:az prog 121 f121:=⟨func121,by kernel_rfl⟩
theorem HI:az prog 122 f122:=⟨func122,by kernel_rfl⟩
theorem HG:az prog 123 f123:=⟨func123,by kernel_rfl⟩
theorem HF:az prog 124 f124:=⟨func124,by kernel_rfl⟩
theorem HE:az prog 125 f125:=⟨func125,by kernel_rfl⟩
theorem aAz:az prog 126 f126:=⟨func126,by kernel_rfl⟩
theorem HC:az prog 127 f127:=⟨func127,by kernel_rfl⟩
theorem aAA:az prog 128 f128:=⟨func128,by kernel_rfl⟩
theorem aAB:az prog 129 f129:=⟨func129,by kernel_rfl⟩
theorem aAD:az prog 130 f130:=⟨func130,by kernel_rfl⟩
theorem Ie:az prog 131 f131:=⟨func131,by kernel_rfl⟩
theorem Ic:az prog 132 f132:=⟨func132,by kernel_rfl⟩
theorem Ib:az prog 133 f133:=⟨func133,by kernel_rfl⟩
theorem Ia:az prog 134 f134:=⟨func134,by kernel_rfl⟩
theorem aAE:az prog 135 f135:=⟨func135,by kernel_rfl⟩
theorem H9:az prog 136 f136:=⟨func136,by kernel_rfl⟩
theorem aAF:az prog 137 f137:=⟨func137,by kernel_rfl⟩
theorem aAO:az prog 138 f138:=⟨func138,by kernel_rfl⟩
theorem aAV:az prog 139 f139:=⟨func139,by kernel_rfl⟩
theorem I9:az prog 140 f140:=⟨func140,by kernel_rfl⟩
theorem I8:az prog 141 f141:=⟨func141,by kernel_rfl⟩
theorem I7:az prog 142 f142:=⟨func142,by kernel_rfl⟩
theorem aBg:az prog 143 f143:=⟨func143,by kernel_rfl⟩
theorem I6:az prog 144 f144:=⟨func144,by kernel_rfl⟩
theorem PZ:az prog 145 f145:=⟨func145,by kernel_rfl⟩
theorem PY:az prog 146 f146:=⟨func146,by kernel_rfl⟩
theorem Oj:az prog 147 f147:=⟨func147,by kernel_rfl⟩
theorem PX:az prog 148 f148:=⟨func148,by kernel_rfl⟩
theorem PW:az prog 149 f149:=⟨func149,by kernel_rfl⟩
theorem PU:az prog 150 f150:=⟨func150,by kernel_rfl⟩
theorem PT:az prog 151 f151:=⟨func151,by kernel_rfl⟩
theorem PS:az prog 152 f152:=⟨func152,by kernel_rfl⟩
theorem FH:az prog 153 f153:=⟨func153,by kernel_rfl⟩
theorem FG:az prog 154 f154:=⟨func154,by kernel_rfl⟩
theorem FF:az prog 155 f155:=⟨func155,by kernel_rfl⟩
theorem aBP:az prog 156 f156:=⟨func156,by kernel_rfl⟩
theorem BN:az prog 157 f157:=⟨func157,by kernel_rfl⟩
theorem I5:az prog 158 f158:=⟨func158,by kernel_rfl⟩
theorem I4:az prog 159 f159:=⟨func159,by kernel_rfl⟩
theorem I3:az prog 160 f160:=⟨func160,by kernel_rfl⟩
theorem H8:az prog 161 f161:=⟨func161,by kernel_rfl⟩
theorem Qx:az prog 162 f162:=⟨func162,by kernel_rfl⟩
theorem Er:az prog 163 f163:=⟨func163,by kernel_rfl⟩
theorem AB:az prog 164 f164:=⟨func164,by kernel_rfl⟩
theorem Qw:az prog 165 f165:=⟨func165,by kernel_rfl⟩
theorem Qv:az prog 166 f166:=⟨func166,by kernel_rfl⟩
theorem Qu:az prog 167 f167:=⟨func167,by kernel_rfl⟩
theorem Qt:az prog 168 f168:=⟨func168,by kernel_rfl⟩
theorem Qs:az prog 169 f169:=⟨func169,by kernel_rfl⟩
theorem Qr:az prog 170 f170:=⟨func170,by kernel_rfl⟩
theorem aBV:az prog 171 f171:=⟨func171,by kernel_rfl⟩
theorem aB7:az prog 172 f172:=⟨func172,by kernel_rfl⟩
theorem Qq:az prog 173 f173:=⟨func173,by kernel_rfl⟩
theorem aCa:az prog 174 f174:=⟨func174,by kernel_rfl⟩
theorem aCk:az prog 175 f175:=⟨func175,by kernel_rfl⟩
theorem aCl:az prog 176 f176:=⟨func176,by kernel_rfl⟩
theorem aCn:az prog 177 f177:=⟨func177,by kernel_rfl⟩
theorem aCp:az prog 178 f178:=⟨func178,by kernel_rfl⟩
theorem aCq:az prog 179 f179:=⟨func179,by kernel_rfl⟩
theorem aCs:az prog 180 f180:=⟨func180,by kernel_rfl⟩
theorem aCu:az prog 181 f181:=⟨func181,by kernel_rfl⟩
theorem aCv:az prog 182 f182:=⟨func182,by kernel_rfl⟩
theorem G1:az prog 183 f183:=⟨func183,by kernel_rfl⟩
theorem aCw:az prog 184 f184:=⟨func184,by kernel_rfl⟩
theorem aCD:az prog 185 f185:=⟨func185,by kernel_rfl⟩
theorem G0:az prog 186 f186:=⟨func186,by kernel_rfl⟩
theorem GZ:az prog 187 f187:=⟨func187,by kernel_rfl⟩
theorem aCE:az prog 188 f188:=⟨func188,by kernel_rfl⟩
theorem aCO:az prog 189 f189:=⟨func189,by kernel_rfl⟩
theorem Qp:az prog 190 f190:=⟨func190,by kernel_rfl⟩
theorem GY:az prog 191 f191:=⟨func191,by kernel_rfl⟩
theorem Qo:az prog 192 f192:=⟨func192,by kernel_rfl⟩
theorem GX:az prog 193 f193:=⟨func193,by kernel_rfl⟩
theorem GW:az prog 194 f194:=⟨func194,by kernel_rfl⟩
theorem GV:az prog 195 f195:=⟨func195,by kernel_rfl⟩
theorem GU:az prog 196 f196:=⟨func196,by kernel_rfl⟩
theorem Qn:az prog 197 f197:=⟨func197,by kernel_rfl⟩
theorem Qm:az prog 198 f198:=⟨func198,by kernel_rfl⟩
theorem H7:az prog 199 f199:=⟨func199,by kernel_rfl⟩
theorem H6:az prog 200 f200:=⟨func200,by kernel_rfl⟩
theorem H5:az prog 201 f201:=⟨func201,by kernel_rfl⟩
theorem H4:az prog 202 f202:=⟨func202,by kernel_rfl⟩
theorem H3:az prog 203 f203:=⟨func203,by kernel_rfl⟩
theorem HZ:az prog 204 f204:=⟨func204,by kernel_rfl⟩
theorem HY:az prog 205 f205:=⟨func205,by kernel_rfl⟩
theorem HX:az prog 206 f206:=⟨func206,by kernel_rfl⟩
theorem Hw:az prog 207 f207:=⟨func207,by kernel_rfl⟩
theorem HW:az prog 208 f208:=⟨func208,by kernel_rfl⟩
theorem Gu:az prog 209 f209:=⟨func209,by kernel_rfl⟩
theorem Gt:az prog 210 f210:=⟨func210,by kernel_rfl⟩
theorem Gs:az prog 211 f211:=⟨func211,by kernel_rfl⟩
theorem HV:az prog 212 f212:=⟨func212,by kernel_rfl⟩
theorem HU:az prog 213 f213:=⟨func213,by kernel_rfl⟩
theorem HT:az prog 214 f214:=⟨func214,by kernel_rfl⟩
theorem Gb:az prog 215 f215:=⟨func215,by kernel_rfl⟩
theorem Iq:az prog 216 f216:=⟨func216,by kernel_rfl⟩
theorem Ip:az prog 217 f217:=⟨func217,by kernel_rfl⟩
theorem Io:az prog 218 f218:=⟨func218,by kernel_rfl⟩
theorem Im:az prog 219 f219:=⟨func219,by kernel_rfl⟩
theorem Il:az prog 220 f220:=⟨func220,by kernel_rfl⟩
theorem Ik:az prog 221 f221:=⟨func221,by kernel_rfl⟩
theorem Ij:az prog 222 f222:=⟨func222,by kernel_rfl⟩
theorem aCV:az prog 223 f223:=⟨func223,by kernel_rfl⟩
theorem Ii:az prog 224 f224:=⟨func224,by kernel_rfl⟩
theorem Ih:az prog 225 f225:=⟨func225,by kernel_rfl⟩
theorem Ig:az prog 226 f226:=⟨func226,by kernel_rfl⟩
theorem IV:az prog 227 f227:=⟨func227,by kernel_rfl⟩
theorem IU:az prog 228 f228:=⟨func228,by kernel_rfl⟩
theorem Ep:az prog 229 f229:=⟨func229,by kernel_rfl⟩
theorem Ql:az prog 230 f230:=⟨func230,by kernel_rfl⟩
theorem Qk:az prog 231 f231:=⟨func231,by kernel_rfl⟩
theorem Qj:az prog 232 f232:=⟨func232,by kernel_rfl⟩
theorem Qi:az prog 233 f233:=⟨func233,by kernel_rfl⟩
theorem Qh:az prog 234 f234:=⟨func234,by kernel_rfl⟩
theorem Qg:az prog 235 f235:=⟨func235,by kernel_rfl⟩
theorem aCW:az prog 236 f236:=⟨func236,by kernel_rfl⟩
theorem Qf:az prog 237 f237:=⟨func237,by kernel_rfl⟩
theorem Az:az prog 238 f238:=⟨func238,by kernel_rfl⟩
theorem O6:az prog 239 f239:=⟨func239,by kernel_rfl⟩
theorem En:az prog 240 f240:=⟨func240,by kernel_rfl⟩
theorem Gr:az prog 241 f241:=⟨func241,by kernel_rfl⟩
theorem IQ:az prog 242 f242:=⟨func242,by kernel_rfl⟩
theorem BI:az prog 243 f243:=⟨func243,by kernel_rfl⟩
theorem HR:az prog 244 f244:=⟨func244,by kernel_rfl⟩
theorem O5:az prog 245 f245:=⟨func245,by kernel_rfl⟩
theorem MU:az prog 246 f246:=⟨func246,by kernel_rfl⟩
theorem O4:az prog 247 f247:=⟨func247,by kernel_rfl⟩
theorem Oi:az prog 248 f248:=⟨func248,by kernel_rfl⟩
theorem O3:az prog 249 f249:=⟨func249,by kernel_rfl⟩
theorem O2:az prog 250 f250:=⟨func250,by kernel_rfl⟩
theorem O1:az prog 251 f251:=⟨func251,by kernel_rfl⟩
theorem IP:az prog 252 f252:=⟨func252,by kernel_rfl⟩
theorem O0:az prog 253 f253:=⟨func253,by kernel_rfl⟩
theorem OZ:az prog 254 f254:=⟨func254,by kernel_rfl⟩
theorem KF:az prog 255 f255:=⟨func255,by kernel_rfl⟩
theorem Ps:az prog 256 f256:=⟨func256,by kernel_rfl⟩
theorem Pr:az prog 257 f257:=⟨func257,by kernel_rfl⟩
theorem Pq:az prog 258 f258:=⟨func258,by kernel_rfl⟩
theorem Pp:az prog 259 f259:=⟨func259,by kernel_rfl⟩
theorem Gq:az prog 260 f260:=⟨func260,by kernel_rfl⟩
theorem Ga:az prog 261 f261:=⟨func261,by kernel_rfl⟩
theorem Gp:az prog 262 f262:=⟨func262,by kernel_rfl⟩
theorem Po:az prog 263 f263:=⟨func263,by kernel_rfl⟩
theorem Gn:az prog 264 f264:=⟨func264,by kernel_rfl⟩
theorem Gm:az prog 265 f265:=⟨func265,by kernel_rfl⟩
theorem Gk:az prog 266 f266:=⟨func266,by kernel_rfl⟩
theorem Gj:az prog 267 f267:=⟨func267,by kernel_rfl⟩
theorem GH:az prog 268 f268:=⟨func268,by kernel_rfl⟩
theorem aCX:az prog 269 f269:=⟨func269,by kernel_rfl⟩
theorem GG:az prog 270 f270:=⟨func270,by kernel_rfl⟩
theorem Oh:az prog 271 f271:=⟨func271,by kernel_rfl⟩
theorem u6:az prog 272 f272:=⟨func272,by kernel_rfl⟩
theorem Pn:az prog 273 f273:=⟨func273,by kernel_rfl⟩
theorem IM:az prog 274 f274:=⟨func274,by kernel_rfl⟩
theorem HQ:az prog 275 f275:=⟨func275,by kernel_rfl⟩
theorem BD:az prog 276 f276:=⟨func276,by kernel_rfl⟩
theorem GF:az prog 277 f277:=⟨func277,by kernel_rfl⟩
theorem GD:az prog 278 f278:=⟨func278,by kernel_rfl⟩
theorem GC:az prog 279 f279:=⟨func279,by kernel_rfl⟩
theorem GB:az prog 280 f280:=⟨func280,by kernel_rfl⟩
theorem Hf:az prog 281 f281:=⟨func281,by kernel_rfl⟩
theorem He:az prog 282 f282:=⟨func282,by kernel_rfl⟩
theorem Hd:az prog 283 f283:=⟨func283,by kernel_rfl⟩
theorem aC1:az prog 284 f284:=⟨func284,by kernel_rfl⟩
theorem BM:az prog 285 f285:=⟨func285,by kernel_rfl⟩
theorem IL:az prog 286 f286:=⟨func286,by kernel_rfl⟩
theorem IK:az prog 287 f287:=⟨func287,by kernel_rfl⟩
theorem IJ:az prog 288 f288:=⟨func288,by kernel_rfl⟩
theorem II:az prog 289 f289:=⟨func289,by kernel_rfl⟩
theorem IH:az prog 290 f290:=⟨func290,by kernel_rfl⟩
theorem IG:az prog 291 f291:=⟨func291,by kernel_rfl⟩
theorem Pm:az prog 292 f292:=⟨func292,by kernel_rfl⟩
theorem Pk:az prog 293 f293:=⟨func293,by kernel_rfl⟩
theorem Pj:az prog 294 f294:=⟨func294,by kernel_rfl⟩
theorem aC3:az prog 295 f295:=⟨func295,by kernel_rfl⟩
theorem Ph:az prog 296 f296:=⟨func296,by kernel_rfl⟩
theorem Pg:az prog 297 f297:=⟨func297,by kernel_rfl⟩
theorem aDb:az prog 298 f298:=⟨func298,by kernel_rfl⟩
theorem Eo:az prog 299 f299:=⟨func299,by kernel_rfl⟩
theorem Pf:az prog 300 f300:=⟨func300,by kernel_rfl⟩
theorem IF:az prog 301 f301:=⟨func301,by kernel_rfl⟩
theorem aDn:az prog 302 f302:=⟨func302,by kernel_rfl⟩
theorem aDo:az prog 303 f303:=⟨func303,by kernel_rfl⟩
theorem IE:az prog 304 f304:=⟨func304,by kernel_rfl⟩
theorem Og:az prog 305 f305:=⟨func305,by kernel_rfl⟩
theorem Pe:az prog 306 f306:=⟨func306,by kernel_rfl⟩
theorem Pd:az prog 307 f307:=⟨func307,by kernel_rfl⟩
theorem Pc:az prog 308 f308:=⟨func308,by kernel_rfl⟩
theorem ID:az prog 309 f309:=⟨func309,by kernel_rfl⟩
theorem IC:az prog 310 f310:=⟨func310,by kernel_rfl⟩
theorem Pb:az prog 311 f311:=⟨func311,by kernel_rfl⟩
theorem IB:az prog 312 f312:=⟨func312,by kernel_rfl⟩
theorem Pa:az prog 313 f313:=⟨func313,by kernel_rfl⟩
theorem IA:az prog 315 f315:=⟨func315,by kernel_rfl⟩
theorem aDv:az prog 316 f316:=⟨func316,by kernel_rfl⟩
theorem O9:az prog 317 f317:=⟨func317,by kernel_rfl⟩
theorem O8:az prog 318 f318:=⟨func318,by kernel_rfl⟩
theorem GA:az prog 319 f319:=⟨func319,by kernel_rfl⟩
theorem O7:az prog 320 f320:=⟨func320,by kernel_rfl⟩
theorem aDy:az prog 321 f321:=⟨func321,by kernel_rfl⟩
theorem aDE:az prog 322 f322:=⟨func322,by kernel_rfl⟩
theorem Iz:az prog 323 f323:=⟨func323,by kernel_rfl⟩
theorem Iy:az prog 324 f324:=⟨func324,by kernel_rfl⟩
theorem Hc:az prog 325 f325:=⟨func325,by kernel_rfl⟩
theorem Gz:az prog 326 f326:=⟨func326,by kernel_rfl⟩
theorem Gy:az prog 327 f327:=⟨func327,by kernel_rfl⟩
theorem G9:az prog 328 f328:=⟨func328,by kernel_rfl⟩
theorem aDH:az prog 329 f329:=⟨func329,by kernel_rfl⟩
theorem PH:az prog 330 f330:=⟨func330,by kernel_rfl⟩
theorem aDM:az prog 331 f331:=⟨func331,by kernel_rfl⟩
theorem PG:az prog 332 f332:=⟨func332,by kernel_rfl⟩
theorem Ix:az prog 333 f333:=⟨func333,by kernel_rfl⟩
theorem aDO:az prog 334 f334:=⟨func334,by kernel_rfl⟩
theorem aDY:az prog 335 f335:=⟨func335,by kernel_rfl⟩
theorem aEf:az prog 336 f336:=⟨func336,by kernel_rfl⟩
theorem aEg:az prog 337 f337:=⟨func337,by kernel_rfl⟩
theorem aEj:az prog 338 f338:=⟨func338,by kernel_rfl⟩
theorem aEk:az prog 339 f339:=⟨func339,by kernel_rfl⟩
theorem aEn:az prog 340 f340:=⟨func340,by kernel_rfl⟩
theorem aEo:az prog 341 f341:=⟨func341,by kernel_rfl⟩
theorem aEp:az prog 342 f342:=⟨func342,by kernel_rfl⟩
theorem Iw:az prog 344 f344:=⟨func344,by kernel_rfl⟩
theorem aEq:az prog 345 f345:=⟨func345,by kernel_rfl⟩
theorem Iv:az prog 346 f346:=⟨func346,by kernel_rfl⟩
theorem Iu:az prog 347 f347:=⟨func347,by kernel_rfl⟩
theorem aEr:az prog 348 f348:=⟨func348,by kernel_rfl⟩
theorem aEs:az prog 349 f349:=⟨func349,by kernel_rfl⟩
theorem aEt:az prog 350 f350:=⟨func350,by kernel_rfl⟩
theorem aED:az prog 351 f351:=⟨func351,by kernel_rfl⟩
theorem aEF:az prog 352 f352:=⟨func352,by kernel_rfl⟩
theorem aEG:az prog 353 f353:=⟨func353,by kernel_rfl⟩
theorem aEK:az prog 354 f354:=⟨func354,by kernel_rfl⟩
theorem aFv:az prog 356 f356:=⟨func356,by kernel_rfl⟩
theorem aFE:az prog 358 f358:=⟨func358,by kernel_rfl⟩
theorem aFM:az prog 359 f359:=⟨func359,by kernel_rfl⟩
theorem aFW:az prog 360 f360:=⟨func360,by kernel_rfl⟩
theorem aF3:az prog 361 f361:=⟨func361,by kernel_rfl⟩
theorem aF6:az prog 362 f362:=⟨func362,by kernel_rfl⟩
theorem aGq:az prog 363 f363:=⟨func363,by kernel_rfl⟩
theorem aGs:az prog 364 f364:=⟨func364,by kernel_rfl⟩
theorem aGx:az prog 365 f365:=⟨func365,by kernel_rfl⟩
theorem aGy:az prog 366 f366:=⟨func366,by kernel_rfl⟩
theorem aGz:az prog 367 f367:=⟨func367,by kernel_rfl⟩
theorem It:az prog 368 f368:=⟨func368,by kernel_rfl⟩
theorem Is:az prog 369 f369:=⟨func369,by kernel_rfl⟩
theorem aGH:az prog 370 f370:=⟨func370,by kernel_rfl⟩
theorem aGI:az prog 371 f371:=⟨func371,by kernel_rfl⟩
theorem aGJ:az prog 372 f372:=⟨func372,by kernel_rfl⟩
theorem aGK:az prog 373 f373:=⟨func373,by kernel_rfl⟩
theorem aGM:az prog 374 f374:=⟨func374,by kernel_rfl⟩
theorem aIj:az prog 375 f375:=⟨func375,by kernel_rfl⟩
theorem aIk:az prog 378 f378:=⟨func378,by kernel_rfl⟩
theorem aIl:az prog 379 f379:=⟨func379,by kernel_rfl⟩
theorem aIm:az prog 380 f380:=⟨func380,by kernel_rfl⟩
theorem aIn:az prog 381 f381:=⟨func381,by kernel_rfl⟩
theorem Ir:az prog 382 f382:=⟨func382,by kernel_rfl⟩
theorem aIo:az prog 383 f383:=⟨func383,by kernel_rfl⟩
theorem aIp:az prog 384 f384:=⟨func384,by kernel_rfl⟩
theorem aIq:az prog 385 f385:=⟨func385,by kernel_rfl⟩
theorem aIr:az prog 386 f386:=⟨func386,by kernel_rfl⟩
theorem aIs:az prog 387 f387:=⟨func387,by kernel_rfl⟩
theorem aIt:az prog 388 f388:=⟨func388,by kernel_rfl⟩
theorem aIu:az prog 389 f389:=⟨func389,by kernel_rfl⟩
theorem aIv:az prog 390 f390:=⟨func390,by kernel_rfl⟩
theorem aIw:az prog 391 f391:=⟨func391,by kernel_rfl⟩
theorem aIx:az prog 392 f392:=⟨func392,by kernel_rfl⟩
theorem aIy:az prog 393 f393:=⟨func393,by kernel_rfl⟩
theorem aIz:az prog 394 f394:=⟨func394,by kernel_rfl⟩
theorem aIA:az prog 428 f428:=⟨func428,by kernel_rfl⟩
set_option maxHeartbeats 4000000
def wB:Nat:=18446744073709551616
theorem rE(x y c:Nat)(hc:c<=1):ar prog 314 [.int .u64 x,.int .u64 y,.int .u64 c] (.aE [.int .u64 ((x+y+c)% wB:Nat),.int .u64 ((x+y+c)/wB:Nat)]):=by
 refine .inr fun w ad a h=>?_;simp only[bL,aF]at h;obtain⟨_,_,rfl,rfl,_,_,rfl,rfl,_,_,rfl,rfl,rfl⟩:=h;refine⟨.tuple #[.int .u64 ((x+y+c)% wB:Nat),.int .u64 ((x+y+c)/wB:Nat)],?_,?_⟩
 ·show(callFunc 314 #[.int .u64 x,.int .u64 y,.int .u64 c]).run prog w=_;rw[ay func314 (by kernel_rfl) (by kernel_rfl) (by kernel_rfl) (e:=add64Entry) (by kernel_rfl),run_add64 x y c (by omega) (by omega) (by omega) (by omega)];simp only[Result.andThen,wB];congr 5<;>omega
 ·simp only[aF,bL];exact⟨[.int .u64 ((x+y+c)% wB:Nat),.int .u64 ((x+y+c)/wB:Nat)],⟨_,_,rfl,rfl,_,_,rfl,rfl,rfl⟩,rfl⟩
theorem as0(x y c:Nat)(hc:c<=1):ar prog 343 [.int .u64 x,.int .u64 y,.int .u64 c] (.aE [.int .u64 ((x+wB-y-c)% wB:Nat),.int .u64 ((if x<y+c then 1 else 0:Nat):Int)]):=by
 refine .inr fun w ad a h=>?_;simp only[bL,aF]at h;obtain⟨_,_,rfl,rfl,_,_,rfl,rfl,_,_,rfl,rfl,rfl⟩:=h;refine⟨.tuple #[.int .u64 ((x+wB-y-c)% wB:Nat),.int .u64 ((if x<y+c then 1 else 0:Nat):Int)],?_,?_⟩
 ·show(callFunc 343 #[.int .u64 x,.int .u64 y,.int .u64 c]).run prog w=_;rw[ay func343 (by kernel_rfl) (by kernel_rfl) (by kernel_rfl) (e:=sub64Entry) (by kernel_rfl),run_sub64 x y c hc];rfl
 ·simp only[aF,bL];exact⟨[.int .u64 ((x+wB-y-c)% wB:Nat),.int .u64 ((if x<y+c then 1 else 0:Nat):Int)],⟨_,_,rfl,rfl,_,_,rfl,rfl,rfl⟩,rfl⟩
def nD(B:Nat):Nat->Nat->List Nat
 |0,_=>[]
 |f+1,n=>if n=0 then[]else n% B::nD B f (n/B)
def aB(B n:Nat):List Nat:=nD B (n+1) n
def je(B:Nat):List Nat->Nat
 |[]=>0
 |d::l=>d+B*je B l
def ae(B n i:Nat):Nat:=n/B^i% B
section
variable{B:Nat}
theorem JX(a:2<=B):∀(f g n:Nat),n<f->n<g->nD B f n=nD B g n
 |0,_,_,h,_=>by omega
 |_,0,_,_,h=>by omega
 |f+1,g+1,n,b,c=>by
  simp only[nD]
  split
  ·rfl
  ·rename_i d;have:n/B<n:=fd (by omega) (by omega);rw[JX a f g (n/B) (by omega) (by omega)]
theorem mW:aB B 0=[]:=by simp[aB,nD]
theorem tW(a:2<=B){n:Nat}(h:n≠0):aB B n=n% B::aB B (n/B):=by
 have:n/B<n:=fd (by omega) (by omega);rw[aB,nD,if_neg h,aB,JX a n (n/B+1) (n/B) this (by omega)]
theorem LR(a:2<=B)(n:Nat):je B (aB B n)=n:=by
 induction n using g0 with
 |ind n b=>
  by_cases h:n=0
  ·subst h;simp[mW,je]
  ·rw[tW a h,je,b _ (fd (by omega) (by omega))];exact dq n B
theorem azy(a:2<=B):∀(i n:Nat),(aB B n)[i]?.getD 0=ae B n i
 |i,n=>by
  induction i generalizing n with
  |zero=>
   by_cases h:n=0
   ·subst h;simp[mW,ae]
   ·rw[tW a h];simp[ae]
  |succ i b=>
   by_cases h:n=0
   ·subst h;simp[mW,ae]
   ·rw[tW a h,List.getElem?_cons_succ,b];simp only[ae,c6,da];rw[cx B]
theorem eD(a:2<=B){n i:Nat}(h:i<(aB B n).length):(aB B n)[i]=ae B n i:=by
 have:=azy a i n;rw[List.getElem?_eq_getElem h]at this;exact this
theorem cm(b:2<=B)(n:Nat):n<B^(aB B n).length:=by
 induction n using g0 with
 |ind n c=>
  by_cases h:n=0
  ·subst h;simp[mW]
  ·rw[tW b h,cc,da];have:=c _ (fd (n:=n) (k:=B) (by omega) (by omega));have d:=dq n B;have e:=ea n (show 0<B by omega);have a:(n/B+1)*B<=B^(aB B (n/B)).length*B:=dg B this;rw[ee,cx (n/B) B]at a;omega
theorem dO(b:2<=B):∀(k n:Nat),n<B^k->(aB B n).length<=k
 |0,n,h=>by
  have:n=0:=by simpa using h
  subst this;simp[mW]
 |k+1,n,h=>by
  by_cases a:n=0
  ·subst a;simp[mW]
  ·rw[tW b a,cc];have:=dO b k (n/B) (by
    rw[cy (by omega),<-da];exact h)
   omega
theorem Kx(a:2<=B){k n:Nat}(h:B^k<=n):k<(aB B n).length:=by
 have:=cm a n;exact(Nat.pow_lt_pow_iff_right (by omega:1<B)).1 (ej h this)
def ey:List Nat->List Nat
 |[]=>[]
 |d::l=>match ey l with
  |[]=>if d=0 then[]else[d]
  |t=>d::t
theorem Dx(a:2<=B):∀{l:List Nat},(∀d∈l,d<B)->aB B (je B l)=ey l
 |[],_=>by simp[je,mW,ey]
 |d::l,h=>by
  have c:=Dx a (l:=l) fun x hx=>h x (List.mem_cons_of_mem _ hx);have f:=h d List.mem_cons_self;simp only[ey,je]
  by_cases b:d+B*je B l=0
  ·have k:d=0:=by omega
   have m:je B l=0:=by
    rcases Nat.mul_eq_zero.1 (show B*je B l=0 by omega)with e|e
    ·omega
    ·exact e
   rw[b,mW,<-c,m,mW];simp[k]
  ·rw[tW a b];have e1:(d+B*je B l)% B=d:=by rw[e7,c9 f]
   have e2:(d+B*je B l)/B=je B l:=by
    rw[dl _ _ (by omega),dk f,g6]
   rw[e1,e2,c]
   split
   ·rename_i g;have i:=c;rw[g,j a]at i;rw[if_neg (by rw[i]at b;simpa using b),g]
   ·rfl
where j (a:2<=B) {n:Nat}:(aB B n=[])=(n=0):=by
        apply propext;constructor
        ·intro h;rw[<-LR a n,h];rfl
        ·rintro rfl;exact mW
def row(B m n:Nat):List Nat:=(be m).map (ae B n)
theorem NQ{m n:Nat}:(row B m n).length=m:=by simp[row]
theorem Y3(m n:Nat):row B (m+1) n=n% B::row B m (n/B):=by
 rw[row,List.range_succ_eq_map,bI,bV];congr 1
 ·simp[ae]
 ·rw[row];apply b2;intro i _;simp only[Function.comp,ae,c6,da];rw[cx]
theorem NP(a:2<=B):∀(m n:Nat),je B (row B m n)=n% B^m
 |0,n=>by simp[row,je,e9]
 |m+1,n=>by
  rw[Y3,je,NP a m,da,cx (B^m),gg]
theorem jH(a:2<=B){m n:Nat}(h:n<B^m):ey (row B m n)=aB B n:=by
 rw[<-Dx a (l:=row B m n),NP a,c9 h];intro d b;simp only[row,bo]at b;obtain⟨i,_,rfl⟩:=b;exact ea _ (by omega)
theorem azz(b:2<=B)(n:Nat):aB B n=row B (aB B n).length n:=by
 apply bi (by simp[row]);intro i a c;rw[eD b a];simp[row]
end
section
variable{B:Nat}
theorem mod_pow_succ(n i:Nat):n% B^(i+1)=n% B^i+B^i*ae B n i:=by
 rw[da,gg,ae]
def dj(B a b i:Nat):Nat:=(a% B^i+b% B^i)/B^i
theorem yx(a b:Nat):dj B a b 0=0:=by simp[dj,e9]
theorem mh(f:2<=B)(a b i:Nat):dj B a b i<=1:=by
 have c:0<B^i:=db (by omega);have d:=ea a c;have e:=ea b c;rw[dj];have:(a% B^i+b% B^i)/B^i<2:=by rw[cy c];omega
 omega
theorem qW(e:2<=B)(a b i:Nat):(ae B a i+ae B b i+dj B a b i)% B=ae B (a+b) i/\(ae B a i+ae B b i+dj B a b i)/B=dj B a b (i+1):=by
 have c:0<B^i:=db (by omega);constructor
 ·have d:(a+b)/B^i=dj B a b i+(a/B^i+b/B^i):=by
   rw[dj]
   conv=>lhs;rw[<-dq a (B^i),<-dq b (B^i)]
   rw[show a% B^i+B^i*(a/B^i)+(b% B^i+B^i*(b/B^i))=(a% B^i+b% B^i)+B^i*(a/B^i+b/B^i)by rw[ed];omega];rw[dl _ _ c]
  rw[ae,ae,ae,d,gc,<-gc (a/B^i),<-gc,fb]
 ·conv=>rhs;rw[dj,mod_pow_succ,mod_pow_succ,da,<-c6]
  rw[show a% B^i+B^i*ae B a i+(b% B^i+B^i*ae B b i)=(a% B^i+b% B^i)+B^i*(ae B a i+ae B b i)by rw[ed];omega];rw[dl _ _ c,dj,fb ((a% B^i+b% B^i)/B^i)]
theorem jG{n i:Nat}(h:n<B^i):ae B n i=0:=by
 rw[ae,dk h,Nat.zero_mod]
theorem ct(a:2<=B)(n i:Nat):ae B n i<B:=ea _ (by omega)
def ff(B a b i:Nat):Nat:=if a% B^i<b% B^i then 1 else 0
theorem B6(a b:Nat):ff B a b 0=0:=by simp[ff,e9]
theorem LZ(d:2<=B){a b:Nat}(k:b<=a)(i:Nat):
 (ae B a i<ae B b i+ff B a b i/\ff B a b (i+1)=1/\ae B a i+B=ae B (a-b) i+(ae B b i+ff B a b i))\/
 (ae B b i+ff B a b i<=ae B a i/\ff B a b (i+1)=0/\ae B a i=ae B (a-b) i+(ae B b i+ff B a b i)):=by
 have g:0<B^i:=db (by omega);obtain⟨c,rfl⟩:=Nat.le.dest k;have j:=qW d b c i;rw[show b+c-b=c by omega];have hc:∀i,ff B (b+c) b i=dj B b c i:=by
  intro i;have g:0<B^i:=db (by omega);have l:=ea b g;have m:=ea c g;rw[ff,dj,gc]
  by_cases h:b% B^i+c% B^i<B^i
  ·rw[c9 h,dk h,if_neg (Nat.not_lt.2 (Nat.le_add_right _ _))]
  ·have e1:(b% B^i+c% B^i)/B^i=1:=by
    rw[show b% B^i+c% B^i=(b% B^i+c% B^i-B^i)+B^i*1 by omega,dl _ _ g,dk (by omega)]
   have e2:(b% B^i+c% B^i)% B^i=b% B^i+c% B^i-B^i:=by
    rw[Nat.mod_eq_sub_mod (by omega),c9 (by omega)]
   rw[e1,e2,if_pos (by omega)]
 rw[hc,hc];have n:=ct d b i;have o:=ct d c i;have p:=mh d b c i;have f:=dq (ae B b i+ae B c i+dj B b c i) B;rw[j.1,j.2]at f;have q:=mh d b c (i+1);have r:=ct d (b+c) i;rcases(show dj B b c (i+1)=0\/dj B b c (i+1)=1 by omega)with e|e
 ·right;rw[e]at f⊢;simp at f;exact⟨by omega,rfl,by omega⟩
 ·left;rw[e]at f⊢;simp at f;exact⟨by omega,rfl,by omega⟩
def jb(B a b i j:Nat):Nat:=(a% B^i)*b+ae B a i*(b% B^j)*B^i
def dm(B a b i j k:Nat):Nat:=if k<i+j then ae B (jb B a b i j) k else ae B ((a% B^i)*b) k
def mulC(B a b i j:Nat):Nat:=jb B a b i j/B^(i+j)-(a% B^i)*b/B^(i+j)
theorem aJz(a b i j:Nat):(a% B^i)*b<=jb B a b i j:=by rw[jb];omega
theorem KU(a b i:Nat):jb B a b i 0=(a% B^i)*b:=by simp[jb,e9]
theorem Cq(a b i:Nat):mulC B a b i 0=0:=by simp[mulC,KU]
theorem KX(a b i j:Nat):jb B a b i (j+1)=jb B a b i j+ae B a i*ae B b j*B^(i+j):=by
 rw[jb,jb,mod_pow_succ,ed,ee,e8];have:ae B a i*(B^j*ae B b j)*B^i=ae B a i*ae B b j*(B^i*B^j):=by
  rw[cx (B^j),<-dp,dp,cx (B^j)]
 omega
theorem MH(a b i:Nat){n:Nat}(h:b<B^n):jb B a b i n=(a% B^(i+1))*b:=by
 rw[jb,c9 h,mod_pow_succ,ee];congr 1;rw[gm,cx (ae B a i)]
theorem yi(n k:Nat):n/B^(k+1)=n/B^k/B:=by rw[da,c6]
theorem C7(g:2<=B)(a b i j:Nat):
 (ae B a i*ae B b j+dm B a b i j (i+j)+mulC B a b i j)% B=ae B (jb B a b i (j+1)) (i+j)/\
 (ae B a i*ae B b j+dm B a b i j (i+j)+mulC B a b i j)/B=mulC B a b i (j+1):=by
 have f:0<B^(i+j):=db (by omega);have d:jb B a b i (j+1)/B^(i+j)=jb B a b i j/B^(i+j)+ae B a i*ae B b j:=by
  rw[KX,em _ _ f]
 have h:(a% B^i)*b/B^(i+j)<=jb B a b i j/B^(i+j):=fm (aJz a b i j);have c:dm B a b i j (i+j)=(a% B^i)*b/B^(i+j)% B:=by rw[dm,if_neg (by omega),ae]
 have e:ae B a i*ae B b j+dm B a b i j (i+j)+mulC B a b i j+B*((a% B^i)*b/B^(i+j)/B)=jb B a b i (j+1)/B^(i+j):=by
  rw[d,c,mulC];have:=dq ((a% B^i)*b/B^(i+j)) B;omega
 constructor
 ·conv=>rhs;rw[ae,<-e]
  rw[e7]
 ·conv=>rhs;rw[mulC,show i+(j+1)=i+j+1 from rfl,yi,yi,<-e,dl _ _ (by omega)]
  rw[gw]
theorem KY(f:2<=B){a b i j k:Nat}(hk:k≠i+j):dm B a b i (j+1) k=dm B a b i j k:=by
 rw[dm,dm]
 by_cases h:k<i+j
 ·rw[if_pos (by omega),if_pos h,KX];have e:0<B^k:=db (by omega);obtain⟨d,c⟩:∃d,i+j=k+1+d:=⟨i+j-(k+1),by
   have:k+1<=i+j:=h;rw[Nat.add_sub_cancel' this]⟩
  rw[c,e8,da];generalize ae B a i*ae B b j=x;rw[ae,ae,show x*(B^k*B*B^d)=x*B^d*B*B^k by simp only[dp,cx,gx]];rw[em _ _ e,e6]
 ·rw[if_neg (by omega),if_neg h]
theorem MI(a b i j:Nat):dm B a b i (j+1) (i+j)=ae B (jb B a b i (j+1)) (i+j):=by
 rw[dm,if_pos (by omega)]
theorem vU(d:2<=B)(a:Nat){b n:Nat}(i:Nat)(h:b<B^n):(a% B^i)*b<B^(i+n):=by
 have c:0<B^i:=db (by omega);rw[e8];exact en (ea _ c) h
theorem JF(c:2<=B){a b i n:Nat}(h:b<B^n):mulC B a b i n=ae B ((a% B^(i+1))*b) (i+n):=by
 have h1:=vU c a i h;have d:=vU c a (i+1) h;rw[mulC,MH a b i h,dk h1,Nat.sub_zero];refine(c9 ?_).symm;rw[cy (db (by omega)),cx B,<-da,show(i+n).succ=i+1+n by omega];exact d
theorem pG(a b i k:Nat):dm B a b i 0 k=ae B ((a% B^i)*b) k:=by
 rw[dm,KU];split<;>rfl
theorem MJ(c:2<=B){a b i n k:Nat}(h:b<B^n)(hk:k≠i+n):dm B a b i n k=ae B ((a% B^(i+1))*b) k:=by
 rw[dm]
 split
 ·rw[MH a b i h]
 ·rename_i h1;have e1:(a% B^i)*b<B^k:=ei (vU c a i h) (eo (by omega) (by omega));have e2:(a% B^(i+1))*b<B^k:=ei (vU c a (i+1) h) (eo (by omega) (by omega));rw[jG e1,jG e2]
theorem tU(d:2<=B)(a b i:Nat):∀j,mulC B a b i j<B
 |0=>by rw[Cq];omega
 |j+1=>by
  have h:=(C7 d a b i j).2;have f:=tU d a b i j;have g:dm B a b i j (i+j)<B:=by rw[dm];split<;>exact ct d _ _
  have e:ae B a i*ae B b j<=(B-1)*(B-1):=g5 (by have:=ct d a i;omega) (by have:=ct d b j;omega);rw[<-h,cy (by omega)];obtain⟨c,rfl⟩:∃c,B=c+1:=⟨B-1,by omega⟩
  simp only[gw]at e;rw[ee,ed];omega
end
section
variable{B:Nat}
theorem Kt{V W d:Nat}(a:0<V/d):W/V<=W/d/(V/d):=by
 have c:0<d:=by
  rcases ew d with h|h
  ·subst h;simp at a
  ·exact h
 have e:0<V:=by
  rcases ew V with h|h
  ·subst h;simp at a
  ·exact h
 rw[eb a,eb c];have a1:W/V*V<=W:=eq W V;have b:V/d*d<=V:=eq V d
 calc W/V*(V/d)*d=W/V*(V/d*d):=dp _ _ _
  _<=W/V*V:=ec _ b
  _<=W:=a1
theorem X3{V W d q:Nat}(e:0<d)(c:0<V)(h:W/d<q*(V/d)):W/V<q:=by
 rw[cy c];have a1:W<(W/d+1)*d:=by
  have:=gt (a:=W) e;rw[ee];omega
 have b:V/d*d<=V:=eq V d
 calc W<(W/d+1)*d:=a1
  _<=q*(V/d)*d:=dg _ h
  _=q*(V/d*d):=dp _ _ _
  _<=q*V:=ec _ b
theorem WB{V W d q:Nat}(b:0<d)(g:q*d<=V)(a:0<V)(h:q*(V/d)<=W/d):q<=W/V+1:=by
 rcases ew q with hq|hq
 ·subst hq;exact Nat.zero_le _
 have:q-1<=W/V:=by
  rw[eb a,Nat.sub_mul,fw];have a1:V<=V/d*d+d:=Nat.le_of_lt (gt b);have c:W/d*d<=W:=eq W d;have e:q*V<=q*(V/d)*d+q*d:=by
   calc q*V<=q*(V/d*d+d):=ec _ a1
    _=q*(V/d)*d+q*d:=by rw[ed,dp]
  have f:q*(V/d)*d<=W/d*d:=dg _ h;omega
 omega
theorem CW{q b c T a r:Nat}(d:q*b+r=T):q*(b*B+c)<=T*B+a↔q*c<=r*B+a:=by
 subst d;rw[ed,ee,dp];omega
theorem tg(n k:Nat):n/B^k=n/B^(k+1)*B+ae B n k:=by
 rw[yi,ae,cx];exact(dz _ _).symm
theorem rr(n j i:Nat):ae B (n/B^j) i=ae B n (j+i):=by
 rw[ae,ae,c6,e8]
theorem Dz{n m i:Nat}(h:i<m):ae B (n% B^m) i=ae B n i:=by
 obtain⟨d,rfl⟩:∃d,m=i+(d+1):=⟨m-i-1,by omega⟩
 rw[ae,ae,e8,Nat.mod_mul_right_div_self,da,cx (B^d),fl]
theorem yr{n c m i:Nat}(h:i<m):ae B (n+c*B^m) i=ae B n i:=by
 rw[<-Dz (n:=n+c*B^m) h,e6,Dz h]
def Sp(B W V q n:Nat):Nat:=W+B^(n+1)-q*V
theorem aKp{W V q n:Nat}(h:q*V<=W){i:Nat}(hi:i<n+1):ae B (Sp B W V q n) i=ae B (W-q*V) i:=by
 rw[Sp,show W+B^(n+1)-q*V=(W-q*V)+1*B^(n+1)by omega,yr hi]
theorem K0(b:2<=B){R d j:Nat}(k:Nat):ae B (R% B^j+d*B^j) k=if k<j then ae B R k else ae B d (k-j):=by
 have a:0<B^j:=db (by omega)
 split
 ·rename_i h;rw[yr h,Dz h]
 ·rename_i h;obtain⟨e,rfl⟩:∃e,k=j+e:=⟨k-j,by omega⟩
  rw[<-rr,em _ _ a,dk (ea _ a),g6,Nat.add_sub_cancel_left]
theorem yE{R V j:Nat}:R% (V*B^j)=R% B^j+(R/B^j% V)*B^j/\R/(V*B^j)=R/B^j/V:=by
 constructor
 ·rw[cx V,gg,cx (B^j)]
 ·rw[cx V,c6]
end
section
variable{c v1 v0 T u1 q r:Nat}
def hq(c b a T u1:Nat):Nat:=(T*c+u1)/(b*c+a)
theorem Rg(a:T<v1*c+v0)(b:u1<c):hq c v1 v0 T u1<c:=by
 rw[hq,cy (by omega)]
 calc T*c+u1<T*c+c:=by omega
  _=(T+1)*c:=by rw[ee,fw]
  _<=(v1*c+v0)*c:=dg _ a
  _=c*(v1*c+v0):=cx _ _
theorem Ol(b:0<v1)(f:v0<c)(e:u1<c):hq c v1 v0 T u1<=T/v1:=by
 have hc:0<c:=by omega
 have a1:(v1*c+v0)/c=v1:=by rw[cx,g4 hc,dk f,g8]
 have a:(T*c+u1)/c=T:=by rw[cx,g4 hc,dk e,g8]
 have h:=Kt (V:=v1*c+v0) (W:=T*c+u1) (d:=c) (by rw[a1];exact b)
 rwa [a1,a]at h
theorem Dt(a:0<v1)(hc:0<c)(d:q*v1+r=T)(f:hq c v1 v0 T u1<=q)(e:q*v0<=c*r+u1):q=hq c v1 v0 T u1:=by
 have b:0<v1*c+v0:=by have:=gb a hc;omega
 have h:q*(v1*c+v0)<=T*c+u1:=(CW d).2 (by rw[cx r];exact e);have:q<=hq c v1 v0 T u1:=by rw[hq,eb b];exact h
 omega
theorem P5(b:0<v1)(hc:0<c)(f:q*v1+r=T)(i:hq c v1 v0 T u1<=q)(a:c<=q/\hq c v1 v0 T u1<c\/c*r+u1<q*v0):hq c v1 v0 T u1<=q-1:=by
 rcases a with⟨a,g⟩|a
 ·omega
 ·have d:0<v1*c+v0:=by have:=gb b hc;omega
  have h:¬q*(v1*c+v0)<=T*c+u1:=fun e=>by
   have:=(CW f).1 e;rw[cx r]at this;omega
  have:hq c v1 v0 T u1<q:=by rw[hq,cy d];omega
  omega
theorem Yy(a:T<v1*c+v0)(e:v0<c)(b:q*v1+r=T)(d:c<=r):q<c:=by
 rcases fv q c with h|h
 ·exact h
 ·have:c*v1<=q*v1:=dg _ h;rw[cx c]at this;omega
theorem MZ(b:0<v1)(d:T<v1*c+v0)(g:v0<c)(a:q*v1+r=T)(f:c<=r)(e:hq c v1 v0 T u1<=q):q=hq c v1 v0 T u1:=by
 have i:=Yy d g a f;refine Dt b (by omega) a e ?_;have a1:q*v0<=c*v0:=dg _ (by omega);have h:c*v0<=c*r:=ec _ (by omega);omega
theorem Rf(a:0<v1)(b:T<v1*c+v0)(d:c<=2*v1)(e:v0<c):T/v1<=c+1:=by
 have:T/v1<c+2:=by
  rw[cy a,ee,cx c];omega
 omega
theorem Ok:T*c+u1-hq c v1 v0 T u1*(v1*c+v0)=(T*c+u1)% (v1*c+v0):=by
 rw[hq];generalize T*c+u1=A;generalize v1*c+v0=V;have:=dz A V;rw[cx (A/V)];omega
theorem aAe{Y U c:Nat}(hY:0<Y):U/Y=U/c/Y*c+((U/c% Y)*c+U% c)/Y/\U% Y=((U/c% Y)*c+U% c)% Y:=by
 have e:U=(U/c% Y*c+U% c)+(U/c/Y*c)*Y:=by
  have a:=dz U c;have b:=dz (U/c) Y;have d:(Y*(U/c/Y)+U/c% Y)*c=U/c*c:=by rw[b]
  rw[ee,cx Y,gm]at d;rw[cx c]at a;omega
 constructor
 ·conv=>lhs;rw[e]
  rw[em _ _ hY,fb]
 ·conv=>lhs;rw[e]
  rw[e6]
end
section
variable{B W V n q r:Nat}
theorem aK9(b:2<=B)(c:2<=n)(a:V<B^n):V/B^(n-2)=ae B V (n-1)*B+ae B V (n-2):=by
 obtain⟨k,rfl⟩:∃k,n=k+2:=⟨n-2,by omega⟩
 have e1:k+2-2=k:=by omega
 have e2:k+2-1=k+1:=by omega
 rw[e1,e2,tg];have:V/B^(k+1)=ae B V (k+1):=by
  rw[ae,c9];rw[cy (db (by omega)),cx,<-da];exact a
 rw[this]
theorem aK6(c:2<=B)(d:2<=n)(a:B^(n-1)<=V)(b:V<B^n):V/B^(n-1)=ae B V (n-1)/\0<ae B V (n-1):=by
 obtain⟨k,rfl⟩:∃k,n=k+1:=⟨n-1,by omega⟩
 have e2:k+1-1=k:=by omega
 rw[e2]at*;have:V/B^k=ae B V k:=by
  rw[ae,c9];rw[cy (db (by omega)),cx,<-da];exact b
 exact⟨this,by rw[<-this];exact Nat.div_pos a (db (by omega))⟩
theorem CV(b:2<=B)(c:2<=n)(a:B^(n-1)<=V):0<V:=ei (db (by omega)) a
theorem Oo(c:2<=B)(f:2<=n)(d:B^(n-1)<=V)(e:V<B^n):W/V<=W/B^(n-1)/ae B V (n-1):=by
 obtain⟨a,b⟩:=aK6 c f d e;rw[<-a];exact Kt (by rw[a];exact b)
theorem P6(a:2<=B)(c:2<=n)(b:V<B^n)(d:q*ae B V (n-1)+r=W/B^(n-1)):
 q*(V/B^(n-2))<=W/B^(n-2)↔q*ae B V (n-2)<=r*B+ae B W (n-2):=by
 rw[aK9 a c b,tg,show n-2+1=n-1 by omega];exact CW d
theorem EG(b:2<=B)(c:2<=n)(a:B^(n-1)<=V)(d:V<B^n)(g:q*ae B V (n-1)+r=W/B^(n-1))(hq:q<B)(h:q*ae B V (n-2)<=r*B+ae B W (n-2)):q<=W/V+1:=by
 have f:0<B^(n-2):=db (by omega);refine WB f ?_ (CV b c a) ((P6 b c d g).2 h);have e:n-1=n-2+1:=by omega
 rw[e,da,cx]at a;exact Nat.le_trans (dg _ (by omega)) a
theorem P7(a:2<=B)(b:2<=n)(c:B^(n-1)<=V)(d:V<B^n)(f:q*ae B V (n-1)+r=W/B^(n-1))(g:r*B+ae B W (n-2)<q*ae B V (n-2)):W/V<q:=by
 have e:0<B^(n-2):=db (by omega);refine X3 e (CV a b c) ?_;rcases fv (W/B^(n-2)) (q*(V/B^(n-2)))with h|h
 ·exact h
 ·have:=(P6 a b d f).1 h;omega
theorem On(a:2<=B)(b:B<=r)(hq:q<B):q*ae B V (n-2)<=r*B+ae B W (n-2):=by
 have d:ae B V (n-2)<B:=ct a _ _;have a1:q*ae B V (n-2)<=B*B:=g5 (by omega) (by omega);have c:B*B<=r*B:=dg _ b;omega
theorem Du(e:2<=B)(f:1<=n)(c:V<B^n)(a:W<V*B):W/B^n<=ae B V (n-1)/\W/V<B:=by
 obtain⟨k,rfl⟩:∃k,n=k+1:=⟨n-1,by omega⟩
 have e2:k+1-1=k:=by omega
 rw[e2];have hk:0<B^k:=db (by omega);have b:V/B^k=ae B V k:=by
  rw[ae,c9];rw[cy hk,cx,<-da];exact c
 refine⟨?_,?_⟩
 ·rw[<-b,da,cx,<-c6];refine fm ?_;have:W/B<V:=by rw[cy (by omega)];exact a
  omega
 ·have d:0<V:=by
   rcases ew V with h|h
   ·subst h;simp at a
   ·exact h
  rw[cy d,cx];exact a
def iT(B V q i:Nat):Nat:=q*(V% B^i)/B^i
theorem XE:iT B V q 0=0:=by simp[iT,e9]
theorem Y4(b:2<=B)(i:Nat):(q*ae B V i+iT B V q i)% B=ae B (q*V) i/\(q*ae B V i+iT B V q i)/B=iT B V q (i+1):=by
 have a:0<B^i:=db (by omega);have e:q*(V% B^(i+1))/B^i=q*ae B V i+iT B V q i:=by
  rw[mod_pow_succ,ed,gx,dl _ _ a,iT,fb]
 rw[<-e];constructor
 ·have e2:q*V=q*(V% B^(i+1))+q*(V/B^(i+1))*B^(i+1):=by
   have:=dq V (B^(i+1))
   conv=>lhs;rw[<-this]
   rw[ed,cx (B^(i+1)),dp]
  conv=>rhs;rw[e2,yr (by omega)]
  rfl
 ·rw[iT,yi]
theorem aKx(b:2<=B)(hq:q<B)(i:Nat):iT B V q i<B:=by
 have a:0<B^i:=db (by omega);rw[iT,cy a];exact en hq (ea _ a)
theorem Y6(c:2<=B)(hq:q<B)(a:V<B^n):iT B V q n=ae B (q*V) n:=by
 have b:0<B^n:=db (by omega);rw[iT,c9 a,ae];refine(c9 ?_).symm;rw[cy b];exact en hq a
theorem Wm(hq:q<B)(a:V<B^n):q*V<B^(n+1):=by
 rw[da,cx (B^n)];exact en hq a
theorem vO{m i:Nat}(hi:i<m):ae B (W+B^m) i=ae B W i:=by
 have:=yr (B:=B) (n:=W) (c:=1) hi
 rwa [fw]at this
theorem VZ(b:W<B^(n+1))(a:q*V<B^(n+1)):ff B (W+B^(n+1)) (q*V) (n+1)=if W<q*V then 1 else 0:=by
 rw[ff,gy,c9 b,c9 a]
theorem aKq(h:q*V<=W)(b:q<=W/V+1)(a:0<V)(c:W/V<=q):q=W/V/\W-q*V=W% V:=by
 have e:q=W/V:=by
  have:=(eb a).2 h;omega
 refine⟨e,?_⟩;have:=dz W V;rw[e,cx];omega
theorem Za(h:W<q*V)(b:q<=W/V+1)(a:0<V)(c:W/V<=q):q=W/V+1/\∀M,q*V<=W+M->W+M-q*V+V=W% V+M:=by
 have e:q=W/V+1:=by
  have:¬q<=W/V:=fun e=>by
   have:=(eb a).1 e;omega
  omega
 refine⟨e,fun M d=>?_⟩;have:=dz W V;have e2:q*V=V*(W/V)+V:=by rw[e,ee,fw,cx]
 omega
end
section
variable{S T:Nat}
theorem Jr{x0 x1:Nat}(h:x0<S)(c:0<T):(x0+S*x1)% (S*T)=x0+S*(x1% T):=by
 have d:0<S:=by omega
 have e:x1=x1% T+T*(x1/T):=(dq x1 T).symm
 conv=>lhs;rw[e,ed,<-dp,<-Nat.add_assoc,e7]
 refine c9 ?_;have a:x1% T+1<=T:=ea _ c;have b:S*(x1% T+1)<=S*T:=ec _ a;rw[ed,Nat.mul_one]at b;omega
theorem Yb(w:Nat):ae (S*T) (w*S) 0=(ae (S*T) w 0*S)% (S*T):=by
 simp only[ae,g7,gj];rw[Nat.mod_mul_mod]
theorem Yc(b:0<S)(a:0<T)(w i:Nat):ae (S*T) (w*S) (i+1)=(ae (S*T) w (i+1)*S)% (S*T)+ae (S*T) w i/T:=by
 have d:0<S*T:=gb b a;have e0:w*S/(S*T)^(i+1)=w/(S*T)^i/T:=by
  rw[da,cx S T,<-dp,Nat.mul_div_mul_right _ _ b,c6]
 have e1:w/(S*T)^(i+1)=w/(S*T)^i/(S*T):=by rw[da,c6]
 simp only[ae];rw[e0,e1];generalize w/(S*T)^i=x;have e2:x/T=x% (S*T)/T+S*(x/(S*T)):=by
  conv=>lhs;rw[<-dq x (S*T)]
  rw[show S*T*(x/(S*T))=T*(S*(x/(S*T)))by rw[cx S T,dp],dl _ _ a]
 have c:x% (S*T)/T<S:=by rw[cy a];exact ea _ d
 rw[e2,Jr c a];have e3:x/(S*T)% (S*T)*S% (S*T)=S*(x/(S*T)% T):=by
  rw[cx _ S,ge,cx S T,fl]
 rw[e3,fb]
theorem aKK(a:0<S)(e:0<T)(R i:Nat):ae (S*T) (R/S) i=ae (S*T) R i/S+(ae (S*T) R (i+1)*T)% (S*T):=by
 have d:0<S*T:=gb a e;have e0:R/S/(S*T)^i=R/(S*T)^i/S:=by rw[c6,cx,c6]
 have e1:R/(S*T)^(i+1)=R/(S*T)^i/(S*T):=by rw[da,c6]
 simp only[ae];rw[e0,e1];generalize R/(S*T)^i=x;have e2:x/S=x% (S*T)/S+T*(x/(S*T)):=by
  conv=>lhs;rw[<-dq x (S*T)]
  rw[dp,dl _ _ a]
 have c:x% (S*T)/S<T:=by rw[cy a,cx T];exact ea _ d
 have b:=Jr (S:=T) (T:=S) (x0:=x% (S*T)/S) (x1:=x/(S*T)) c a;rw[cx T S]at b;rw[e2,b];have e3:x/(S*T)% (S*T)*T% (S*T)=T*(x/(S*T)% S):=by
  rw[cx _ T,cx S T,ge,cx T S,fl]
 rw[e3]
end
theorem DY{a b s:Nat}(c:b<2^s):a*2^s|||b=a*2^s+b:=by
 have:=Nat.shiftLeft_add_eq_or_of_lt c a;rw[Nat.shiftLeft_eq]at this;exact this.symm
def eW(l:List Nat):List PV:=l.map fun x:Nat=>.int .u64 x
theorem Sz(w:List Nat):eZ prog 1 (w.map (AV.p∘fun x:Nat=>PV.int .u64 x)):=by
 rw[vx];intro v a;obtain⟨x,_,rfl⟩:=bo.1 a;simp[aa,aL,bF]
theorem B8:∀l:List Nat,ey (l++[0])=ey l
 |[]=>by simp[ey]
 |d::l=>by rw[ck,ey,B8 l,ey]
theorem vt:∀(l:List Nat)(d:Nat),d≠0->ey (l++[d])=l++[d]
 |[],d,h=>by simp[ey,h]
 |x::l,d,h=>by
  rw[ck,ey,vt l d h]
  split
  ·rename_i e;simp at e
  ·rfl
theorem tY(w:List Nat)(h:w.length<=1048576):ar prog 315 [.seq (eW w)] (.seq (eW (ey w))):=by
 refine aI nf IA mix (by simp[f315]) ?_;simp only[eW];simp[f315];refine lp (α:=Nat) (fun i=>⟨[(3,.p (.int .i64 i)),(0,.p (.seq (w.map fun x:Nat=>.int .u64 x)))],[]⟩) (fun i=>i<=w.length/\ey w=ey (w.take i)) (fun i=>i) w.length (by simp) ?_;rintro i ⟨k1,k2⟩
 by_cases hi:0<i
 ·obtain⟨j,rfl⟩:∃j,i=j+1:=⟨i-1,by omega⟩
  have d:a8.wrap (j:Int)=j:=aQ _ (by omega) (by omega);have a:j<w.length:=by omega
  have c:(0:Int)<(j:Int)+1:=by omega
  have k3:=k2;rw[bp a]at k2
  by_cases b:w[j]=0
  ·rw[b,B8]at k2;have e:((w[j]:Nat):Int)=0:=by omega
   simp[c,d,a,b];exact rd j ⟨by omega,k2⟩
  ·rw[vt _ _ b,<-bp a]at k2;simp[c,d,a,b];refine⟨⟨by omega,by omega,Sz w⟩,?_⟩;rw[k2,List.map_take];exact bD.refl _
 ·obtain rfl:i=0:=by omega
  simp[ey]at k2;simp[k2];exact Sz w
def eN(n:Nat):PV:=.seq ((aB wB n).map fun x:Nat=>.int .u64 x)
theorem bn:2<=wB:=by decide
def fS(a b:Nat):Int:=if a<b then -1 else if b<a then 1 else 0
theorem J1{a b:Nat}(h:(aB wB a).length<(aB wB b).length):a<b:=by
 have d:=cm bn a;rcases fv a b with c|c
 ·exact c
 ·have:=dO bn (aB wB a).length b (ej c d);omega
theorem LB{a b i:Nat}(h:a/wB^(i+1)=b/wB^(i+1))(e:ae wB a i<ae wB b i):a<b:=by
 rw[da,<-c6,<-c6]at h;have e1:=dz (a/wB^i) wB;have e2:=dz (b/wB^i) wB;rw[ae,ae]at e;rw[h]at e1;rcases fv a b with d|d
 ·exact d
 ·have:=fm (c:=wB^i) d;omega
theorem ZI{a b i:Nat}(h:a/wB^(i+1)=b/wB^(i+1))(c:ae wB a i=ae wB b i):a/wB^i=b/wB^i:=by
 rw[da,<-c6,<-c6]at h;have e1:=dz (a/wB^i) wB;have e2:=dz (b/wB^i) wB;rw[ae,ae]at c;rw[h]at e1;omega
theorem Jd(a b:Nat)(z:(aB wB a).length<=1048576)(A:(aB wB b).length<=1048576):ar prog 306 [eN a,eN b] (.int .i64 (fS a b)):=by
 refine aI nf Pe mix (by simp[f306]) ?_
 by_cases g:(aB wB a).length=(aB wB b).length
 case neg=>
  have n:¬((aB wB a).length:Int)=(aB wB b).length:=by omega
  by_cases u:(aB wB a).length<(aB wB b).length
  ·have k:((aB wB a).length:Int)<(aB wB b).length:=by omega
   have:=J1 u;have hc:fS a b= -1:=if_pos this;simp[f306,eN,n,k,hc]
  ·have k:¬((aB wB a).length:Int)<(aB wB b).length:=by omega
   have:=J1 (a:=b) (b:=a) (by omega);have hc:fS a b=1:=by rw[fS,if_neg (by omega),if_pos this]
   simp[f306,eN,n,k,hc]
 have r:∀i(h:i<(aB wB a).length),(aB wB a)[i]=ae wB a i:=fun i h=>eD bn h;have s:∀i(h:i<(aB wB b).length),(aB wB b)[i]=ae wB b i:=fun i h=>eD bn h;have q:=cm bn a;have m:=cm bn b;rw[<-g]at m;have t:a/wB^(aB wB a).length=b/wB^(aB wB a).length:=by rw[dk q,dk m]
 have B:a=b\/a≠b:=by omega
 simp only[eN];generalize aB wB a=x at*;generalize aB wB b=y at*;have w:a8.wrap ((y.length:Int)-1)=y.length-1:=aQ _ (by omega) (by omega);simp[f306,g,w];refine lp (α:=Nat) (fun i=>⟨[(5,.p (.int .i64 ((i:Int)-1))),(1,.p (.seq (y.map fun x:Nat=>.int .u64 x))),(0,.p (.seq (x.map fun x:Nat=>.int .u64 x)))],[]⟩) (fun i=>i<=y.length/\a/wB^i=b/wB^i) (fun i=>i) y.length ⟨gi _,by rw[<-g];exact t⟩ ?_;rintro i ⟨k1,k2⟩
 by_cases hi:0<i
 ·obtain⟨j,rfl⟩:∃j,i=j+1:=⟨i-1,by omega⟩
  have c:j<x.length:=by omega
  have d:j<y.length:=by omega
  have v:a8.wrap ((j:Int)-1)=j-1:=aQ _ (by omega) (by omega);have e:=r j c;have f:=s j d
  by_cases hq:ae wB a j=ae wB b j
  ·simp[c,d,e,f,hq,v];exact rd j ⟨by omega,ZI k2 hq⟩
  ·have o:¬(ae wB a j:Int)=ae wB b j:=by omega
   by_cases l:ae wB a j<ae wB b j
   ·have:=LB k2 l;have hc:fS a b= -1:=if_pos this;simp[c,d,e,f,o,l,hc]
   ·have:=LB k2.symm (show ae wB b j<ae wB a j by omega);have hc:fS a b=1:=by rw[fS,if_neg (by omega),if_pos this]
    simp[c,d,e,f,o,l,hc]
 ·obtain rfl:i=0:=by omega
  rw[g7,gj,gj]at k2;have hc:fS a b=0:=by rw[fS,if_neg (by omega),if_neg (by omega)]
  simp[hc]
@[simp] theorem Lq{α:Type}{f:α->PV}:∀{l:List α},eO (l.map (AV.p∘f))=some (l.map f)
 |[]=>rfl
 |x::l=>by simp only[bI,Function.comp,eO];rw[show(l.map (AV.p∘f))=l.map (fun x=>AV.p (f x))from rfl]at*;have:=@Lq α f l;rw[show(l.map (AV.p∘f))=l.map (fun x=>AV.p (f x))from rfl]at this;simp[this]
def uA(x:Nat):AV:=.p (.int .u64 x)
def gP(n i:Nat)(f:Nat->Nat):List AV:=(be n).map fun j=>uA (if j<i then f j else 0)
theorem DE(n i:Nat)(f:Nat->Nat):(gP n i f).length=n:=by simp[gP]
theorem MK(n:Nat)(f:Nat->Nat):cv n (AV.p (.int .u64 0))=gP n 0 f:=by
 apply bi (by simp[gP]);intro i a b;simp[gP,uA]
theorem DD{n i:Nat}(f:Nat->Nat)(h:i<n):(gP n i f).set i (.p (.int .u64 (f i)))=gP n (i+1) f:=by
 apply bi (by simp[gP]);intro j h1 c;simp only[gP,bv,b5]at c;rw[ce];simp only[gP,ch,b4,uA]
 by_cases a:i=j
 ·subst a;rw[if_pos rfl,if_pos (by omega)]
 ·rw[if_neg a]
  by_cases b:j<i
  ·rw[if_pos b,if_pos (by omega)]
  ·rw[if_neg b,if_neg (by omega)]
theorem ML(n:Nat)(f:Nat->Nat):gP n n f=((be n).map f).map (AV.p∘fun x:Nat=>PV.int .u64 x):=by
 rw[gP,bV];apply b2;intro j a;rw[if_pos (List.mem_range.1 a)];rfl
@[simp] theorem aOo{N:Nat×Nat->Prop}{n i:Nat}{f:Nat->Nat}:ba N (gP n i f)=True:=by
 rw[dc,eq_iff_iff,iff_true];intro v a;simp only[gP,bo]at a;obtain⟨x,_,rfl⟩:=a;trivial
theorem vR{n i j:Nat}(f:Nat->Nat)(h:j<n):(gP n i f)[j]?=some (uA (if j<i then f j else 0)):=by
 rw[gP,cb,b3 h];rfl
theorem Wg{A C n:Nat}(a:A<wB^n)(b:C<wB^n):dj wB A C n=ae wB (A+C) n:=by
 have c:0<wB^n:=db (by decide);have:=mh bn A C n;rw[dj,c9 a,c9 b]at*;rw[ae,c9];exact ej this (by decide)
theorem Dy{n i:Nat}(h:(aB wB n).length<=i):ae wB n i=0:=jG (ei (cm bn n) (eo (by decide) h))
theorem Wl(a b:Nat)(E:(aB wB a).length<=1000000)(F:(aB wB b).length<=1000000):ar prog 305 [eN a,eN b] (eN (a+b)):=by
 refine aI nf Og mix (by simp[f305]) ?_;simp[f305,-bt];rw[bt];simp[-bt];refine join (fun s=>∃A C,A+C=a+b/\(aB wB C).length<=(aB wB A).length/\(aB wB A).length<=1000000/\aS s.env 0=.p (eN A)/\aS s.env 1=.p (eN C)/\s.heap=[]) ?_ ?_
 ·by_cases T:(aB wB a).length<(aB wB b).length
  ·have j:((aB wB a).length:Int)<(aB wB b).length:=by omega
   simp[eN,j];exact⟨b,a,by omega,by omega,F,rfl,rfl⟩
  ·have j:¬((aB wB a).length:Int)<(aB wB b).length:=by omega
   simp[eN,j];exact⟨a,b,rfl,by omega,E,rfl,rfl⟩
 rintro⟨Q,S⟩ ⟨A,C,hs,K,U,f0,f1,B⟩;dsimp only at f0 f1 B;subst B;rw[<-hs];simp only[eN]at f0 f1⊢;have G:∀i(h:i<(aB wB A).length),(aB wB A)[i]=ae wB A i:=fun i h=>eD bn h;have H:∀i(h:i<(aB wB C).length),(aB wB C)[i]=ae wB C i:=fun i h=>eD bn h;have I:=cm bn A;have J:=ei (cm bn C) (eo (show 0<wB by decide) K);have t:=Wg I J;have L:=@Dy C;have M:ey ((be ((aB wB A).length+1)).map (ae wB (A+C)))=aB wB (A+C):=jH bn (by
  have R:2*wB^(aB wB A).length<=wB^((aB wB A).length+1):=by rw[da,cx];exact ec _ bn
  omega)
 have d:=tY ((be ((aB wB A).length+1)).map (ae wB (A+C))) (by simp;omega);rw[M]at d;generalize aB wB (A+C)=z at*;generalize aB wB A=x at*;generalize aB wB C=y at*;obtain⟨n,c⟩:∃n,x.length=n:=⟨_,rfl⟩
 obtain⟨m,o⟩:∃m,y.length=m:=⟨_,rfl⟩
 rw[c]at t d;have u:=ML (n+1) (ae wB (A+C));have k:((be (n+1)).map (ae wB (A+C))).length=n+1:=by simp
 generalize (be (n+1)).map (ae wB (A+C))=l at d u k;have V:n<=1000000:=by omega
 have W:m<=n:=by omega
 have N:a8.wrap ((n:Int)+1)=n+1:=bR (by omega);simp[f0,f1,c,N];refine⟨⟨by omega,by simp only[cN];omega⟩,?_⟩;rw[MK (n+1) (ae wB (A+C))];refine lp (α:=Nat) (fun i=>⟨[(22,.p (.int .i64 i)),(21,.p (.int .i64 n)),(6,.p (.int .u64 (dj wB A C i:Nat))),(5,.sl 0 0 1 0 (n+1)),(1,.p (.seq (y.map fun x:Nat=>.int .u64 x))),(0,.p (.seq (x.map fun x:Nat=>.int .u64 x)))],[.arr .exact 0 1 (gP (n+1) i (ae wB (A+C)))]⟩)
  (fun i=>i<=n) (fun i=>n-i) 0 (by simp) ?_ (he:=by simp[f0,f1,yx])
 intro i k1;have D:=bR (i:=i) (by omega)
 by_cases hi:i<n
 ·have g:i<x.length:=by rw[c];exact hi
  have hx:=G i g;have e:=rE (ae wB A i) (ae wB C i) (dj wB A C i) (mh bn A C i);obtain⟨g1,g2⟩:=qW bn A C i;rw[g1,g2]at e;have aO:=DD (n:=n+1) (ae wB (A+C)) (show i<n+1 by omega);have aq:i<(gP (n+1) i (ae wB (A+C))).length:=by rw[DE];omega
  have w:(gP (n+1) i (ae wB (A+C))).length=n+1:=DE _ _ _;have X:gP (n+1) i (ae wB (A+C))≠[]:=by intro h;rw[h]at w;simp at w
  have f:i<n+1:=by omega
  by_cases q:i<m
  ·have v:i<y.length:=by rw[o];exact q
   have O:=H i v;have r:(i:Int)<m:=by omega
   simp[c,o,hi,q,r,hx,O,g,v];refine c3 e ?_;simp[f,aO,D,vR _ f,aa,aL,bF,uA];exact rd (i+1) (show i+1<=n by omega)
  ·have r:¬(i:Int)<m:=by omega
   have P:=L (i:=i) (by omega);rw[P]at e;simp[c,o,hi,q,r,hx,g];refine c3 e ?_;simp[f,aO,D,vR _ f,aa,aL,bF,uA];exact rd (i+1) (show i+1<=n by omega)
 have:i=n:=by omega
 subst this;simp[c,t,vR _ (gE i),DD _ (gE i),u,aa,aL,bF,uA];refine cp d (by simp[k];exact⟨rfl,rfl⟩) ?_ (h1:=by simp[eW,bl,k]);simp;exact bD.refl _
end Go.ah
namespace Go.ah
open Go.Proofs
theorem X6{x y c d:Nat}(h:x+wB=d+(y+c))(a:d<wB):(x+wB-y-c)% wB=d:=by rw[show x+wB-y-c=d by omega];exact c9 a
theorem Yq{x y c d:Nat}(h:x=d+(y+c))(a:d<wB):(x+wB-y-c)% wB=d:=by rw[show x+wB-y-c=d+wB by omega,gy];exact c9 a
theorem PN{A C:Nat}(h:C<=A)(i:Nat):ar prog 343 [.int .u64 (ae wB A i),.int .u64 (ae wB C i),.int .u64 (ff wB A C i)] (.aE [.int .u64 (ae wB (A-C) i),.int .u64 (ff wB A C (i+1))]):=by
 have c:ff wB A C i<=1:=by rw[ff];split<;>omega
 have a:=as0 (ae wB A i) (ae wB C i) (ff wB A C i) c;have b:=ct bn (A-C) i;have e:=ct bn A i;have f:=ct bn C i;have d:wB=18446744073709551616:=rfl;rcases LZ bn h i with⟨e1,e2,e3⟩|⟨e1,e2,e3⟩
 ·rw[if_pos e1,X6 e3 b]at a;rw[e2];exact a
 ·rw[if_neg (by omega),Yq e3 b]at a;rw[e2];exact a
theorem Kb(A C:Nat)(k:C<=A)(D:(aB wB A).length<=1000000):ar prog 307 [eN A,eN C] (eN (A-C)):=by
 refine aI nf Pd mix (by simp[f307]) ?_;have F:(aB wB C).length<=(aB wB A).length:=dO bn _ _ (ej k (cm bn A));have s:∀i(h:i<(aB wB A).length),(aB wB A)[i]=ae wB A i:=fun i h=>eD bn h;have t:∀i(h:i<(aB wB C).length),(aB wB C)[i]=ae wB C i:=fun i h=>eD bn h;have u:=@Dy C;have v:ey ((be (aB wB A).length).map (ae wB (A-C)))=aB wB (A-C):=jH bn (ej (Nat.sub_le A C) (cm bn A));have b:=tY ((be (aB wB A).length).map (ae wB (A-C))) (by simp;omega);rw[v]at b;simp only[eN];generalize aB wB (A-C)=z at*;generalize aB wB A=x at*;generalize aB wB C=y at*;obtain⟨n,a⟩:∃n,x.length=n:=⟨_,rfl⟩
 obtain⟨m,f⟩:∃m,y.length=m:=⟨_,rfl⟩
 rw[a]at b;have o:=ML n (ae wB (A-C));have e:((be n).map (ae wB (A-C))).length=n:=by simp
 generalize (be n).map (ae wB (A-C))=l at b o e;have E:n<=1000000:=by omega
 have H:m<=n:=by omega
 simp[f307,a];refine⟨by simp only[cN];omega,?_⟩;rw[MK n (ae wB (A-C))];refine lp (α:=Nat) (fun i=>⟨[(14,.p (.int .i64 i)),(13,.p (.int .i64 n)),(6,.p (.int .u64 (ff wB A C i:Nat))),(5,.sl 0 0 1 0 n),(1,.p (.seq (y.map fun x:Nat=>.int .u64 x))),(0,.p (.seq (x.map fun x:Nat=>.int .u64 x)))],[.arr .exact 0 1 (gP n i (ae wB (A-C)))]⟩)
  (fun i=>i<=n) (fun i=>n-i) 0 (by simp) ?_ (he:=by simp[B6])
 intro i k1;have r:=bR (i:=i) (by omega)
 by_cases hi:i<n
 ·have d:i<x.length:=by rw[a];exact hi
  have hx:=s i d;have c:=PN k i;have aO:=DD (n:=n) (ae wB (A-C)) hi;have G:(gP n i (ae wB (A-C))).length=n:=DE _ _ _
  by_cases g:i<m
  ·have q:i<y.length:=by rw[f];exact g
   have w:=t i q;have j:(i:Int)<m:=by omega
   simp[a,f,hi,g,j,hx,w,d,q];refine c3 c ?_;simp[hi,aO,r,vR _ hi,aa,aL,bF,uA];exact rd (i+1) (show i+1<=n by omega)
  ·have j:¬(i:Int)<m:=by omega
   have B:=u (i:=i) (by omega);rw[B]at c;simp[a,f,hi,g,j,hx,d];refine c3 c ?_;simp[hi,aO,r,vR _ hi,aa,aL,bF,uA];exact rd (i+1) (show i+1<=n by omega)
 have:i=n:=by omega
 subst this;simp[a,o,aa,aL,bF,uA];refine cp b (by simp[e];exact⟨rfl,rfl⟩) ?_ (h1:=by simp[eW,bl,e]);simp;exact bD.refl _
end Go.ah
namespace Go.Proofs
open Go.Shelf
def Tryz.VV:Go.Shelf.Ren:=⟨fun|134=>331|129=>321|n=>n,fun|53=>320|3=>3|4=>4|46=>369|5=>5|9=>9|n=>n,fun|n=>n⟩
theorem Tryz.aJr:Go.Proofs.Lays.n134 prog VV:={
 mixed:=by kernel_rfl
 f129:=func321.trans (congrArg some (by kernel_rfl))
 f134:=func331.trans (congrArg some (by kernel_rfl))
 t3:=underlying3
 a3:=isAgg3
 z3:=sizeOf3
 v3:=zeroValue3
 t4:=underlying4
 a4:=isAgg4
 z4:=sizeOf4
 v4:=zeroValue4
 t5:=underlying5
 a5:=isAgg5
 z5:=sizeOf5
 v5:=zeroValue5
 t9:=underlying9
 a9:=isAgg9
 z9:=sizeOf9
 v9:=zeroValue9
 t46:=underlying369
 a46:=isAgg369
 z46:=sizeOf369
 v46:=zeroValue369
 t53:=underlying320
 a53:=isAgg320
 z53:=sizeOf320
 v53:=zeroValue320}
theorem Tryz.bits_LeadingZeros64(x:Int)(w:am)(a:0<=x)(b:x<=18446744073709551615):
 a7 prog 331 #[.int .u64 x] w fun e w'=>e=.returned (.int .i64 (64-(Lib.bitLen x.toNat:Int)))/\w'=w:=Any.bits_LeadingZeros64 aJr x w a b
def Tryz.VW:Go.Shelf.Ren:=⟨fun|129=>321|n=>n,fun|53=>320|3=>3|4=>4|46=>369|5=>5|9=>9|n=>n,fun|n=>n⟩
theorem Tryz.aJq:Go.Proofs.Lays.n129 prog VW:={
 mixed:=by kernel_rfl
 f129:=func321.trans (congrArg some (by kernel_rfl))
 t3:=underlying3
 a3:=isAgg3
 z3:=sizeOf3
 v3:=zeroValue3
 t4:=underlying4
 a4:=isAgg4
 z4:=sizeOf4
 v4:=zeroValue4
 t5:=underlying5
 a5:=isAgg5
 z5:=sizeOf5
 v5:=zeroValue5
 t9:=underlying9
 a9:=isAgg9
 z9:=sizeOf9
 v9:=zeroValue9
 t46:=underlying369
 a46:=isAgg369
 z46:=sizeOf369
 v46:=zeroValue369
 t53:=underlying320
 a53:=isAgg320
 z53:=sizeOf320
 v53:=zeroValue320}
theorem Tryz.bits_Len64(x:Int)(w:am)(a:0<=x)(b:x<=18446744073709551615):
 a7 prog 321 #[.int .u64 x] w fun e w'=>e=.returned (.int .i64 (Lib.bitLen x.toNat))/\w'=w:=Any.bits_Len64 aJq x w a b
def Tryz.VT:Go.Shelf.Ren:=⟨fun|264=>269|n=>n,fun|53=>320|46=>369|n=>n,fun|n=>n⟩
theorem Tryz.aJt:Go.Proofs.Lays.n264 prog VT:={
 mixed:=by kernel_rfl
 f264:=func269.trans (congrArg some (by kernel_rfl))
 t46:=underlying369
 a46:=isAgg369
 z46:=sizeOf369
 v46:=zeroValue369
 t53:=underlying320
 a53:=isAgg320
 z53:=sizeOf320
 v53:=zeroValue320}
open Go.RowKit Go.Lib in
theorem Tryz.bits_Mul64(x y:Nat)(hx:x<18446744073709551616)(hy:y<18446744073709551616)(w:am):
 a7 prog 269 #[.int .u64 x,.int .u64 y] w fun e w'=>e=.returned (.tuple #[.int .u64 ((x*y/18446744073709551616:Nat):Int),.int .u64 ((x*y% 18446744073709551616:Nat):Int)])/\w'=w:=Any.bits_Mul64 aJt x y hx hy w
end Go.Proofs
namespace Go.ah
open Go.Proofs
section
variable[Gl]{P:ap}
theorem kJ{f:ao}{fn:Func}(h:P.funcs[f]?=some fn)(hs:(fn.body.isSome&&(fn.name != "runtime.NumGoroutine"))=true):Enters P f:=by
 intro args w;simp only[Bool.and_eq_true,bne_iff_ne]at hs;cases a:fn.body with
 |none=>rw[a]at hs;simp at hs
 |some c=>simp[callFunc,h,hs.2,a]
theorem me{f:ao}{args:List PV}{v:PV}(l:Enters P f)
 (h:∀(w:am)(ad:Nat->Prop)(a:List av),(∀k,ad k->k<w.heap.size)->nr P w ad->bL P w ad args a->
  a7 P f a.toArray w fun e w'=>∃b,e=.returned b/\(w.heap.size<=w'.heap.size/\(∀k,k<w.heap.size->w'.heap[k]?=w.heap[k]?)/\w'.os=w.os/\w'.output=w.output)/\∀(w:am)(ad:Nat->Prop),aF P w ad v b):ar P f args v:=by
 refine .inl ⟨l,fun w ad a d m j=>(h w ad a d m j).mono ?_⟩;rintro e w' ⟨b,rfl,⟨c,g,n⟩,i⟩;exact⟨b,ad,rfl,fun _ x=>x,fun _ x=>.inl x,fun k hk=>ei (d k hk) c,c,g,n,i _ _⟩
theorem qY{w:am}{ad:Nat->Prop}{a b:PV}{cs:List av}(h:bL P w ad [a,b] cs):∃x y,cs=[x,y]/\aF P w ad a x/\aF P w ad b y:=by
 simp only[bL]at h;obtain⟨x,xs,rfl,c,y,e,rfl,d,rfl⟩:=h;exact⟨x,y,rfl,c,d⟩
theorem zi{w:am}{ad:Nat->Prop}{a:PV}{cs:List av}(h:bL P w ad [a] cs):∃x,cs=[x]/\aF P w ad a x:=by
 simp only[bL]at h;obtain⟨x,xs,rfl,b,rfl⟩:=h;exact⟨x,rfl,b⟩
end
theorem zy(x y:Nat)(hx:x<18446744073709551616)(g:y<18446744073709551616):ar prog 269 [.int .u64 x,.int .u64 y] (.aE [.int .u64 ((x*y/18446744073709551616:Nat):Int),.int .u64 ((x*y% 18446744073709551616:Nat):Int)]):=by
 refine me (kJ func269 (by kernel_rfl)) fun w ad h _ _ f=>?_;obtain⟨a,b,rfl,c,d⟩:=qY f;simp only[aF]at c d;subst c d;refine(bits_Mul64 x y hx g w).mono ?_;rintro e w' ⟨rfl,rfl⟩;refine⟨_,rfl,⟨gi _,fun _ _=>rfl,rfl,rfl⟩,fun w ad=>?_⟩;simp only[aF,bL];exact⟨[_,_],⟨_,_,rfl,rfl,_,_,rfl,rfl,rfl⟩,rfl⟩
theorem PQ(x:Nat)(hx:x<18446744073709551616):ar prog 331 [.int .u64 x] (.int .i64 (64-(Lib.bitLen x:Int))):=by
 refine me (kJ func331 (by kernel_rfl)) fun w ad d _ _ c=>?_;obtain⟨a,rfl,b⟩:=zi c;simp only[aF]at b;subst b;refine(bits_LeadingZeros64 x w (by omega) (by omega)).mono ?_;rintro e w' ⟨rfl,rfl⟩;refine⟨_,rfl,⟨gi _,fun _ _=>rfl,rfl,rfl⟩,fun w ad=>?_⟩;simp only[aF];rfl
end Go.ah
namespace Go.ah
open Go.Proofs
theorem fB(n:Int)(h:0<=n)(a:n<wB):bb.wrap n=n:=IntWalk.u64_in n ⟨h,by simp only[wB]at a;omega⟩
def cj(n:Nat)(f:Nat->Nat):List AV:=(be n).map fun j=>uA (f j)
theorem Nz(n:Nat)(f:Nat->Nat):(cj n f).length=n:=by simp[cj]
theorem mV{n j:Nat}(f:Nat->Nat)(h:j<n):(cj n f)[j]?=some (.p (.int .u64 (f j))):=by
 rw[cj,cb,b3 h];rfl
theorem C8{n:Nat}{f:Nat->Nat}(h:∀j,f j=0):cv n (AV.p (.int .u64 0))=cj n f:=by
 apply bi (by simp[cj]);intro i a b;simp[cj,uA,h]
theorem pP{n i v:Nat}{f g:Nat->Nat}(d:g i=v)(c:∀k,k≠i->g k=f k):(cj n f).set i (.p (.int .u64 v))=cj n g:=by
 apply bi (by simp[cj]);intro j e b;simp only[cj,bv,b5]at b;rw[ce];simp only[cj,ch,b4,uA]
 by_cases a:i=j
 ·subst a;rw[if_pos rfl,d]
 ·rw[if_neg a,c j (by omega)]
theorem C9(n:Nat)(f:Nat->Nat):cj n f=((be n).map f).map (AV.p∘fun x:Nat=>PV.int .u64 x):=by
 rw[cj,bV];rfl
theorem Cr{n:Nat}{f g:Nat->Nat}(h:∀k,f k=g k):cj n f=cj n g:=by rw[show f=g from funext h]
@[simp] theorem aOn{N:Nat×Nat->Prop}{n:Nat}{f:Nat->Nat}:ba N (cj n f)=True:=by
 rw[dc,eq_iff_iff,iff_true];intro v a;simp only[cj,bo]at a;obtain⟨x,_,rfl⟩:=a;trivial
@[simp] theorem aOr{σ:Nat->Nat}{n:Nat}{f:Nat->Nat}:cU σ (cj n f)=cj n f:=by
 have:∀l:List Nat,cU σ (l.map fun j=>uA (f j))=l.map fun j=>uA (f j):=by
  intro l
  induction l with
  |nil=>rfl
  |cons a r b=>simp only[bI,cU,b];rfl
 exact this _
theorem mul_two(P o k:Nat)(h:(P+o+k)/wB<wB)(a:o<wB)(hk:k<wB):
 ((P% wB+o+0)% wB+k+0)% wB=(P+o+k)% wB/\P/wB+(P% wB+o+0)/wB+((P% wB+o+0)% wB+k+0)/wB=(P+o+k)/wB/\P/wB+(P% wB+o+0)/wB<wB:=by
 simp only[wB]at*;omega
theorem Wi(a b:Nat)(D:(aB wB a).length+(aB wB b).length<=1000000):ar prog 273 [eN a,eN b] (eN (a*b)):=by
 refine aI nf Pn mix (by simp[f273]) ?_;have P:∀i(h:i<(aB wB a).length),(aB wB a)[i]=ae wB a i:=fun i h=>eD bn h;have Q:∀i(h:i<(aB wB b).length),(aB wB b)[i]=ae wB b i:=fun i h=>eD bn h;have t:=cm bn a;have q:=cm bn b;have U:ey ((be ((aB wB a).length+(aB wB b).length)).map (ae wB (a*b)))=aB wB (a*b):=jH bn (by
  rw[e8];exact en t q)
 have e:=tY ((be ((aB wB a).length+(aB wB b).length)).map (ae wB (a*b))) (by simp;omega);rw[U]at e;simp only[eN];generalize aB wB (a*b)=z at*;generalize aB wB a=x at*;generalize aB wB b=y at*;obtain⟨n,d⟩:∃n,x.length=n:=⟨_,rfl⟩
 obtain⟨m,c⟩:∃m,y.length=m:=⟨_,rfl⟩
 rw[d]at t e D;rw[c]at q e D;have E:=C9 (n+m) (ae wB (a*b));have u:((be (n+m)).map (ae wB (a*b))).length=n+m:=by simp
 generalize (be (n+m)).map (ae wB (a*b))=l at e E u;have ag:a8.wrap ((n:Int)+m)=((n+m:Nat):Int):=by rw[aQ _ (by omega) (by omega)];omega
 have T:((n:Int)+m).toNat=n+m:=by omega
 have S:0<=(n:Int)+m:=by omega
 have X:a8.wrap ((n:Int)+m)=(n:Int)+m:=aQ _ (by omega) (by omega);simp[f273,d,c,X,T,S];refine⟨by simp only[cN];omega,?_⟩;rw[C8 (f:=dm wB a b 0 0) (by intro j;simp[pG,e9,ae])];refine lp (α:=Nat) (fun i=>⟨[(22,.p (.int .i64 i)),(21,.p (.int .i64 n)),(20,.p (.seq (x.map fun x:Nat=>.int .u64 x))),(5,.sl 0 0 1 0 (n+m)),(1,.p (.seq (y.map fun x:Nat=>.int .u64 x)))],[.arr .exact 0 1 (cj (n+m) (dm wB a b i 0))]⟩)
  (fun i=>i<=n) (fun i=>n-i) 0 (by simp) ?_ (he:=by simp)
 intro i k1;have V:=bR (i:=i) (by omega)
 by_cases hi:i<n
 ·have F:i<x.length:=by rw[d];exact hi
  have hx:=P i F;simp[d,c,hi,F,hx];refine lp (α:=Nat) (fun j=>⟨[(29,.p (.int .i64 j)),(28,.p (.int .i64 m)),(27,.p (.seq (y.map fun x:Nat=>.int .u64 x))),(8,.p (.int .u64 (mulC wB a b i j:Nat))),(7,.p (.int .u64 (ae wB a i:Nat))),(6,.p (.int .i64 i)),(22,.p (.int .i64 i)),(21,.p (.int .i64 n)),(20,.p (.seq (x.map fun x:Nat=>.int .u64 x))),(5,.sl 0 0 1 0 (n+m)),(1,.p (.seq (y.map fun x:Nat=>.int .u64 x)))],[.arr .exact 0 1 (cj (n+m) (dm wB a b i j))]⟩)
   (fun j=>j<=m) (fun j=>m-j) 0 (by simp) ?_ (he:=by simp[Cq])
  intro j k2;have W:=bR (i:=j) (by omega);have A:((i:Int)+j).toNat=i+j:=by omega
  have w:0<=(i:Int)+j:=by omega
  have I:a8.wrap ((i:Int)+j)=(i:Int)+j:=aQ _ (by omega) (by omega)
  by_cases G:j<m
  ·have H:j<y.length:=by rw[c];exact G
   have Z:=Q j H;have s:i+j<n+m:=by omega
   have o:=mV (dm wB a b i j) s;have r:=C7 bn a b i j;have M:=tU bn a b i j;have N:=tU bn a b i (j+1);have O:dm wB a b i j (i+j)<wB:=by rw[dm];split<;>exact ct bn _ _
   obtain⟨e1,e2,e3⟩:=mul_two (ae wB a i*ae wB b j) (dm wB a b i j (i+j)) (mulC wB a b i j) (by rw[r.2];exact N) O M;rw[r.1]at e1;rw[r.2]at e2;have J:=zy (ae wB a i) (ae wB b j) (ct bn _ _) (ct bn _ _);rw[show(18446744073709551616:Nat)=wB from rfl]at J;have ab:=rE (ae wB a i*ae wB b j% wB) (dm wB a b i j (i+j)) 0 (by omega);have K:=rE ((ae wB a i*ae wB b j% wB+dm wB a b i j (i+j)+0)% wB) (mulC wB a b i j) 0 (by omega);rw[e1]at K;have hs:=pP (n:=n+m) (i:=i+j) (f:=dm wB a b i j) (g:=dm wB a b i (j+1)) (MI a b i j) (fun k hk=>KY bn hk);generalize ae wB a i*ae wB b j% wB=L at*;generalize ae wB a i*ae wB b j/wB=B at*;generalize (L+dm wB a b i j (i+j)+0)% wB=ac at*;generalize (L+dm wB a b i j (i+j)+0)/wB=C at*;generalize (ac+mulC wB a b i j+0)/wB=ad at*;have w1:bb.wrap ((B:Int)+C)=((B+C:Nat):Int):=by rw[fB _ (by omega) (by omega)];omega
   have af:bb.wrap ((B:Int)+C+ad)=(mulC wB a b i (j+1):Nat):=by rw[fB _ (by omega) (by omega)];omega
   simp[d,c,G,H,Z];refine c2 J ?_;simp[I,A,w,s,o,aa,aL,bF];refine c3 ab ?_;simp[w1];refine c3 K ?_;simp[I,A,w,s,o,hs,w1,af,W,aa,aL,bF];exact rd (j+1) (show j+1<=m by omega)
  have:j=m:=by omega
  subst this;have Y:a8.wrap ((i:Int)+j)=(i:Int)+j:=aQ _ (by omega) (by omega);have aq:i+j<n+j:=by omega
  have o:=mV (dm wB a b i j) aq;have hs:=pP (n:=n+j) (i:=i+j) (f:=dm wB a b i j) (g:=dm wB a b (i+1) 0) (v:=mulC wB a b i j) (by rw[pG,JF bn q]) (fun k hk=>by rw[pG,MJ bn q hk]);simp[c,Y,A,w,hi,aq,o,hs,V,aa,aL,bF];exact rd (i+1) (show i+1<=n by omega)
 have:i=n:=by omega
 subst this;have R:cj (i+m) (dm wB a b i 0)=cj (i+m) (ae wB (a*b)):=Cr fun k=>by rw[pG,c9 t]
 simp[d,R,E];refine cp e (by simp[u];exact⟨rfl,rfl⟩) ?_ (h1:=by simp[eW,bl,u]);simp;exact bD.refl _
end Go.ah
