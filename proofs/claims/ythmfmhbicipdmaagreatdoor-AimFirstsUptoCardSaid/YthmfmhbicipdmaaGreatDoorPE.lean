import Derived.Test.YthmfmhbicipdmaaGreatDoorPD
import Derived.Deep.DeepHandedRow
import Derived.Deep.DeepWitnessRowRef
import Derived.Seven
import Derived.SevenTiedAt
import Derived.Test.YthmfmhbicipdmaaGreatDoorPA
import Derived.KernelRfl
import Derived.Shelf.Spec.BitsCarry
import Derived.Shelf.Strings.Builder1
import Derived.Shelf.Strings.Builder2
import Derived.Shelf.Strings.Trim
import Derived.Shelf.Small.Utf8
import Derived.Shelf.Small.Bits
import Derived.Shelf.Small.Strs
import Derived.Shelf.Small.Wraps
import Derived.Shelf.Strings.BuilderF
import Derived.Shelf.Strings.Builder2Cap
import Derived.Shelf.Strconv.Atoi
import Derived.Shelf.Strconv.Itoa0
import Derived.Shelf.Strconv.Itoa1
import Derived.Shelf.LaysM
import Derived.Shelf.Strconv.Itoa2
import Derived.Shelf.Strconv.Itoa3
import Derived.Shelf.Strconv.AtoiErrFast
import Derived.Shelf.Strconv.ParseIntEmpty
import Derived.Shelf.Strconv.AtoiFail
import Derived.Shelf.Strconv.Clone
import Derived.Shelf.Strconv.SyntaxError
import Derived.Shelf.LaysC
import Derived.Shelf.Strconv.ToError
import Derived.Shelf.Strconv.Lower
import Derived.Shelf.Strconv.ParseUint10
import Derived.Shelf.Strconv.ParseUint10Empty
import Derived.Shelf.Strconv.ParseUint10Any
import Derived.Shelf.Strconv.ParseInt10
import Derived.Shelf.Strconv.AtoiLong
import Derived.Shelf.Strconv.AtoiInnerAll
import Derived.Shelf.Strconv.RangeError
import Derived.Shelf.Strconv.ToErrorRange
import Derived.Shelf.Strconv.AtoiAll
import Derived.Shelf.Strconv.ParseUintEmpty
import Derived.Shelf.Strings.Search1
import Derived.Shelf.Strings.Search2
import Derived.Shelf.Strings.Cut
import Derived.Shelf.Strings.Shaped
import Derived.Shelf.Strings.Prefix
import Derived.Shelf.Unicode.Decode
import Derived.Shelf.Strings.Runes
import Derived.Shelf.Strings.AsciiSet
import Derived.Shelf.Bits.Mul64
import Derived.Shelf.Strings.Repeat
import Derived.Shelf.Unicode.DecodeSlow
import Derived.Shelf.Unicode.DecodeAny
import Derived.Shelf.Unicode.DecodeLast
import Derived.Shelf.Slices.Turned
import Derived.Test.YthmfmhbicipdmaaGreatDoorProg
/- Parts of a proof. -/
set_option linter.unusedSimpArgs false
set_option linter.unusedVariables false
set_option linter.unusedSectionVars false
open Go.Proofs.Tryz
open Go renaming World->am, FuncId->ao, Program->av, Value->ax, OpenSpec->ay, run_callFunc_extern->aT, Checked->a0, ReturnsInHanded->a1, Calls->a2
open Go.IntKind renaming i64->a6, u64->a7
open List renaming range->a8, ext_getElem->bb, take_of_length_le->be, take_succ_eq_append_getElem->bf, mem_map->bi, map_cons->bl, map_map->bo, map_congr_left->bv, getElem?_range->bw, getElem_range->b0, length_range->b1, getElem?_map->b2, length_cons->b3, getElem_set->b4, getElem_map->b5, cons_append->cb, length_map->cc, replicate->cd
open Nat renaming mul_comm->ce, div_lt_iff_lt_mul->ck, div_div_eq_div_mul->cv, mod_eq_of_lt->cx, pow_succ->cy, pow_pos->c6, mul_le_mul_right->c9, div_eq_of_lt->da, add_mul_div_left->db, mul_assoc->dg, mod_add_div->dl, div_add_mod->dp, mod_lt->dq, le_div_iff_mul_le->dx, mul_le_mul_left->dy, mul_add->dz, add_mul->ea, lt_of_lt_of_le->eb, lt_of_le_of_lt->ec, add_mul_div_right->ed, mul_lt_mul''->ee, pow_le_pow_right->ei, div_mul_le_self->ej, eq_zero_or_pos->em, add_mul_mod_self_right->en, add_mul_mod_self_left->eo, pow_add->eq, mod_one->er, add_comm->ew, div_lt_self->eP, mod_mul_right_mod->e6, div_le_div_right->e7, lt_or_ge->e8, one_mul->e9, mul_pos->fa, add_mod->fb, mul_mod_mul_left->fd, mod_mul->fl, le_refl->fm, div_one->fv, mul_right_comm->fw, lt_div_mul_add->gb, add_sub_cancel->gc, mul_left_comm->ge, add_mod_right->gg, lt_succ_self->gi, strongRecOn->gj, mul_add_div->gm, mul_le_mul->gt, zero_add->gx, pow_zero->gy, add_zero->g0
namespace Go.ak
open Go.Proofs
section
variable{H:Type}{enc:TypeId×ax->H}
theorem aK4{p:Pinned}{C:a0}{P:av}(b:p.checked=C)(d:C.prog=P){s:ay}{c:OpenClaim}(f:ao)(fn:Func)
 (l:c.program=p.name)(hs:c.sum=p.sum)(q:c.spec=s.name)
 (r:c.start=.entering)(o:c.outside=[])(al:c.inits=[])(u:c.under=none)(i:c.initsInPlace=[]/\c.initsUnfollowed=false/\c.initsRecurse=false/\c.initsNamed=[]/\c.initsPassed=[])(n:c.noBlocks=false)(k:c.leaving=false)(g:c.followed=none)(m:c.narrowed=s.cond.isSome)(t:c.still=false)
 (e:P.funcNamed c.func=some f)(hf:P.funcs[f]?=some fn)
 (closed:joinedFacts P f fn s.bare c=true)
 (j:fn.isInstance P c.origin c.targs)(v:fn.isWrapper P c.wrapper c.mainSum)
 (h:∀os:Os,os.Started->∀(H:Type)(a:TypeId×ax->H)(F:Stop.Interp),
  a1 c.assume C os f .any (s.preRow a P fn c.domain c.apart c.laid) ((s.at F).post a P fn c.apart c.fresh c.handsOn c.again)):c.holds p s:=by
 subst b;subst d;exact OpenClaim.holds_of_cond f fn l hs q r o al u i n k g m t e hf closed j v (fun os st H a _ F=>by rw[OpenClaim.pre_eq_preRow];exact h os st H a F)
theorem XJ{a:Assume}{C:a0}{P:av}(q:C.prog=P){os:Os}{f:ao}{fn:Func}{s:ay}{F:Stop.Interp}{h:List PathCond}{apart fresh handsOn again:Bool}{laid:List (String×DataW Unit)}
 (x:ownKnob P.godebug=none)(y:os.Started)(u:P.inits.idxOf? f=none)(r:P.funcs[f]?=some fn)
 (z:∃(w:am)(tape:Tape)(i:Input),w.os=os/\(w.forCall tape i).Shaped P/\i.vars=[]/\Input.okWide P (w.forCall tape i) .any w.heap.size f i/\
  s.preRow enc P fn h apart laid (w.forCall tape i).memory i.args/\a.holds P (lone (Frame.enter P f i.args .normal) [] (w.forCall tape i)))
 (Dk:∀(W:am)(d:Nat)(args:Array ax)(b c:List (DataW H))(g:List MemPlace),
  (∀(j:Nat) t v,fn.params[j]?=some t->args[j]?=some v->Value.okWide P W .any d t v)->
  DataW.Whole enc P fn.params.toList s.vars apart W args.toList b c g->
  (∀k,s.cond=some k->k H (b++c)=true)->
  laidMetH P laid W->
  a2 P f args W fun e l=>∃v,e=.returned v/\(s.at F).post enc P fn apart fresh handsOn again W args v l):
 a1 a C os f .any (s.preRow enc P fn h apart laid) ((s.at F).post enc P fn apart fresh handsOn again):=by
 subst q;exact returnsInHanded_of_row x y u r z (fun W d args b c g m n _ o _ p _ _=>Dk W d args b c g m n o p)
theorem Wp{C:a0}{P:av}(b:C.prog=P){os:Os}{f:ao}{fn:Func}{s:ay}{a:List PathCond}{apart:Bool}{laid:List (String×DataW Unit)}(w0:am)(args:Array ax)(d:w0.os=os)
 (h:(w0.forCall (fun _ _=>0) ⟨#[],args,[]⟩).variablesRefB P=true)
 (e:((w0.forCall (fun _ _=>0) ⟨#[],args,[]⟩).heap.toList.drop P.globals.size).take ((begin P (fun _ _=>0) default).world.heap.size-P.globals.size)=
  (begin P (fun _ _=>0) default).world.heap.toList.drop P.globals.size)
 (c:Input.okWideB P (w0.forCall (fun _ _=>0) ⟨#[],args,[]⟩) f ⟨#[],args,[]⟩=true)
 (g:s.preRow enc P fn a apart laid (w0.forCall (fun _ _=>0) ⟨#[],args,[]⟩).memory args):
 ∃(w:am)(tape:Tape)(i:Input),w.os=os/\(w.forCall tape i).Shaped P/\i.vars=[]/\Input.okWide P (w.forCall tape i) .any w.heap.size f i/\
  s.preRow enc P fn a apart laid (w.forCall tape i).memory i.args/\({modest:=false}:Assume).holds P (lone (Frame.enter P f i.args .normal) [] (w.forCall tape i)):=by
 subst b;exact witness_row_atRef (C:=C) false w0 args d h e c g
theorem axo{p:Pinned}{C:a0}{P:av}(m:p.checked=C)(n:C.prog=P)(d:Looks){s:ay}{c:OpenClaim}(kinds:List LaidKind)(e:Bool)(a:Bool×String)(b:Bool){g:ao}{i:Func}
 (hc:c.holds p s)(A:c.wfByText s=true)(z:c.laidByTextAt d p kinds e)
 (aM:c.start=.entering)(w:c.noBlocks=false/\c.again=false)(u:P.mainIs=some (a.1,a.2.toList))(v:(!a.1&&a.2.isEmpty&&!b)=false)
 (o:P.funcNamed c.func=some g)(hf:P.funcs[g]?=some i)(r:b=P.looks [])(x:∀t∈i.params.toList,P.wantsStandIn t=false)
 (q:false=c.goesBy P):
 Claim7.holds p (.plain s) {stood:={row:=c,standIns:=[],harness:=a,looks:=b},kinds:=[],alts:=[],laidByText:=true,laidKinds:=kinds,laidTests:=e,laidLooks:=d}:=by
 subst m;subst n;refine Claim7.holds_tied_plain_at d [] kinds e a b hc (fun _ h=>by cases h) A (fun _ h=>by cases h) z aM w u v (fun f fn k l=>?_) q;rw[o]at k;cases k;rw[hf]at l;cases l;exact⟨r,fun j t y=>x t (by simpa using Array.mem_of_getElem? y)⟩
end
theorem Jr:Go.Proofs.YthmfmhbicipdmaaGreatDoor.Tryz.pinned.checked=checked:=rfl
theorem yJ:checked.prog=prog:=rfl
theorem aKr:true=prog.looks []:=by kernel_rfl
theorem aKy:ownKnob prog.godebug=none:=by kernel_rfl
theorem mix:prog.follows .mixedOrders=true:=by kernel_rfl
abbrev nf:ao->Bool:=fun _=>false
theorem aEB:ar prog 2 f2:=⟨func2,by kernel_rfl⟩
theorem vg:ar prog 3 f3:=⟨func3,by kernel_rfl⟩
theorem aII:ar prog 4 f4:=⟨func4,by kernel_rfl⟩
theorem aIO:ar prog 5 f5:=⟨func5,by kernel_rfl⟩
theorem aIZ:ar prog 6 f6:=⟨func6,by kernel_rfl⟩
theorem Rp:ar prog 7 f7:=⟨func7,by kernel_rfl⟩
theorem Rx:ar prog 8 f8:=⟨func8,by kernel_rfl⟩
theorem aJb:ar prog 9 f9:=⟨func9,by kernel_rfl⟩
theorem E9:ar prog 10 f10:=⟨func10,by kernel_rfl⟩
theorem Q2:ar prog 11 f11:=⟨func11,by kernel_rfl⟩
theorem Q3:ar prog 12 f12:=⟨func12,by kernel_rfl⟩
theorem Fa:ar prog 13 f13:=⟨func13,by kernel_rfl⟩
theorem Fb:ar prog 14 f14:=⟨func14,by kernel_rfl⟩
theorem Q5:ar prog 15 f15:=⟨func15,by kernel_rfl⟩
theorem Q6:ar prog 16 f16:=⟨func16,by kernel_rfl⟩
theorem Q7:ar prog 17 f17:=⟨func17,by kernel_rfl⟩
theorem Q8:ar prog 18 f18:=⟨func18,by kernel_rfl⟩
theorem aEj:ar prog 19 f19:=⟨func19,by kernel_rfl⟩
theorem aEC:ar prog 20 f20:=⟨func20,by kernel_rfl⟩
theorem aEF:ar prog 21 f21:=⟨func21,by kernel_rfl⟩
theorem aEG:ar prog 22 f22:=⟨func22,by kernel_rfl⟩
theorem aHp:ar prog 23 f23:=⟨func23,by kernel_rfl⟩
theorem aHr:ar prog 24 f24:=⟨func24,by kernel_rfl⟩
theorem aHs:ar prog 25 f25:=⟨func25,by kernel_rfl⟩
theorem aHu:ar prog 26 f26:=⟨func26,by kernel_rfl⟩
theorem aHx:ar prog 27 f27:=⟨func27,by kernel_rfl⟩
theorem aHy:ar prog 28 f28:=⟨func28,by kernel_rfl⟩
theorem aHA:ar prog 29 f29:=⟨func29,by kernel_rfl⟩
theorem aHE:ar prog 30 f30:=⟨func30,by kernel_rfl⟩
theorem aHH:ar prog 31 f31:=⟨func31,by kernel_rfl⟩
theorem Q9:ar prog 32 f32:=⟨func32,by kernel_rfl⟩
theorem aHM:ar prog 33 f33:=⟨func33,by kernel_rfl⟩
theorem aHU:ar prog 34 f34:=⟨func34,by kernel_rfl⟩
theorem aH1:ar prog 35 f35:=⟨func35,by kernel_rfl⟩
theorem aIa:ar prog 36 f36:=⟨func36,by kernel_rfl⟩
theorem aIj:ar prog 37 f37:=⟨func37,by kernel_rfl⟩
theorem aIs:ar prog 38 f38:=⟨func38,by kernel_rfl⟩
theorem aIC:ar prog 39 f39:=⟨func39,by kernel_rfl⟩
theorem Ra:ar prog 40 f40:=⟨func40,by kernel_rfl⟩
theorem Rb:ar prog 41 f41:=⟨func41,by kernel_rfl⟩
theorem Rc:ar prog 42 f42:=⟨func42,by kernel_rfl⟩
theorem Rd:ar prog 43 f43:=⟨func43,by kernel_rfl⟩
theorem Re:ar prog 44 f44:=⟨func44,by kernel_rfl⟩
theorem Rf:ar prog 45 f45:=⟨func45,by kernel_rfl⟩
theorem aIK:ar prog 46 f46:=⟨func46,by kernel_rfl⟩
theorem aIL:ar prog 47 f47:=⟨func47,by kernel_rfl⟩
theorem aIM:ar prog 48 f48:=⟨func48,by kernel_rfl⟩
theorem aIN:ar prog 49 f49:=⟨func49,by kernel_rfl⟩
theorem aIP:ar prog 50 f50:=⟨func50,by kernel_rfl⟩
theorem aIQ:ar prog 51 f51:=⟨func51,by kernel_rfl⟩
theorem aIR:ar prog 52 f52:=⟨func52,by kernel_rfl⟩
theorem aIS:ar prog 53 f53:=⟨func53,by kernel_rfl⟩
theorem aIT:ar prog 54 f54:=⟨func54,by kernel_rfl⟩
theorem aIU:ar prog 55 f55:=⟨func55,by kernel_rfl⟩
theorem aIV:ar prog 56 f56:=⟨func56,by kernel_rfl⟩
theorem aIW:ar prog 57 f57:=⟨func57,by kernel_rfl⟩
theorem aIX:ar prog 58 f58:=⟨func58,by kernel_rfl⟩
theorem aIY:ar prog 59 f59:=⟨func59,by kernel_rfl⟩
theorem Fc:ar prog 60 f60:=⟨func60,by kernel_rfl⟩
theorem Rg:ar prog 61 f61:=⟨func61,by kernel_rfl⟩
theorem Rh:ar prog 62 f62:=⟨func62,by kernel_rfl⟩
theorem Ri:ar prog 63 f63:=⟨func63,by kernel_rfl⟩
theorem Rj:ar prog 64 f64:=⟨func64,by kernel_rfl⟩
theorem Rk:ar prog 65 f65:=⟨func65,by kernel_rfl⟩
theorem Rl:ar prog 66 f66:=⟨func66,by kernel_rfl⟩
theorem Rm:ar prog 67 f67:=⟨func67,by kernel_rfl⟩
theorem Rn:ar prog 68 f68:=⟨func68,by kernel_rfl⟩
theorem Ro:ar prog 69 f69:=⟨func69,by kernel_rfl⟩
theorem Rq:ar prog 70 f70:=⟨func70,by kernel_rfl⟩
theorem Rr:ar prog 71 f71:=⟨func71,by kernel_rfl⟩
theorem Rs:ar prog 72 f72:=⟨func72,by kernel_rfl⟩
theorem Rt:ar prog 73 f73:=⟨func73,by kernel_rfl⟩
theorem Ru:ar prog 74 f74:=⟨func74,by kernel_rfl⟩
theorem Rv:ar prog 75 f75:=⟨func75,by kernel_rfl⟩
theorem Rw:ar prog 76 f76:=⟨func76,by kernel_rfl⟩
theorem aI0:ar prog 77 f77:=⟨func77,by kernel_rfl⟩
theorem aI1:ar prog 78 f78:=⟨func78,by kernel_rfl⟩
theorem aI2:ar prog 79 f79:=⟨func79,by kernel_rfl⟩
theorem aI3:ar prog 80 f80:=⟨func80,by kernel_rfl⟩
theorem aI4:ar prog 81 f81:=⟨func81,by kernel_rfl⟩
theorem aI5:ar prog 82 f82:=⟨func82,by kernel_rfl⟩
theorem aI6:ar prog 83 f83:=⟨func83,by kernel_rfl⟩
theorem aI7:ar prog 84 f84:=⟨func84,by kernel_rfl⟩
theorem aI8:ar prog 85 f85:=⟨func85,by kernel_rfl⟩
theorem Ry:ar prog 86 f86:=⟨func86,by kernel_rfl⟩
theorem Rz:ar prog 87 f87:=⟨func87,by kernel_rfl⟩
theorem aI9:ar prog 88 f88:=⟨func88,by kernel_rfl⟩
theorem aJa:ar prog 89 f89:=⟨func89,by kernel_rfl⟩
theorem RA:ar prog 90 f90:=⟨func90,by kernel_rfl⟩
theorem RC:ar prog 91 f91:=⟨func91,by kernel_rfl⟩
theorem RD:ar prog 92 f92:=⟨func92,by kernel_rfl⟩
theorem RE:ar prog 93 f93:=⟨func93,by kernel_rfl⟩
theorem aJc:ar prog 94 f94:=⟨func94,by kernel_rfl⟩
theorem aJd:ar prog 95 f95:=⟨func95,by kernel_rfl⟩
theorem RF:ar prog 96 f96:=⟨func96,by kernel_rfl⟩
theorem aJe:ar prog 97 f97:=⟨func97,by kernel_rfl⟩
theorem RG:ar prog 98 f98:=⟨func98,by kernel_rfl⟩
theorem aJf:ar prog 99 f99:=⟨func99,by kernel_rfl⟩
theorem aAN:ar prog 100 f100:=⟨func100,by kernel_rfl⟩
theorem aAO:ar prog 101 f101:=⟨func101,by kernel_rfl⟩
theorem GS:ar prog 102 f102:=⟨func102,by kernel_rfl⟩
theorem aAP:ar prog 103 f103:=⟨func103,by kernel_rfl⟩
theorem aAQ:ar prog 104 f104:=⟨func104,by kernel_rfl⟩
theorem aAR:ar prog 105 f105:=⟨func105,by kernel_rfl⟩
theorem PI:ar prog 106 f106:=⟨func106,by kernel_rfl⟩
theorem aAS:ar prog 107 f107:=⟨func107,by kernel_rfl⟩
theorem aAT:ar prog 108 f108:=⟨func108,by kernel_rfl⟩
theorem aAU:ar prog 109 f109:=⟨func109,by kernel_rfl⟩
theorem aAV:ar prog 110 f110:=⟨func110,by kernel_rfl⟩
theorem aBn:ar prog 111 f111:=⟨func111,by kernel_rfl⟩
theorem Hc:ar prog 112 f112:=⟨func112,by kernel_rfl⟩
theorem G9:ar prog 113 f113:=⟨func113,by kernel_rfl⟩
theorem G8:ar prog 114 f114:=⟨func114,by kernel_rfl⟩
theorem PH:ar prog 115 f115:=⟨func115,by kernel_rfl⟩
theorem PG:ar prog 116 f116:=⟨func116,by kernel_rfl⟩
theorem aBV:ar prog 117 f117:=⟨func117,by kernel_rfl⟩
theorem aCl:ar prog 118 f118:=⟨func118,by kernel_rfl⟩
theorem aCs:ar prog 119 f119:=⟨func119,by kernel_rfl⟩
theorem Qi:ar prog 120 f120:=⟨func120,by kernel_rfl⟩
theorem Qh:ar prog 121 f121:=⟨func121,by kernel_rfl⟩
theorem IX:ar prog 122 f122:=⟨func122,by kernel_rfl⟩
theorem IW:ar prog 123 f123:=⟨func123,by kernel_rfl⟩
theorem IV:ar prog 124 f124:=⟨func124,by kernel_rfl⟩
theorem IU:ar prog 125 f125:=⟨func125,by kernel_rfl⟩
theorem IQ:ar prog 126 f126:=⟨func126,by kernel_rfl⟩
theorem IP:ar prog 127 f127:=⟨func127,by kernel_rfl⟩
theorem aCu:ar prog 128 f128:=⟨func128,by kernel_rfl⟩
theorem IM:ar prog 129 f129:=⟨func129,by kernel_rfl⟩
theorem IL:ar prog 130 f130:=⟨func130,by kernel_rfl⟩
theorem IK:ar prog 131 f131:=⟨func131,by kernel_rfl⟩
theorem IJ:ar prog 132 f132:=⟨func132,by kernel_rfl⟩
theorem II:ar prog 133 f133:=⟨func133,by kernel_rfl⟩
theorem IH:ar prog 134 f134:=⟨func134,by kernel_rfl⟩
theorem HJ:ar prog 135 f135:=⟨func135,by kernel_rfl⟩
theorem aCw:ar prog 136 f136:=⟨func136,by kernel_rfl⟩
theorem aCW:ar prog 137 f137:=⟨func137,by kernel_rfl⟩
theorem aDn:ar prog 138 f138:=⟨func138,by kernel_rfl⟩
theorem aDp:ar prog 139 f139:=⟨func139,by kernel_rfl⟩
theorem HI:ar prog 140 f140:=⟨func140,by kernel_rfl⟩
theorem HG:ar prog 141 f141:=⟨func141,by kernel_rfl⟩
theorem aDy:ar prog 142 f142:=⟨func142,by kernel_rfl⟩
theorem HF:ar prog 143 f143:=⟨func143,by kernel_rfl⟩
theorem HE:ar prog 144 f144:=⟨func144,by kernel_rfl⟩
theorem PF:ar prog 145 f145:=⟨func145,by kernel_rfl⟩
theorem PE:ar prog 146 f146:=⟨func146,by kernel_rfl⟩
theorem N5:ar prog 147 f147:=⟨func147,by kernel_rfl⟩
theorem PD:ar prog 148 f148:=⟨func148,by kernel_rfl⟩
theorem PC:ar prog 149 f149:=⟨func149,by kernel_rfl⟩
theorem PB:ar prog 150 f150:=⟨func150,by kernel_rfl⟩
theorem PA:ar prog 151 f151:=⟨func151,by kernel_rfl⟩
theorem Pz:ar prog 152 f152:=⟨func152,by kernel_rfl⟩
theorem FM:ar prog 153 f153:=⟨func153,by kernel_rfl⟩
theorem FL:ar prog 154 f154:=⟨func154,by kernel_rfl⟩
theorem FK:ar prog 155 f155:=⟨func155,by kernel_rfl⟩
theorem Qg:ar prog 156 f156:=⟨func156,by kernel_rfl⟩
theorem B9:ar prog 157 f157:=⟨func157,by kernel_rfl⟩
theorem HC:ar prog 158 f158:=⟨func158,by kernel_rfl⟩
theorem HB:ar prog 159 f159:=⟨func159,by kernel_rfl⟩
theorem HA:ar prog 160 f160:=⟨func160,by kernel_rfl⟩
theorem Hz:ar prog 161 f161:=⟨func161,by kernel_rfl⟩
theorem Qc:ar prog 162 f162:=⟨func162,by kernel_rfl⟩
theorem aDJ:ar prog 163 f163:=⟨func163,by kernel_rfl⟩
theorem EN:ar prog 164 f164:=⟨func164,by kernel_rfl⟩
theorem aDL:ar prog 165 f165:=⟨func165,by kernel_rfl⟩
theorem Qb:ar prog 166 f166:=⟨func166,by kernel_rfl⟩
theorem aDO:ar prog 167 f167:=⟨func167,by kernel_rfl⟩
theorem Qa:ar prog 168 f168:=⟨func168,by kernel_rfl⟩
theorem aDY:ar prog 169 f169:=⟨func169,by kernel_rfl⟩
theorem P9:ar prog 170 f170:=⟨func170,by kernel_rfl⟩
theorem P8:ar prog 171 f171:=⟨func171,by kernel_rfl⟩
theorem P7:ar prog 172 f172:=⟨func172,by kernel_rfl⟩
theorem P6:ar prog 173 f173:=⟨func173,by kernel_rfl⟩
theorem P5:ar prog 174 f174:=⟨func174,by kernel_rfl⟩
theorem G7:ar prog 175 f175:=⟨func175,by kernel_rfl⟩
theorem G6:ar prog 176 f176:=⟨func176,by kernel_rfl⟩
theorem aD5:ar prog 177 f177:=⟨func177,by kernel_rfl⟩
theorem G5:ar prog 178 f178:=⟨func178,by kernel_rfl⟩
theorem G4:ar prog 179 f179:=⟨func179,by kernel_rfl⟩
theorem G3:ar prog 180 f180:=⟨func180,by kernel_rfl⟩
theorem aEa:ar prog 181 f181:=⟨func181,by kernel_rfl⟩
theorem aEb:ar prog 182 f182:=⟨func182,by kernel_rfl⟩
theorem G2:ar prog 183 f183:=⟨func183,by kernel_rfl⟩
theorem aEd:ar prog 184 f184:=⟨func184,by kernel_rfl⟩
theorem aEe:ar prog 185 f185:=⟨func185,by kernel_rfl⟩
theorem G1:ar prog 186 f186:=⟨func186,by kernel_rfl⟩
theorem G0:ar prog 187 f187:=⟨func187,by kernel_rfl⟩
theorem aEf:ar prog 188 f188:=⟨func188,by kernel_rfl⟩
theorem aEg:ar prog 189 f189:=⟨func189,by kernel_rfl⟩
theorem aEk:ar prog 190 f190:=⟨func190,by kernel_rfl⟩
theorem aEm:ar prog 191 f191:=⟨func191,by kernel_rfl⟩
theorem aEn:ar prog 192 f192:=⟨func192,by kernel_rfl⟩
theorem aEr:ar prog 193 f193:=⟨func193,by kernel_rfl⟩
theorem GZ:ar prog 194 f194:=⟨func194,by kernel_rfl⟩
theorem aEx:ar prog 195 f195:=⟨func195,by kernel_rfl⟩
theorem aEy:ar prog 196 f196:=⟨func196,by kernel_rfl⟩
theorem P3:ar prog 197 f197:=⟨func197,by kernel_rfl⟩
theorem aEz:ar prog 198 f198:=⟨func198,by kernel_rfl⟩
theorem aEA:ar prog 199 f199:=⟨func199,by kernel_rfl⟩
theorem aED:ar prog 200 f200:=⟨func200,by kernel_rfl⟩
theorem Hy:ar prog 201 f201:=⟨func201,by kernel_rfl⟩
theorem Ie:ar prog 202 f202:=⟨func202,by kernel_rfl⟩
theorem Ic:ar prog 203 f203:=⟨func203,by kernel_rfl⟩
theorem Ib:ar prog 204 f204:=⟨func204,by kernel_rfl⟩
theorem Ia:ar prog 205 f205:=⟨func205,by kernel_rfl⟩
theorem H9:ar prog 206 f206:=⟨func206,by kernel_rfl⟩
theorem H8:ar prog 207 f207:=⟨func207,by kernel_rfl⟩
theorem H7:ar prog 208 f208:=⟨func208,by kernel_rfl⟩
theorem Gy:ar prog 209 f209:=⟨func209,by kernel_rfl⟩
theorem Gx:ar prog 210 f210:=⟨func210,by kernel_rfl⟩
theorem Gw:ar prog 211 f211:=⟨func211,by kernel_rfl⟩
theorem H6:ar prog 212 f212:=⟨func212,by kernel_rfl⟩
theorem H5:ar prog 213 f213:=⟨func213,by kernel_rfl⟩
theorem H4:ar prog 214 f214:=⟨func214,by kernel_rfl⟩
theorem F9:ar prog 215 f215:=⟨func215,by kernel_rfl⟩
theorem H3:ar prog 216 f216:=⟨func216,by kernel_rfl⟩
theorem HZ:ar prog 217 f217:=⟨func217,by kernel_rfl⟩
theorem HY:ar prog 218 f218:=⟨func218,by kernel_rfl⟩
theorem HX:ar prog 219 f219:=⟨func219,by kernel_rfl⟩
theorem HW:ar prog 220 f220:=⟨func220,by kernel_rfl⟩
theorem HV:ar prog 221 f221:=⟨func221,by kernel_rfl⟩
theorem HU:ar prog 222 f222:=⟨func222,by kernel_rfl⟩
theorem HT:ar prog 223 f223:=⟨func223,by kernel_rfl⟩
theorem HR:ar prog 224 f224:=⟨func224,by kernel_rfl⟩
theorem HQ:ar prog 225 f225:=⟨func225,by kernel_rfl⟩
theorem HP:ar prog 226 f226:=⟨func226,by kernel_rfl⟩
theorem HO:ar prog 227 f227:=⟨func227,by kernel_rfl⟩
theorem HN:ar prog 228 f228:=⟨func228,by kernel_rfl⟩
theorem EM:ar prog 229 f229:=⟨func229,by kernel_rfl⟩
theorem P2:ar prog 230 f230:=⟨func230,by kernel_rfl⟩
theorem P1:ar prog 231 f231:=⟨func231,by kernel_rfl⟩
theorem P0:ar prog 232 f232:=⟨func232,by kernel_rfl⟩
theorem PZ:ar prog 233 f233:=⟨func233,by kernel_rfl⟩
theorem PY:ar prog 234 f234:=⟨func234,by kernel_rfl⟩
theorem aHq:ar prog 235 f235:=⟨func235,by kernel_rfl⟩
theorem PX:ar prog 236 f236:=⟨func236,by kernel_rfl⟩
theorem PW:ar prog 237 f237:=⟨func237,by kernel_rfl⟩
theorem A5:ar prog 238 f238:=⟨func238,by kernel_rfl⟩
theorem OQ:ar prog 239 f239:=⟨func239,by kernel_rfl⟩
theorem EJ:ar prog 240 f240:=⟨func240,by kernel_rfl⟩
theorem Gv:ar prog 241 f241:=⟨func241,by kernel_rfl⟩
theorem HM:ar prog 242 f242:=⟨func242,by kernel_rfl⟩
theorem B8:ar prog 243 f243:=⟨func243,by kernel_rfl⟩
theorem HL:ar prog 244 f244:=⟨func244,by kernel_rfl⟩
theorem OP:ar prog 245 f245:=⟨func245,by kernel_rfl⟩
theorem MH:ar prog 246 f246:=⟨func246,by kernel_rfl⟩
theorem OO:ar prog 247 f247:=⟨func247,by kernel_rfl⟩
theorem N4:ar prog 248 f248:=⟨func248,by kernel_rfl⟩
theorem ON:ar prog 249 f249:=⟨func249,by kernel_rfl⟩
theorem OM:ar prog 250 f250:=⟨func250,by kernel_rfl⟩
theorem OL:ar prog 251 f251:=⟨func251,by kernel_rfl⟩
theorem HK:ar prog 252 f252:=⟨func252,by kernel_rfl⟩
theorem OK:ar prog 253 f253:=⟨func253,by kernel_rfl⟩
theorem OJ:ar prog 254 f254:=⟨func254,by kernel_rfl⟩
theorem Kv:ar prog 255 f255:=⟨func255,by kernel_rfl⟩
theorem O8:ar prog 256 f256:=⟨func256,by kernel_rfl⟩
theorem O7:ar prog 257 f257:=⟨func257,by kernel_rfl⟩
theorem O6:ar prog 258 f258:=⟨func258,by kernel_rfl⟩
theorem aHt:ar prog 259 f259:=⟨func259,by kernel_rfl⟩
theorem aHv:ar prog 260 f260:=⟨func260,by kernel_rfl⟩
theorem F8:ar prog 261 f261:=⟨func261,by kernel_rfl⟩
theorem Gu:ar prog 262 f262:=⟨func262,by kernel_rfl⟩
theorem O5:ar prog 263 f263:=⟨func263,by kernel_rfl⟩
theorem Gt:ar prog 264 f264:=⟨func264,by kernel_rfl⟩
theorem Gs:ar prog 265 f265:=⟨func265,by kernel_rfl⟩
theorem Gr:ar prog 266 f266:=⟨func266,by kernel_rfl⟩
theorem Gq:ar prog 267 f267:=⟨func267,by kernel_rfl⟩
theorem GK:ar prog 268 f268:=⟨func268,by kernel_rfl⟩
theorem aHw:ar prog 269 f269:=⟨func269,by kernel_rfl⟩
theorem GJ:ar prog 270 f270:=⟨func270,by kernel_rfl⟩
theorem N3:ar prog 271 f271:=⟨func271,by kernel_rfl⟩
theorem vG:ar prog 272 f272:=⟨func272,by kernel_rfl⟩
theorem O4:ar prog 273 f273:=⟨func273,by kernel_rfl⟩
theorem IG:ar prog 274 f274:=⟨func274,by kernel_rfl⟩
theorem IF:ar prog 275 f275:=⟨func275,by kernel_rfl⟩
theorem B7:ar prog 276 f276:=⟨func276,by kernel_rfl⟩
theorem GI:ar prog 277 f277:=⟨func277,by kernel_rfl⟩
theorem GH:ar prog 278 f278:=⟨func278,by kernel_rfl⟩
theorem GG:ar prog 279 f279:=⟨func279,by kernel_rfl⟩
theorem GF:ar prog 280 f280:=⟨func280,by kernel_rfl⟩
theorem IE:ar prog 281 f281:=⟨func281,by kernel_rfl⟩
theorem ID:ar prog 282 f282:=⟨func282,by kernel_rfl⟩
theorem IC:ar prog 283 f283:=⟨func283,by kernel_rfl⟩
theorem aHz:ar prog 284 f284:=⟨func284,by kernel_rfl⟩
theorem B6:ar prog 285 f285:=⟨func285,by kernel_rfl⟩
theorem IB:ar prog 286 f286:=⟨func286,by kernel_rfl⟩
theorem IA:ar prog 287 f287:=⟨func287,by kernel_rfl⟩
theorem Iz:ar prog 288 f288:=⟨func288,by kernel_rfl⟩
theorem Iy:ar prog 289 f289:=⟨func289,by kernel_rfl⟩
theorem Ix:ar prog 290 f290:=⟨func290,by kernel_rfl⟩
theorem Iw:ar prog 291 f291:=⟨func291,by kernel_rfl⟩
theorem aHB:ar prog 292 f292:=⟨func292,by kernel_rfl⟩
theorem O3:ar prog 293 f293:=⟨func293,by kernel_rfl⟩
theorem O2:ar prog 294 f294:=⟨func294,by kernel_rfl⟩
theorem aHC:ar prog 295 f295:=⟨func295,by kernel_rfl⟩
theorem O1:ar prog 296 f296:=⟨func296,by kernel_rfl⟩
theorem O0:ar prog 297 f297:=⟨func297,by kernel_rfl⟩
theorem aHD:ar prog 298 f298:=⟨func298,by kernel_rfl⟩
theorem EK:ar prog 299 f299:=⟨func299,by kernel_rfl⟩
theorem OZ:ar prog 300 f300:=⟨func300,by kernel_rfl⟩
theorem Iv:ar prog 301 f301:=⟨func301,by kernel_rfl⟩
theorem aHF:ar prog 302 f302:=⟨func302,by kernel_rfl⟩
theorem aHG:ar prog 303 f303:=⟨func303,by kernel_rfl⟩
theorem Iu:ar prog 304 f304:=⟨func304,by kernel_rfl⟩
theorem N2:ar prog 305 f305:=⟨func305,by kernel_rfl⟩
theorem OY:ar prog 306 f306:=⟨func306,by kernel_rfl⟩
theorem OX:ar prog 307 f307:=⟨func307,by kernel_rfl⟩
theorem OW:ar prog 308 f308:=⟨func308,by kernel_rfl⟩
theorem It:ar prog 309 f309:=⟨func309,by kernel_rfl⟩
theorem Is:ar prog 310 f310:=⟨func310,by kernel_rfl⟩
theorem OV:ar prog 311 f311:=⟨func311,by kernel_rfl⟩
theorem Ir:ar prog 312 f312:=⟨func312,by kernel_rfl⟩
theorem OU:ar prog 313 f313:=⟨func313,by kernel_rfl⟩
theorem Iq:ar prog 315 f315:=⟨func315,by kernel_rfl⟩
theorem aHI:ar prog 316 f316:=⟨func316,by kernel_rfl⟩
theorem OT:ar prog 317 f317:=⟨func317,by kernel_rfl⟩
theorem OS:ar prog 318 f318:=⟨func318,by kernel_rfl⟩
theorem GD:ar prog 319 f319:=⟨func319,by kernel_rfl⟩
theorem OR:ar prog 320 f320:=⟨func320,by kernel_rfl⟩
theorem aHJ:ar prog 321 f321:=⟨func321,by kernel_rfl⟩
theorem aHK:ar prog 322 f322:=⟨func322,by kernel_rfl⟩
theorem Ip:ar prog 323 f323:=⟨func323,by kernel_rfl⟩
theorem Io:ar prog 324 f324:=⟨func324,by kernel_rfl⟩
theorem Im:ar prog 325 f325:=⟨func325,by kernel_rfl⟩
theorem GC:ar prog 326 f326:=⟨func326,by kernel_rfl⟩
theorem GB:ar prog 327 f327:=⟨func327,by kernel_rfl⟩
theorem Il:ar prog 328 f328:=⟨func328,by kernel_rfl⟩
theorem aHL:ar prog 329 f329:=⟨func329,by kernel_rfl⟩
theorem Pp:ar prog 330 f330:=⟨func330,by kernel_rfl⟩
theorem aHN:ar prog 331 f331:=⟨func331,by kernel_rfl⟩
theorem Po:ar prog 332 f332:=⟨func332,by kernel_rfl⟩
theorem Ik:ar prog 333 f333:=⟨func333,by kernel_rfl⟩
theorem aHO:ar prog 334 f334:=⟨func334,by kernel_rfl⟩
theorem aHP:ar prog 335 f335:=⟨func335,by kernel_rfl⟩
theorem aHQ:ar prog 336 f336:=⟨func336,by kernel_rfl⟩
theorem aHR:ar prog 337 f337:=⟨func337,by kernel_rfl⟩
theorem aHS:ar prog 338 f338:=⟨func338,by kernel_rfl⟩
theorem aHT:ar prog 339 f339:=⟨func339,by kernel_rfl⟩
theorem aHV:ar prog 340 f340:=⟨func340,by kernel_rfl⟩
theorem aHW:ar prog 341 f341:=⟨func341,by kernel_rfl⟩
theorem aHX:ar prog 342 f342:=⟨func342,by kernel_rfl⟩
theorem Ij:ar prog 344 f344:=⟨func344,by kernel_rfl⟩
theorem aHY:ar prog 345 f345:=⟨func345,by kernel_rfl⟩
theorem Ii:ar prog 346 f346:=⟨func346,by kernel_rfl⟩
theorem Ih:ar prog 347 f347:=⟨func347,by kernel_rfl⟩
theorem aHZ:ar prog 348 f348:=⟨func348,by kernel_rfl⟩
theorem aH0:ar prog 349 f349:=⟨func349,by kernel_rfl⟩
theorem aH2:ar prog 350 f350:=⟨func350,by kernel_rfl⟩
theorem aH3:ar prog 351 f351:=⟨func351,by kernel_rfl⟩
theorem aH4:ar prog 352 f352:=⟨func352,by kernel_rfl⟩
theorem aH5:ar prog 353 f353:=⟨func353,by kernel_rfl⟩
theorem aH6:ar prog 354 f354:=⟨func354,by kernel_rfl⟩
theorem aH7:ar prog 356 f356:=⟨func356,by kernel_rfl⟩
theorem aH8:ar prog 358 f358:=⟨func358,by kernel_rfl⟩
theorem aH9:ar prog 359 f359:=⟨func359,by kernel_rfl⟩
theorem aIb:ar prog 360 f360:=⟨func360,by kernel_rfl⟩
theorem aIc:ar prog 361 f361:=⟨func361,by kernel_rfl⟩
theorem aId:ar prog 362 f362:=⟨func362,by kernel_rfl⟩
theorem aIe:ar prog 363 f363:=⟨func363,by kernel_rfl⟩
theorem aIf:ar prog 364 f364:=⟨func364,by kernel_rfl⟩
theorem aIg:ar prog 365 f365:=⟨func365,by kernel_rfl⟩
theorem aIh:ar prog 366 f366:=⟨func366,by kernel_rfl⟩
theorem aIi:ar prog 367 f367:=⟨func367,by kernel_rfl⟩
theorem Ig:ar prog 368 f368:=⟨func368,by kernel_rfl⟩
theorem Hi:ar prog 369 f369:=⟨func369,by kernel_rfl⟩
theorem aIk:ar prog 370 f370:=⟨func370,by kernel_rfl⟩
theorem aIl:ar prog 371 f371:=⟨func371,by kernel_rfl⟩
theorem aIm:ar prog 372 f372:=⟨func372,by kernel_rfl⟩
theorem aIn:ar prog 373 f373:=⟨func373,by kernel_rfl⟩
theorem aIo:ar prog 374 f374:=⟨func374,by kernel_rfl⟩
theorem aIp:ar prog 375 f375:=⟨func375,by kernel_rfl⟩
theorem aIq:ar prog 378 f378:=⟨func378,by kernel_rfl⟩
theorem aIr:ar prog 379 f379:=⟨func379,by kernel_rfl⟩
theorem aIt:ar prog 380 f380:=⟨func380,by kernel_rfl⟩
theorem aIu:ar prog 381 f381:=⟨func381,by kernel_rfl⟩
theorem Hh:ar prog 382 f382:=⟨func382,by kernel_rfl⟩
theorem aIv:ar prog 383 f383:=⟨func383,by kernel_rfl⟩
theorem aIw:ar prog 384 f384:=⟨func384,by kernel_rfl⟩
theorem aIx:ar prog 385 f385:=⟨func385,by kernel_rfl⟩
theorem aIy:ar prog 386 f386:=⟨func386,by kernel_rfl⟩
theorem aIz:ar prog 387 f387:=⟨func387,by kernel_rfl⟩
theorem aIA:ar prog 388 f388:=⟨func388,by kernel_rfl⟩
theorem aIB:ar prog 389 f389:=⟨func389,by kernel_rfl⟩
theorem aID:ar prog 390 f390:=⟨func390,by kernel_rfl⟩
theorem aIE:ar prog 391 f391:=⟨func391,by kernel_rfl⟩
theorem aIF:ar prog 392 f392:=⟨func392,by kernel_rfl⟩
theorem aIG:ar prog 393 f393:=⟨func393,by kernel_rfl⟩
theorem aIH:ar prog 394 f394:=⟨func394,by kernel_rfl⟩
theorem aIJ:ar prog 428 f428:=⟨func428,by kernel_rfl⟩
set_option maxHeartbeats 4000000
set_option maxRecDepth 100000
def wB:Nat:=18446744073709551616
theorem rX(x y c:Nat)(hc:c<=1):au prog 314 [.int .u64 x,.int .u64 y,.int .u64 c] (.aC [.int .u64 ((x+y+c)% wB:Nat),.int .u64 ((x+y+c)/wB:Nat)]):=by
 refine .inr fun w ad a h=>?_;simp only[bK,aD]at h;obtain⟨_,_,rfl,rfl,_,_,rfl,rfl,_,_,rfl,rfl,rfl⟩:=h;refine⟨.tuple #[.int .u64 ((x+y+c)% wB:Nat),.int .u64 ((x+y+c)/wB:Nat)],?_,?_⟩
 ·show(callFunc 314 #[.int .u64 x,.int .u64 y,.int .u64 c]).run prog w=_;rw[aT func314 (by kernel_rfl) (by kernel_rfl) (by kernel_rfl) (e:=add64Entry) (by kernel_rfl),run_add64 x y c (by omega) (by omega) (by omega) (by omega)];simp only[Result.andThen,wB];congr 5<;>omega
 ·simp only[aD,bK];exact⟨[.int .u64 ((x+y+c)% wB:Nat),.int .u64 ((x+y+c)/wB:Nat)],⟨_,_,rfl,rfl,_,_,rfl,rfl,rfl⟩,rfl⟩
theorem asf(x y c:Nat)(hc:c<=1):au prog 343 [.int .u64 x,.int .u64 y,.int .u64 c] (.aC [.int .u64 ((x+wB-y-c)% wB:Nat),.int .u64 ((if x<y+c then 1 else 0:Nat):Int)]):=by
 refine .inr fun w ad a h=>?_;simp only[bK,aD]at h;obtain⟨_,_,rfl,rfl,_,_,rfl,rfl,_,_,rfl,rfl,rfl⟩:=h;refine⟨.tuple #[.int .u64 ((x+wB-y-c)% wB:Nat),.int .u64 ((if x<y+c then 1 else 0:Nat):Int)],?_,?_⟩
 ·show(callFunc 343 #[.int .u64 x,.int .u64 y,.int .u64 c]).run prog w=_;rw[aT func343 (by kernel_rfl) (by kernel_rfl) (by kernel_rfl) (e:=sub64Entry) (by kernel_rfl),run_sub64 x y c hc];rfl
 ·simp only[aD,bK];exact⟨[.int .u64 ((x+wB-y-c)% wB:Nat),.int .u64 ((if x<y+c then 1 else 0:Nat):Int)],⟨_,_,rfl,rfl,_,_,rfl,rfl,rfl⟩,rfl⟩
def nO(B:Nat):Nat->Nat->List Nat
 |0,_=>[]
 |f+1,n=>if n=0 then[]else n% B::nO B f (n/B)
def az(B n:Nat):List Nat:=nO B (n+1) n
def jq(B:Nat):List Nat->Nat
 |[]=>0
 |d::l=>d+B*jq B l
def ae(B n i:Nat):Nat:=n/B^i% B
section
variable{B:Nat}
theorem JP(a:2<=B):∀(f g n:Nat),n<f->n<g->nO B f n=nO B g n
 |0,_,_,h,_=>by omega
 |_,0,_,_,h=>by omega
 |f+1,g+1,n,b,c=>by
  simp only[nO]
  split
  ·rfl
  ·rename_i d;have:n/B<n:=eP (by omega) (by omega);rw[JP a f g (n/B) (by omega) (by omega)]
theorem nw:az B 0=[]:=by simp[az,nO]
theorem uw(a:2<=B){n:Nat}(h:n≠0):az B n=n% B::az B (n/B):=by
 have:n/B<n:=eP (by omega) (by omega);rw[az,nO,if_neg h,az,JP a n (n/B+1) (n/B) this (by omega)]
theorem LD(a:2<=B)(n:Nat):jq B (az B n)=n:=by
 induction n using gj with
 |ind n b=>
  by_cases h:n=0
  ·subst h;simp[nw,jq]
  ·rw[uw a h,jq,b _ (eP (by omega) (by omega))];exact dl n B
theorem azM(a:2<=B):∀(i n:Nat),(az B n)[i]?.getD 0=ae B n i
 |i,n=>by
  induction i generalizing n with
  |zero=>
   by_cases h:n=0
   ·subst h;simp[nw,ae]
   ·rw[uw a h];simp[ae]
  |succ i b=>
   by_cases h:n=0
   ·subst h;simp[nw,ae]
   ·rw[uw a h,List.getElem?_cons_succ,b];simp only[ae,cv,cy];rw[ce B]
theorem eO(a:2<=B){n i:Nat}(h:i<(az B n).length):(az B n)[i]=ae B n i:=by
 have:=azM a i n;rw[List.getElem?_eq_getElem h]at this;exact this
theorem cj(b:2<=B)(n:Nat):n<B^(az B n).length:=by
 induction n using gj with
 |ind n c=>
  by_cases h:n=0
  ·subst h;simp[nw]
  ·rw[uw b h,b3,cy];have:=c _ (eP (n:=n) (k:=B) (by omega) (by omega));have d:=dl n B;have e:=dq n (show 0<B by omega);have a:(n/B+1)*B<=B^(az B (n/B)).length*B:=c9 B this;rw[ea,ce (n/B) B]at a;omega
theorem dT(b:2<=B):∀(k n:Nat),n<B^k->(az B n).length<=k
 |0,n,h=>by
  have:n=0:=by simpa using h
  subst this;simp[nw]
 |k+1,n,h=>by
  by_cases a:n=0
  ·subst a;simp[nw]
  ·rw[uw b a,b3];have:=dT b k (n/B) (by
    rw[ck (by omega),<-cy];exact h)
   omega
theorem Kp(a:2<=B){k n:Nat}(h:B^k<=n):k<(az B n).length:=by
 have:=cj a n;exact(Nat.pow_lt_pow_iff_right (by omega:1<B)).1 (ec h this)
def eJ:List Nat->List Nat
 |[]=>[]
 |d::l=>match eJ l with
  |[]=>if d=0 then[]else[d]
  |t=>d::t
theorem DU(a:2<=B):∀{l:List Nat},(∀d∈l,d<B)->az B (jq B l)=eJ l
 |[],_=>by simp[jq,nw,eJ]
 |d::l,h=>by
  have c:=DU a (l:=l) fun x hx=>h x (List.mem_cons_of_mem _ hx);have f:=h d List.mem_cons_self;simp only[eJ,jq]
  by_cases b:d+B*jq B l=0
  ·have k:d=0:=by omega
   have m:jq B l=0:=by
    rcases Nat.mul_eq_zero.1 (show B*jq B l=0 by omega)with e|e
    ·omega
    ·exact e
   rw[b,nw,<-c,m,nw];simp[k]
  ·rw[uw a b];have e1:(d+B*jq B l)% B=d:=by rw[eo,cx f]
   have e2:(d+B*jq B l)/B=jq B l:=by
    rw[db _ _ (by omega),da f,gx]
   rw[e1,e2,c]
   split
   ·rename_i g;have i:=c;rw[g,j a]at i;rw[if_neg (by rw[i]at b;simpa using b),g]
   ·rfl
where j (a:2<=B) {n:Nat}:(az B n=[])=(n=0):=by
        apply propext;constructor
        ·intro h;rw[<-LD a n,h];rfl
        ·rintro rfl;exact nw
def row(B m n:Nat):List Nat:=(a8 m).map (ae B n)
theorem Nv{m n:Nat}:(row B m n).length=m:=by simp[row]
theorem YS(m n:Nat):row B (m+1) n=n% B::row B m (n/B):=by
 rw[row,List.range_succ_eq_map,bl,bo];congr 1
 ·simp[ae]
 ·rw[row];apply bv;intro i _;simp only[Function.comp,ae,cv,cy];rw[ce]
theorem Nu(a:2<=B):∀(m n:Nat),jq B (row B m n)=n% B^m
 |0,n=>by simp[row,jq,er]
 |m+1,n=>by
  rw[YS,jq,Nu a m,cy,ce (B^m),fl]
theorem jU(a:2<=B){m n:Nat}(h:n<B^m):eJ (row B m n)=az B n:=by
 rw[<-DU a (l:=row B m n),Nu a,cx h];intro d b;simp only[row,bi]at b;obtain⟨i,_,rfl⟩:=b;exact dq _ (by omega)
theorem azP(b:2<=B)(n:Nat):az B n=row B (az B n).length n:=by
 apply bb (by simp[row]);intro i a c;rw[eO b a];simp[row]
end
section
variable{B:Nat}
theorem mod_pow_succ(n i:Nat):n% B^(i+1)=n% B^i+B^i*ae B n i:=by
 rw[cy,fl,ae]
def dj(B a b i:Nat):Nat:=(a% B^i+b% B^i)/B^i
theorem yW(a b:Nat):dj B a b 0=0:=by simp[dj,er]
theorem my(f:2<=B)(a b i:Nat):dj B a b i<=1:=by
 have c:0<B^i:=c6 (by omega);have d:=dq a c;have e:=dq b c;rw[dj];have:(a% B^i+b% B^i)/B^i<2:=by rw[ck c];omega
 omega
theorem rz(e:2<=B)(a b i:Nat):(ae B a i+ae B b i+dj B a b i)% B=ae B (a+b) i/\(ae B a i+ae B b i+dj B a b i)/B=dj B a b (i+1):=by
 have c:0<B^i:=c6 (by omega);constructor
 ·have d:(a+b)/B^i=dj B a b i+(a/B^i+b/B^i):=by
   rw[dj]
   conv=>lhs;rw[<-dl a (B^i),<-dl b (B^i)]
   rw[show a% B^i+B^i*(a/B^i)+(b% B^i+B^i*(b/B^i))=(a% B^i+b% B^i)+B^i*(a/B^i+b/B^i)by rw[dz];omega];rw[db _ _ c]
  rw[ae,ae,ae,d,fb,<-fb (a/B^i),<-fb,ew]
 ·conv=>rhs;rw[dj,mod_pow_succ,mod_pow_succ,cy,<-cv]
  rw[show a% B^i+B^i*ae B a i+(b% B^i+B^i*ae B b i)=(a% B^i+b% B^i)+B^i*(ae B a i+ae B b i)by rw[dz];omega];rw[db _ _ c,dj,ew ((a% B^i+b% B^i)/B^i)]
theorem jT{n i:Nat}(h:n<B^i):ae B n i=0:=by
 rw[ae,da h,Nat.zero_mod]
theorem cr(a:2<=B)(n i:Nat):ae B n i<B:=dq _ (by omega)
def fB(B a b i:Nat):Nat:=if a% B^i<b% B^i then 1 else 0
theorem Cq(a b:Nat):fB B a b 0=0:=by simp[fB,er]
theorem LL(d:2<=B){a b:Nat}(k:b<=a)(i:Nat):
 (ae B a i<ae B b i+fB B a b i/\fB B a b (i+1)=1/\ae B a i+B=ae B (a-b) i+(ae B b i+fB B a b i))\/
 (ae B b i+fB B a b i<=ae B a i/\fB B a b (i+1)=0/\ae B a i=ae B (a-b) i+(ae B b i+fB B a b i)):=by
 have g:0<B^i:=c6 (by omega);obtain⟨c,rfl⟩:=Nat.le.dest k;have j:=rz d b c i;rw[show b+c-b=c by omega];have hc:∀i,fB B (b+c) b i=dj B b c i:=by
  intro i;have g:0<B^i:=c6 (by omega);have l:=dq b g;have m:=dq c g;rw[fB,dj,fb]
  by_cases h:b% B^i+c% B^i<B^i
  ·rw[cx h,da h,if_neg (Nat.not_lt.2 (Nat.le_add_right _ _))]
  ·have e1:(b% B^i+c% B^i)/B^i=1:=by
    rw[show b% B^i+c% B^i=(b% B^i+c% B^i-B^i)+B^i*1 by omega,db _ _ g,da (by omega)]
   have e2:(b% B^i+c% B^i)% B^i=b% B^i+c% B^i-B^i:=by
    rw[Nat.mod_eq_sub_mod (by omega),cx (by omega)]
   rw[e1,e2,if_pos (by omega)]
 rw[hc,hc];have n:=cr d b i;have o:=cr d c i;have p:=my d b c i;have f:=dl (ae B b i+ae B c i+dj B b c i) B;rw[j.1,j.2]at f;have q:=my d b c (i+1);have r:=cr d (b+c) i;rcases(show dj B b c (i+1)=0\/dj B b c (i+1)=1 by omega)with e|e
 ·right;rw[e]at f⊢;simp at f;exact⟨by omega,rfl,by omega⟩
 ·left;rw[e]at f⊢;simp at f;exact⟨by omega,rfl,by omega⟩
def jo(B a b i j:Nat):Nat:=(a% B^i)*b+ae B a i*(b% B^j)*B^i
def dt(B a b i j k:Nat):Nat:=if k<i+j then ae B (jo B a b i j) k else ae B ((a% B^i)*b) k
def mulC(B a b i j:Nat):Nat:=jo B a b i j/B^(i+j)-(a% B^i)*b/B^(i+j)
theorem aJV(a b i j:Nat):(a% B^i)*b<=jo B a b i j:=by rw[jo];omega
theorem KH(a b i:Nat):jo B a b i 0=(a% B^i)*b:=by simp[jo,er]
theorem CL(a b i:Nat):mulC B a b i 0=0:=by simp[mulC,KH]
theorem KJ(a b i j:Nat):jo B a b i (j+1)=jo B a b i j+ae B a i*ae B b j*B^(i+j):=by
 rw[jo,jo,mod_pow_succ,dz,ea,eq];have:ae B a i*(B^j*ae B b j)*B^i=ae B a i*ae B b j*(B^i*B^j):=by
  rw[ce (B^j),<-dg,dg,ce (B^j)]
 omega
theorem Mu(a b i:Nat){n:Nat}(h:b<B^n):jo B a b i n=(a% B^(i+1))*b:=by
 rw[jo,cx h,mod_pow_succ,ea];congr 1;rw[fw,ce (ae B a i)]
theorem yI(n k:Nat):n/B^(k+1)=n/B^k/B:=by rw[cy,cv]
theorem Dv(g:2<=B)(a b i j:Nat):
 (ae B a i*ae B b j+dt B a b i j (i+j)+mulC B a b i j)% B=ae B (jo B a b i (j+1)) (i+j)/\
 (ae B a i*ae B b j+dt B a b i j (i+j)+mulC B a b i j)/B=mulC B a b i (j+1):=by
 have f:0<B^(i+j):=c6 (by omega);have d:jo B a b i (j+1)/B^(i+j)=jo B a b i j/B^(i+j)+ae B a i*ae B b j:=by
  rw[KJ,ed _ _ f]
 have h:(a% B^i)*b/B^(i+j)<=jo B a b i j/B^(i+j):=e7 (aJV a b i j);have c:dt B a b i j (i+j)=(a% B^i)*b/B^(i+j)% B:=by rw[dt,if_neg (by omega),ae]
 have e:ae B a i*ae B b j+dt B a b i j (i+j)+mulC B a b i j+B*((a% B^i)*b/B^(i+j)/B)=jo B a b i (j+1)/B^(i+j):=by
  rw[d,c,mulC];have:=dl ((a% B^i)*b/B^(i+j)) B;omega
 constructor
 ·conv=>rhs;rw[ae,<-e]
  rw[eo]
 ·conv=>rhs;rw[mulC,show i+(j+1)=i+j+1 from rfl,yI,yI,<-e,db _ _ (by omega)]
  rw[gc]
theorem KK(f:2<=B){a b i j k:Nat}(hk:k≠i+j):dt B a b i (j+1) k=dt B a b i j k:=by
 rw[dt,dt]
 by_cases h:k<i+j
 ·rw[if_pos (by omega),if_pos h,KJ];have e:0<B^k:=c6 (by omega);obtain⟨d,c⟩:∃d,i+j=k+1+d:=⟨i+j-(k+1),by
   have:k+1<=i+j:=h;rw[Nat.add_sub_cancel' this]⟩
  rw[c,eq,cy];generalize ae B a i*ae B b j=x;rw[ae,ae,show x*(B^k*B*B^d)=x*B^d*B*B^k by simp only[dg,ce,ge]];rw[ed _ _ e,en]
 ·rw[if_neg (by omega),if_neg h]
theorem Mv(a b i j:Nat):dt B a b i (j+1) (i+j)=ae B (jo B a b i (j+1)) (i+j):=by
 rw[dt,if_pos (by omega)]
theorem wQ(d:2<=B)(a:Nat){b n:Nat}(i:Nat)(h:b<B^n):(a% B^i)*b<B^(i+n):=by
 have c:0<B^i:=c6 (by omega);rw[eq];exact ee (dq _ c) h
theorem Jy(c:2<=B){a b i n:Nat}(h:b<B^n):mulC B a b i n=ae B ((a% B^(i+1))*b) (i+n):=by
 have h1:=wQ c a i h;have d:=wQ c a (i+1) h;rw[mulC,Mu a b i h,da h1,Nat.sub_zero];refine(cx ?_).symm;rw[ck (c6 (by omega)),ce B,<-cy,show(i+n).succ=i+1+n by omega];exact d
theorem pR(a b i k:Nat):dt B a b i 0 k=ae B ((a% B^i)*b) k:=by
 rw[dt,KH];split<;>rfl
theorem Mw(c:2<=B){a b i n k:Nat}(h:b<B^n)(hk:k≠i+n):dt B a b i n k=ae B ((a% B^(i+1))*b) k:=by
 rw[dt]
 split
 ·rw[Mu a b i h]
 ·rename_i h1;have e1:(a% B^i)*b<B^k:=eb (wQ c a i h) (ei (by omega) (by omega));have e2:(a% B^(i+1))*b<B^k:=eb (wQ c a (i+1) h) (ei (by omega) (by omega));rw[jT e1,jT e2]
theorem uu(d:2<=B)(a b i:Nat):∀j,mulC B a b i j<B
 |0=>by rw[CL];omega
 |j+1=>by
  have h:=(Dv d a b i j).2;have f:=uu d a b i j;have g:dt B a b i j (i+j)<B:=by rw[dt];split<;>exact cr d _ _
  have e:ae B a i*ae B b j<=(B-1)*(B-1):=gt (by have:=cr d a i;omega) (by have:=cr d b j;omega);rw[<-h,ck (by omega)];obtain⟨c,rfl⟩:∃c,B=c+1:=⟨B-1,by omega⟩
  simp only[gc]at e;rw[ea,dz];omega
end
section
variable{B:Nat}
theorem Kl{V W d:Nat}(a:0<V/d):W/V<=W/d/(V/d):=by
 have e:0<d:=by
  rcases em d with h|h
  ·subst h;simp at a
  ·exact h
 have f:0<V:=by
  rcases em V with h|h
  ·subst h;simp at a
  ·exact h
 rw[dx a,dx e];have b:W/V*V<=W:=ej W V;have c:V/d*d<=V:=ej V d
 calc W/V*(V/d)*d=W/V*(V/d*d):=dg _ _ _
  _<=W/V*V:=dy _ c
  _<=W:=b
theorem XP{V W d q:Nat}(f:0<d)(e:0<V)(h:W/d<q*(V/d)):W/V<q:=by
 rw[ck e];have b:W<(W/d+1)*d:=by
  have:=gb (a:=W) f;rw[ea];omega
 have c:V/d*d<=V:=ej V d
 calc W<(W/d+1)*d:=b
  _<=q*(V/d)*d:=c9 _ h
  _=q*(V/d*d):=dg _ _ _
  _<=q*V:=dy _ c
theorem Wj{V W d q:Nat}(c:0<d)(i:q*d<=V)(b:0<V)(h:q*(V/d)<=W/d):q<=W/V+1:=by
 rcases em q with hq|hq
 ·subst hq;exact Nat.zero_le _
 have:q-1<=W/V:=by
  rw[dx b,Nat.sub_mul,e9];have a:V<=V/d*d+d:=Nat.le_of_lt (gb c);have e:W/d*d<=W:=ej W d;have f:q*V<=q*(V/d)*d+q*d:=by
   calc q*V<=q*(V/d*d+d):=dy _ a
    _=q*(V/d)*d+q*d:=by rw[dz,dg]
  have g:q*(V/d)*d<=W/d*d:=c9 _ h;omega
 omega
theorem Dg{q b c T a r:Nat}(d:q*b+r=T):q*(b*B+c)<=T*B+a↔q*c<=r*B+a:=by
 subst d;rw[dz,ea,dg];omega
theorem tN(n k:Nat):n/B^k=n/B^(k+1)*B+ae B n k:=by
 rw[yI,ae,ce];exact(dp _ _).symm
theorem rN(n j i:Nat):ae B (n/B^j) i=ae B n (j+i):=by
 rw[ae,ae,cv,eq]
theorem DW{n m i:Nat}(h:i<m):ae B (n% B^m) i=ae B n i:=by
 obtain⟨d,rfl⟩:∃d,m=i+(d+1):=⟨m-i-1,by omega⟩
 rw[ae,ae,eq,Nat.mod_mul_right_div_self,cy,ce (B^d),e6]
theorem yR{n c m i:Nat}(h:i<m):ae B (n+c*B^m) i=ae B n i:=by
 rw[<-DW (n:=n+c*B^m) h,en,DW h]
def Sd(B W V q n:Nat):Nat:=W+B^(n+1)-q*V
theorem aKS{W V q n:Nat}(h:q*V<=W){i:Nat}(hi:i<n+1):ae B (Sd B W V q n) i=ae B (W-q*V) i:=by
 rw[Sd,show W+B^(n+1)-q*V=(W-q*V)+1*B^(n+1)by omega,yR hi]
theorem KM(b:2<=B){R d j:Nat}(k:Nat):ae B (R% B^j+d*B^j) k=if k<j then ae B R k else ae B d (k-j):=by
 have a:0<B^j:=c6 (by omega)
 split
 ·rename_i h;rw[yR h,DW h]
 ·rename_i h;obtain⟨e,rfl⟩:∃e,k=j+e:=⟨k-j,by omega⟩
  rw[<-rN,ed _ _ a,da (dq _ a),gx,Nat.add_sub_cancel_left]
theorem ze{R V j:Nat}:R% (V*B^j)=R% B^j+(R/B^j% V)*B^j/\R/(V*B^j)=R/B^j/V:=by
 constructor
 ·rw[ce V,fl,ce (B^j)]
 ·rw[ce V,cv]
end
section
variable{c v1 v0 T u1 q r:Nat}
def hq(c b a T u1:Nat):Nat:=(T*c+u1)/(b*c+a)
theorem QY(a:T<v1*c+v0)(b:u1<c):hq c v1 v0 T u1<c:=by
 rw[hq,ck (by omega)]
 calc T*c+u1<T*c+c:=by omega
  _=(T+1)*c:=by rw[ea,e9]
  _<=(v1*c+v0)*c:=c9 _ a
  _=c*(v1*c+v0):=ce _ _
theorem N7(e:0<v1)(g:v0<c)(f:u1<c):hq c v1 v0 T u1<=T/v1:=by
 have hc:0<c:=by omega
 have a:(v1*c+v0)/c=v1:=by rw[ce,gm hc,da g,g0]
 have b:(T*c+u1)/c=T:=by rw[ce,gm hc,da f,g0]
 have h:=Kl (V:=v1*c+v0) (W:=T*c+u1) (d:=c) (by rw[a];exact e)
 rwa [a,b]at h
theorem DQ(a:0<v1)(hc:0<c)(d:q*v1+r=T)(f:hq c v1 v0 T u1<=q)(e:q*v0<=c*r+u1):q=hq c v1 v0 T u1:=by
 have b:0<v1*c+v0:=by have:=fa a hc;omega
 have h:q*(v1*c+v0)<=T*c+u1:=(Dg d).2 (by rw[ce r];exact e);have:q<=hq c v1 v0 T u1:=by rw[hq,dx b];exact h
 omega
theorem PJ(b:0<v1)(hc:0<c)(f:q*v1+r=T)(i:hq c v1 v0 T u1<=q)(a:c<=q/\hq c v1 v0 T u1<c\/c*r+u1<q*v0):hq c v1 v0 T u1<=q-1:=by
 rcases a with⟨a,g⟩|a
 ·omega
 ·have d:0<v1*c+v0:=by have:=fa b hc;omega
  have h:¬q*(v1*c+v0)<=T*c+u1:=fun e=>by
   have:=(Dg f).1 e;rw[ce r]at this;omega
  have:hq c v1 v0 T u1<q:=by rw[hq,ck d];omega
  omega
theorem Ym(a:T<v1*c+v0)(e:v0<c)(b:q*v1+r=T)(d:c<=r):q<c:=by
 rcases e8 q c with h|h
 ·exact h
 ·have:c*v1<=q*v1:=c9 _ h;rw[ce c]at this;omega
theorem MM(b:0<v1)(d:T<v1*c+v0)(g:v0<c)(a:q*v1+r=T)(f:c<=r)(e:hq c v1 v0 T u1<=q):q=hq c v1 v0 T u1:=by
 have j:=Ym d g a f;refine DQ b (by omega) a e ?_;have h:q*v0<=c*v0:=c9 _ (by omega);have i:c*v0<=c*r:=dy _ (by omega);omega
theorem QX(a:0<v1)(b:T<v1*c+v0)(d:c<=2*v1)(e:v0<c):T/v1<=c+1:=by
 have:T/v1<c+2:=by
  rw[ck a,ea,ce c];omega
 omega
theorem N6:T*c+u1-hq c v1 v0 T u1*(v1*c+v0)=(T*c+u1)% (v1*c+v0):=by
 rw[hq];generalize T*c+u1=A;generalize v1*c+v0=V;have:=dp A V;rw[ce (A/V)];omega
theorem aAz{Y U c:Nat}(hY:0<Y):U/Y=U/c/Y*c+((U/c% Y)*c+U% c)/Y/\U% Y=((U/c% Y)*c+U% c)% Y:=by
 have e:U=(U/c% Y*c+U% c)+(U/c/Y*c)*Y:=by
  have a:=dp U c;have b:=dp (U/c) Y;have d:(Y*(U/c/Y)+U/c% Y)*c=U/c*c:=by rw[b]
  rw[ea,ce Y,fw]at d;rw[ce c]at a;omega
 constructor
 ·conv=>lhs;rw[e]
  rw[ed _ _ hY,ew]
 ·conv=>lhs;rw[e]
  rw[en]
end
section
variable{B W V n q r:Nat}
theorem aLD(b:2<=B)(c:2<=n)(a:V<B^n):V/B^(n-2)=ae B V (n-1)*B+ae B V (n-2):=by
 obtain⟨k,rfl⟩:∃k,n=k+2:=⟨n-2,by omega⟩
 have e1:k+2-2=k:=by omega
 have e2:k+2-1=k+1:=by omega
 rw[e1,e2,tN];have:V/B^(k+1)=ae B V (k+1):=by
  rw[ae,cx];rw[ck (c6 (by omega)),ce,<-cy];exact a
 rw[this]
theorem aLz(c:2<=B)(d:2<=n)(a:B^(n-1)<=V)(b:V<B^n):V/B^(n-1)=ae B V (n-1)/\0<ae B V (n-1):=by
 obtain⟨k,rfl⟩:∃k,n=k+1:=⟨n-1,by omega⟩
 have e2:k+1-1=k:=by omega
 rw[e2]at*;have:V/B^k=ae B V k:=by
  rw[ae,cx];rw[ck (c6 (by omega)),ce,<-cy];exact b
 exact⟨this,by rw[<-this];exact Nat.div_pos a (c6 (by omega))⟩
theorem Df(b:2<=B)(c:2<=n)(a:B^(n-1)<=V):0<V:=eb (c6 (by omega)) a
theorem Oa(c:2<=B)(f:2<=n)(d:B^(n-1)<=V)(e:V<B^n):W/V<=W/B^(n-1)/ae B V (n-1):=by
 obtain⟨a,b⟩:=aLz c f d e;rw[<-a];exact Kl (by rw[a];exact b)
theorem PK(a:2<=B)(c:2<=n)(b:V<B^n)(d:q*ae B V (n-1)+r=W/B^(n-1)):
 q*(V/B^(n-2))<=W/B^(n-2)↔q*ae B V (n-2)<=r*B+ae B W (n-2):=by
 rw[aLD a c b,tN,show n-2+1=n-1 by omega];exact Dg d
theorem E6(b:2<=B)(c:2<=n)(a:B^(n-1)<=V)(d:V<B^n)(g:q*ae B V (n-1)+r=W/B^(n-1))(hq:q<B)(h:q*ae B V (n-2)<=r*B+ae B W (n-2)):q<=W/V+1:=by
 have f:0<B^(n-2):=c6 (by omega);refine Wj f ?_ (Df b c a) ((PK b c d g).2 h);have e:n-1=n-2+1:=by omega
 rw[e,cy,ce]at a;exact Nat.le_trans (c9 _ (by omega)) a
theorem PL(a:2<=B)(b:2<=n)(c:B^(n-1)<=V)(d:V<B^n)(f:q*ae B V (n-1)+r=W/B^(n-1))(g:r*B+ae B W (n-2)<q*ae B V (n-2)):W/V<q:=by
 have e:0<B^(n-2):=c6 (by omega);refine XP e (Df a b c) ?_;rcases e8 (W/B^(n-2)) (q*(V/B^(n-2)))with h|h
 ·exact h
 ·have:=(PK a b d f).1 h;omega
theorem N9(a:2<=B)(b:B<=r)(hq:q<B):q*ae B V (n-2)<=r*B+ae B W (n-2):=by
 have e:ae B V (n-2)<B:=cr a _ _;have c:q*ae B V (n-2)<=B*B:=gt (by omega) (by omega);have d:B*B<=r*B:=c9 _ b;omega
theorem DR(e:2<=B)(f:1<=n)(c:V<B^n)(a:W<V*B):W/B^n<=ae B V (n-1)/\W/V<B:=by
 obtain⟨k,rfl⟩:∃k,n=k+1:=⟨n-1,by omega⟩
 have e2:k+1-1=k:=by omega
 rw[e2];have hk:0<B^k:=c6 (by omega);have b:V/B^k=ae B V k:=by
  rw[ae,cx];rw[ck hk,ce,<-cy];exact c
 refine⟨?_,?_⟩
 ·rw[<-b,cy,ce,<-cv];refine e7 ?_;have:W/B<V:=by rw[ck (by omega)];exact a
  omega
 ·have d:0<V:=by
   rcases em V with h|h
   ·subst h;simp at a
   ·exact h
  rw[ck d,ce];exact a
def jh(B V q i:Nat):Nat:=q*(V% B^i)/B^i
theorem Xp:jh B V q 0=0:=by simp[jh,er]
theorem YT(b:2<=B)(i:Nat):(q*ae B V i+jh B V q i)% B=ae B (q*V) i/\(q*ae B V i+jh B V q i)/B=jh B V q (i+1):=by
 have a:0<B^i:=c6 (by omega);have e:q*(V% B^(i+1))/B^i=q*ae B V i+jh B V q i:=by
  rw[mod_pow_succ,dz,ge,db _ _ a,jh,ew]
 rw[<-e];constructor
 ·have e2:q*V=q*(V% B^(i+1))+q*(V/B^(i+1))*B^(i+1):=by
   have:=dl V (B^(i+1))
   conv=>lhs;rw[<-this]
   rw[dz,ce (B^(i+1)),dg]
  conv=>rhs;rw[e2,yR (by omega)]
  rfl
 ·rw[jh,yI]
theorem aK0(b:2<=B)(hq:q<B)(i:Nat):jh B V q i<B:=by
 have a:0<B^i:=c6 (by omega);rw[jh,ck a];exact ee hq (dq _ a)
theorem YV(c:2<=B)(hq:q<B)(a:V<B^n):jh B V q n=ae B (q*V) n:=by
 have b:0<B^n:=c6 (by omega);rw[jh,cx a,ae];refine(cx ?_).symm;rw[ck b];exact ee hq a
theorem V1(hq:q<B)(a:V<B^n):q*V<B^(n+1):=by
 rw[cy,ce (B^n)];exact ee hq a
theorem wL{m i:Nat}(hi:i<m):ae B (W+B^m) i=ae B W i:=by
 have:=yR (B:=B) (n:=W) (c:=1) hi
 rwa [e9]at this
theorem VE(b:W<B^(n+1))(a:q*V<B^(n+1)):fB B (W+B^(n+1)) (q*V) (n+1)=if W<q*V then 1 else 0:=by
 rw[fB,gg,cx b,cx a]
theorem aKT(h:q*V<=W)(b:q<=W/V+1)(a:0<V)(c:W/V<=q):q=W/V/\W-q*V=W% V:=by
 have e:q=W/V:=by
  have:=(dx a).2 h;omega
 refine⟨e,?_⟩;have:=dp W V;rw[e,ce];omega
theorem YZ(h:W<q*V)(b:q<=W/V+1)(a:0<V)(c:W/V<=q):q=W/V+1/\∀M,q*V<=W+M->W+M-q*V+V=W% V+M:=by
 have e:q=W/V+1:=by
  have:¬q<=W/V:=fun e=>by
   have:=(dx a).1 e;omega
  omega
 refine⟨e,fun M d=>?_⟩;have:=dp W V;have e2:q*V=V*(W/V)+V:=by rw[e,ea,e9,ce]
 omega
end
section
variable{S T:Nat}
theorem Jj{x0 x1:Nat}(h:x0<S)(c:0<T):(x0+S*x1)% (S*T)=x0+S*(x1% T):=by
 have d:0<S:=by omega
 have e:x1=x1% T+T*(x1/T):=(dl x1 T).symm
 conv=>lhs;rw[e,dz,<-dg,<-Nat.add_assoc,eo]
 refine cx ?_;have a:x1% T+1<=T:=dq _ c;have b:S*(x1% T+1)<=S*T:=dy _ a;rw[dz,Nat.mul_one]at b;omega
theorem XX(w:Nat):ae (S*T) (w*S) 0=(ae (S*T) w 0*S)% (S*T):=by
 simp only[ae,gy,fv];rw[Nat.mod_mul_mod]
theorem XY(b:0<S)(a:0<T)(w i:Nat):ae (S*T) (w*S) (i+1)=(ae (S*T) w (i+1)*S)% (S*T)+ae (S*T) w i/T:=by
 have d:0<S*T:=fa b a;have e0:w*S/(S*T)^(i+1)=w/(S*T)^i/T:=by
  rw[cy,ce S T,<-dg,Nat.mul_div_mul_right _ _ b,cv]
 have e1:w/(S*T)^(i+1)=w/(S*T)^i/(S*T):=by rw[cy,cv]
 simp only[ae];rw[e0,e1];generalize w/(S*T)^i=x;have e2:x/T=x% (S*T)/T+S*(x/(S*T)):=by
  conv=>lhs;rw[<-dl x (S*T)]
  rw[show S*T*(x/(S*T))=T*(S*(x/(S*T)))by rw[ce S T,dg],db _ _ a]
 have c:x% (S*T)/T<S:=by rw[ck a];exact dq _ d
 rw[e2,Jj c a];have e3:x/(S*T)% (S*T)*S% (S*T)=S*(x/(S*T)% T):=by
  rw[ce _ S,fd,ce S T,e6]
 rw[e3,ew]
theorem aLc(a:0<S)(e:0<T)(R i:Nat):ae (S*T) (R/S) i=ae (S*T) R i/S+(ae (S*T) R (i+1)*T)% (S*T):=by
 have d:0<S*T:=fa a e;have e0:R/S/(S*T)^i=R/(S*T)^i/S:=by rw[cv,ce,cv]
 have e1:R/(S*T)^(i+1)=R/(S*T)^i/(S*T):=by rw[cy,cv]
 simp only[ae];rw[e0,e1];generalize R/(S*T)^i=x;have e2:x/S=x% (S*T)/S+T*(x/(S*T)):=by
  conv=>lhs;rw[<-dl x (S*T)]
  rw[dg,db _ _ a]
 have c:x% (S*T)/S<T:=by rw[ck a,ce T];exact dq _ d
 have b:=Jj (S:=T) (T:=S) (x0:=x% (S*T)/S) (x1:=x/(S*T)) c a;rw[ce T S]at b;rw[e2,b];have e3:x/(S*T)% (S*T)*T% (S*T)=T*(x/(S*T)% S):=by
  rw[ce _ T,ce S T,fd,ce T S,e6]
 rw[e3]
end
theorem Ei{a b s:Nat}(c:b<2^s):a*2^s|||b=a*2^s+b:=by
 have:=Nat.shiftLeft_add_eq_or_of_lt c a;rw[Nat.shiftLeft_eq]at this;exact this.symm
def eW(l:List Nat):List PV:=l.map fun x:Nat=>.int .u64 x
theorem Sl(w:List Nat):fq prog 1 (w.map (AV.p∘fun x:Nat=>PV.int .u64 x)):=by
 rw[v7];intro v a;obtain⟨x,_,rfl⟩:=bi.1 a;simp[aa,aI,bG]
theorem Cs:∀l:List Nat,eJ (l++[0])=eJ l
 |[]=>by simp[eJ]
 |d::l=>by rw[cb,eJ,Cs l,eJ]
theorem vX:∀(l:List Nat)(d:Nat),d≠0->eJ (l++[d])=l++[d]
 |[],d,h=>by simp[eJ,h]
 |x::l,d,h=>by
  rw[cb,eJ,vX l d h]
  split
  ·rename_i e;simp at e
  ·rfl
theorem uC(w:List Nat)(h:w.length<=1048576):au prog 315 [.seq (eW w)] (.seq (eW (eJ w))):=by
 refine aG nf Iq mix (by simp[f315]) ?_;simp only[eW];simp[f315];refine lp (α:=Nat) (fun i=>⟨[(3,.p (.int .i64 i)),(0,.p (.seq (w.map fun x:Nat=>.int .u64 x)))],[]⟩) (fun i=>i<=w.length/\eJ w=eJ (w.take i)) (fun i=>i) w.length (by simp) ?_;rintro i ⟨k1,k2⟩
 by_cases hi:0<i
 ·obtain⟨j,rfl⟩:∃j,i=j+1:=⟨i-1,by omega⟩
  have d:a6.wrap (j:Int)=j:=aO _ (by omega) (by omega);have a:j<w.length:=by omega
  have c:(0:Int)<(j:Int)+1:=by omega
  have k3:=k2;rw[bf a]at k2
  by_cases b:w[j]=0
  ·rw[b,Cs]at k2;have e:((w[j]:Nat):Int)=0:=by omega
   simp[c,d,a,b];exact rd j ⟨by omega,k2⟩
  ·rw[vX _ _ b,<-bf a]at k2;simp[c,d,a,b];refine⟨⟨by omega,by omega,Sl w⟩,?_⟩;rw[k2,List.map_take];exact bE.refl _
 ·obtain rfl:i=0:=by omega
  simp[eJ]at k2;simp[k2];exact Sl w
def eN(n:Nat):PV:=.seq ((az wB n).map fun x:Nat=>.int .u64 x)
theorem bp:2<=wB:=by decide
def gf(a b:Nat):Int:=if a<b then -1 else if b<a then 1 else 0
theorem JT{a b:Nat}(h:(az wB a).length<(az wB b).length):a<b:=by
 have d:=cj bp a;rcases e8 a b with c|c
 ·exact c
 ·have:=dT bp (az wB a).length b (ec c d);omega
theorem Lq{a b i:Nat}(h:a/wB^(i+1)=b/wB^(i+1))(e:ae wB a i<ae wB b i):a<b:=by
 rw[cy,<-cv,<-cv]at h;have e1:=dp (a/wB^i) wB;have e2:=dp (b/wB^i) wB;rw[ae,ae]at e;rw[h]at e1;rcases e8 a b with d|d
 ·exact d
 ·have:=e7 (c:=wB^i) d;omega
theorem Zx{a b i:Nat}(h:a/wB^(i+1)=b/wB^(i+1))(c:ae wB a i=ae wB b i):a/wB^i=b/wB^i:=by
 rw[cy,<-cv,<-cv]at h;have e1:=dp (a/wB^i) wB;have e2:=dp (b/wB^i) wB;rw[ae,ae]at c;rw[h]at e1;omega
theorem I2(a b:Nat)(z:(az wB a).length<=1048576)(A:(az wB b).length<=1048576):au prog 306 [eN a,eN b] (.int .i64 (gf a b)):=by
 refine aG nf OY mix (by simp[f306]) ?_
 by_cases g:(az wB a).length=(az wB b).length
 case neg=>
  have n:¬((az wB a).length:Int)=(az wB b).length:=by omega
  by_cases u:(az wB a).length<(az wB b).length
  ·have k:((az wB a).length:Int)<(az wB b).length:=by omega
   have:=JT u;have hc:gf a b= -1:=if_pos this;simp[f306,eN,n,k,hc]
  ·have k:¬((az wB a).length:Int)<(az wB b).length:=by omega
   have:=JT (a:=b) (b:=a) (by omega);have hc:gf a b=1:=by rw[gf,if_neg (by omega),if_pos this]
   simp[f306,eN,n,k,hc]
 have r:∀i(h:i<(az wB a).length),(az wB a)[i]=ae wB a i:=fun i h=>eO bp h;have s:∀i(h:i<(az wB b).length),(az wB b)[i]=ae wB b i:=fun i h=>eO bp h;have q:=cj bp a;have m:=cj bp b;rw[<-g]at m;have t:a/wB^(az wB a).length=b/wB^(az wB a).length:=by rw[da q,da m]
 have B:a=b\/a≠b:=by omega
 simp only[eN];generalize az wB a=x at*;generalize az wB b=y at*;have w:a6.wrap ((y.length:Int)-1)=y.length-1:=aO _ (by omega) (by omega);simp[f306,g,w];refine lp (α:=Nat) (fun i=>⟨[(5,.p (.int .i64 ((i:Int)-1))),(1,.p (.seq (y.map fun x:Nat=>.int .u64 x))),(0,.p (.seq (x.map fun x:Nat=>.int .u64 x)))],[]⟩) (fun i=>i<=y.length/\a/wB^i=b/wB^i) (fun i=>i) y.length ⟨fm _,by rw[<-g];exact t⟩ ?_;rintro i ⟨k1,k2⟩
 by_cases hi:0<i
 ·obtain⟨j,rfl⟩:∃j,i=j+1:=⟨i-1,by omega⟩
  have c:j<x.length:=by omega
  have d:j<y.length:=by omega
  have v:a6.wrap ((j:Int)-1)=j-1:=aO _ (by omega) (by omega);have e:=r j c;have f:=s j d
  by_cases hq:ae wB a j=ae wB b j
  ·simp[c,d,e,f,hq,v];exact rd j ⟨by omega,Zx k2 hq⟩
  ·have o:¬(ae wB a j:Int)=ae wB b j:=by omega
   by_cases l:ae wB a j<ae wB b j
   ·have:=Lq k2 l;have hc:gf a b= -1:=if_pos this;simp[c,d,e,f,o,l,hc]
   ·have:=Lq k2.symm (show ae wB b j<ae wB a j by omega);have hc:gf a b=1:=by rw[gf,if_neg (by omega),if_pos this]
    simp[c,d,e,f,o,l,hc]
 ·obtain rfl:i=0:=by omega
  rw[gy,fv,fv]at k2;have hc:gf a b=0:=by rw[gf,if_neg (by omega),if_neg (by omega)]
  simp[hc]
@[simp] theorem Le{α:Type}{f:α->PV}:∀{l:List α},eA (l.map (AV.p∘f))=some (l.map f)
 |[]=>rfl
 |x::l=>by simp only[bl,Function.comp,eA];rw[show(l.map (AV.p∘f))=l.map (fun x=>AV.p (f x))from rfl]at*;have:=@Le α f l;rw[show(l.map (AV.p∘f))=l.map (fun x=>AV.p (f x))from rfl]at this;simp[this]
def uA(x:Nat):AV:=.p (.int .u64 x)
def ie(n i:Nat)(f:Nat->Nat):List AV:=(a8 n).map fun j=>uA (if j<i then f j else 0)
theorem D1(n i:Nat)(f:Nat->Nat):(ie n i f).length=n:=by simp[ie]
theorem Mx(n:Nat)(f:Nat->Nat):cd n (AV.p (.int .u64 0))=ie n 0 f:=by
 apply bb (by simp[ie]);intro i a b;simp[ie,uA]
theorem D0{n i:Nat}(f:Nat->Nat)(h:i<n):(ie n i f).set i (.p (.int .u64 (f i)))=ie n (i+1) f:=by
 apply bb (by simp[ie]);intro j h1 c;simp only[ie,cc,b1]at c;rw[b4];simp only[ie,b5,b0,uA]
 by_cases a:i=j
 ·subst a;rw[if_pos rfl,if_pos (by omega)]
 ·rw[if_neg a]
  by_cases b:j<i
  ·rw[if_pos b,if_pos (by omega)]
  ·rw[if_neg b,if_neg (by omega)]
theorem My(n:Nat)(f:Nat->Nat):ie n n f=((a8 n).map f).map (AV.p∘fun x:Nat=>PV.int .u64 x):=by
 rw[ie,bo];apply bv;intro j a;rw[if_pos (List.mem_range.1 a)];rfl
@[simp] theorem aO3{N:Nat×Nat->Prop}{n i:Nat}{f:Nat->Nat}:aS N (ie n i f)=True:=by
 rw[c7,eq_iff_iff,iff_true];intro v a;simp only[ie,bi]at a;obtain⟨x,_,rfl⟩:=a;trivial
theorem wN{n i j:Nat}(f:Nat->Nat)(h:j<n):(ie n i f)[j]?=some (uA (if j<i then f j else 0)):=by
 rw[ie,b2,bw h];rfl
theorem VW{A C n:Nat}(a:A<wB^n)(b:C<wB^n):dj wB A C n=ae wB (A+C) n:=by
 have c:0<wB^n:=c6 (by decide);have:=my bp A C n;rw[dj,cx a,cx b]at*;rw[ae,cx];exact ec this (by decide)
theorem DV{n i:Nat}(h:(az wB n).length<=i):ae wB n i=0:=jT (eb (cj bp n) (ei (by decide) h))
theorem V0(a b:Nat)(E:(az wB a).length<=1000000)(F:(az wB b).length<=1000000):au prog 305 [eN a,eN b] (eN (a+b)):=by
 refine aG nf N2 mix (by simp[f305]) ?_;simp[f305,-aW];rw[aW];simp[-aW];refine join (fun s=>∃A C,A+C=a+b/\(az wB C).length<=(az wB A).length/\(az wB A).length<=1000000/\aN s.env 0=.p (eN A)/\aN s.env 1=.p (eN C)/\s.heap=[]) ?_ ?_
 ·by_cases T:(az wB a).length<(az wB b).length
  ·have j:((az wB a).length:Int)<(az wB b).length:=by omega
   simp[eN,j];exact⟨b,a,by omega,by omega,F,rfl,rfl⟩
  ·have j:¬((az wB a).length:Int)<(az wB b).length:=by omega
   simp[eN,j];exact⟨a,b,rfl,by omega,E,rfl,rfl⟩
 rintro⟨Q,S⟩ ⟨A,C,hs,K,U,f0,f1,B⟩;dsimp only at f0 f1 B;subst B;rw[<-hs];simp only[eN]at f0 f1⊢;have G:∀i(h:i<(az wB A).length),(az wB A)[i]=ae wB A i:=fun i h=>eO bp h;have H:∀i(h:i<(az wB C).length),(az wB C)[i]=ae wB C i:=fun i h=>eO bp h;have I:=cj bp A;have J:=eb (cj bp C) (ei (show 0<wB by decide) K);have t:=VW I J;have L:=@DV C;have M:eJ ((a8 ((az wB A).length+1)).map (ae wB (A+C)))=az wB (A+C):=jU bp (by
  have R:2*wB^(az wB A).length<=wB^((az wB A).length+1):=by rw[cy,ce];exact dy _ bp
  omega)
 have d:=uC ((a8 ((az wB A).length+1)).map (ae wB (A+C))) (by simp;omega);rw[M]at d;generalize az wB (A+C)=z at*;generalize az wB A=x at*;generalize az wB C=y at*;obtain⟨n,c⟩:∃n,x.length=n:=⟨_,rfl⟩
 obtain⟨m,o⟩:∃m,y.length=m:=⟨_,rfl⟩
 rw[c]at t d;have u:=My (n+1) (ae wB (A+C));have k:((a8 (n+1)).map (ae wB (A+C))).length=n+1:=by simp
 generalize (a8 (n+1)).map (ae wB (A+C))=l at d u k;have V:n<=1000000:=by omega
 have W:m<=n:=by omega
 have N:a6.wrap ((n:Int)+1)=n+1:=ct (by omega);simp[f0,f1,c,N];refine⟨⟨by omega,by simp only[c8];omega⟩,?_⟩;rw[Mx (n+1) (ae wB (A+C))];refine lp (α:=Nat) (fun i=>⟨[(22,.p (.int .i64 i)),(21,.p (.int .i64 n)),(6,.p (.int .u64 (dj wB A C i:Nat))),(5,.sl 0 0 1 0 (n+1)),(1,.p (.seq (y.map fun x:Nat=>.int .u64 x))),(0,.p (.seq (x.map fun x:Nat=>.int .u64 x)))],[.arr .exact 0 1 (ie (n+1) i (ae wB (A+C)))]⟩)
  (fun i=>i<=n) (fun i=>n-i) 0 (by simp) ?_ (he:=by simp[f0,f1,yW])
 intro i k1;have D:=ct (i:=i) (by omega)
 by_cases hi:i<n
 ·have g:i<x.length:=by rw[c];exact hi
  have hx:=G i g;have e:=rX (ae wB A i) (ae wB C i) (dj wB A C i) (my bp A C i);obtain⟨g1,g2⟩:=rz bp A C i;rw[g1,g2]at e;have aM:=D0 (n:=n+1) (ae wB (A+C)) (show i<n+1 by omega);have al:i<(ie (n+1) i (ae wB (A+C))).length:=by rw[D1];omega
  have w:(ie (n+1) i (ae wB (A+C))).length=n+1:=D1 _ _ _;have X:ie (n+1) i (ae wB (A+C))≠[]:=by intro h;rw[h]at w;simp at w
  have f:i<n+1:=by omega
  by_cases q:i<m
  ·have v:i<y.length:=by rw[o];exact q
   have O:=H i v;have r:(i:Int)<m:=by omega
   simp[c,o,hi,q,r,hx,O,g,v];refine c3 e ?_;simp[f,aM,D,wN _ f,aa,aI,bG,uA];exact rd (i+1) (show i+1<=n by omega)
  ·have r:¬(i:Int)<m:=by omega
   have P:=L (i:=i) (by omega);rw[P]at e;simp[c,o,hi,q,r,hx,g];refine c3 e ?_;simp[f,aM,D,wN _ f,aa,aI,bG,uA];exact rd (i+1) (show i+1<=n by omega)
 have:i=n:=by omega
 subst this;simp[c,t,wN _ (gi i),D0 _ (gi i),u,aa,aI,bG,uA];refine cp d (by simp[k];exact⟨rfl,rfl⟩) ?_ (h1:=by simp[eW,be,k]);simp;exact bE.refl _
end Go.ak
namespace Go.ak
open Go.Proofs
theorem XS{x y c d:Nat}(h:x+wB=d+(y+c))(a:d<wB):(x+wB-y-c)% wB=d:=by rw[show x+wB-y-c=d by omega];exact cx a
theorem Ye{x y c d:Nat}(h:x=d+(y+c))(a:d<wB):(x+wB-y-c)% wB=d:=by rw[show x+wB-y-c=d+wB by omega,gg];exact cx a
theorem Pv{A C:Nat}(h:C<=A)(i:Nat):au prog 343 [.int .u64 (ae wB A i),.int .u64 (ae wB C i),.int .u64 (fB wB A C i)] (.aC [.int .u64 (ae wB (A-C) i),.int .u64 (fB wB A C (i+1))]):=by
 have c:fB wB A C i<=1:=by rw[fB];split<;>omega
 have a:=asf (ae wB A i) (ae wB C i) (fB wB A C i) c;have b:=cr bp (A-C) i;have e:=cr bp A i;have f:=cr bp C i;have d:wB=18446744073709551616:=rfl;rcases LL bp h i with⟨e1,e2,e3⟩|⟨e1,e2,e3⟩
 ·rw[if_pos e1,XS e3 b]at a;rw[e2];exact a
 ·rw[if_neg (by omega),Ye e3 b]at a;rw[e2];exact a
theorem J3(A C:Nat)(k:C<=A)(D:(az wB A).length<=1000000):au prog 307 [eN A,eN C] (eN (A-C)):=by
 refine aG nf OX mix (by simp[f307]) ?_;have F:(az wB C).length<=(az wB A).length:=dT bp _ _ (ec k (cj bp A));have s:∀i(h:i<(az wB A).length),(az wB A)[i]=ae wB A i:=fun i h=>eO bp h;have t:∀i(h:i<(az wB C).length),(az wB C)[i]=ae wB C i:=fun i h=>eO bp h;have u:=@DV C;have v:eJ ((a8 (az wB A).length).map (ae wB (A-C)))=az wB (A-C):=jU bp (ec (Nat.sub_le A C) (cj bp A));have b:=uC ((a8 (az wB A).length).map (ae wB (A-C))) (by simp;omega);rw[v]at b;simp only[eN];generalize az wB (A-C)=z at*;generalize az wB A=x at*;generalize az wB C=y at*;obtain⟨n,a⟩:∃n,x.length=n:=⟨_,rfl⟩
 obtain⟨m,f⟩:∃m,y.length=m:=⟨_,rfl⟩
 rw[a]at b;have o:=My n (ae wB (A-C));have e:((a8 n).map (ae wB (A-C))).length=n:=by simp
 generalize (a8 n).map (ae wB (A-C))=l at b o e;have E:n<=1000000:=by omega
 have H:m<=n:=by omega
 simp[f307,a];refine⟨by simp only[c8];omega,?_⟩;rw[Mx n (ae wB (A-C))];refine lp (α:=Nat) (fun i=>⟨[(14,.p (.int .i64 i)),(13,.p (.int .i64 n)),(6,.p (.int .u64 (fB wB A C i:Nat))),(5,.sl 0 0 1 0 n),(1,.p (.seq (y.map fun x:Nat=>.int .u64 x))),(0,.p (.seq (x.map fun x:Nat=>.int .u64 x)))],[.arr .exact 0 1 (ie n i (ae wB (A-C)))]⟩)
  (fun i=>i<=n) (fun i=>n-i) 0 (by simp) ?_ (he:=by simp[Cq])
 intro i k1;have r:=ct (i:=i) (by omega)
 by_cases hi:i<n
 ·have d:i<x.length:=by rw[a];exact hi
  have hx:=s i d;have c:=Pv k i;have aM:=D0 (n:=n) (ae wB (A-C)) hi;have G:(ie n i (ae wB (A-C))).length=n:=D1 _ _ _
  by_cases g:i<m
  ·have q:i<y.length:=by rw[f];exact g
   have w:=t i q;have j:(i:Int)<m:=by omega
   simp[a,f,hi,g,j,hx,w,d,q];refine c3 c ?_;simp[hi,aM,r,wN _ hi,aa,aI,bG,uA];exact rd (i+1) (show i+1<=n by omega)
  ·have j:¬(i:Int)<m:=by omega
   have B:=u (i:=i) (by omega);rw[B]at c;simp[a,f,hi,g,j,hx,d];refine c3 c ?_;simp[hi,aM,r,wN _ hi,aa,aI,bG,uA];exact rd (i+1) (show i+1<=n by omega)
 have:i=n:=by omega
 subst this;simp[a,o,aa,aI,bG,uA];refine cp b (by simp[e];exact⟨rfl,rfl⟩) ?_ (h1:=by simp[eW,be,e]);simp;exact bE.refl _
end Go.ak
namespace Go.Proofs
open Go.Shelf
def Tryz.VA:Go.Shelf.Ren:=⟨fun|134=>331|129=>321|n=>n,fun|53=>320|3=>3|4=>4|46=>369|5=>5|9=>9|n=>n,fun|n=>n⟩
theorem Tryz.aJN:Go.Proofs.Lays.n134 prog VA:={
 mixed:=by kernel_rfl
 f129:=func321.trans (congrArg some (by kernel_rfl))
 f134:=func331.trans (congrArg some (by kernel_rfl))
 t3:=underlying3
 a3:=isAgg3
 z3:=sizeOf3
 v3:=zeroValue3
 t4:=underlying4
 a4:=isAgg4
 z4:=sizeOf4
 v4:=zeroValue4
 t5:=underlying5
 a5:=isAgg5
 z5:=sizeOf5
 v5:=zeroValue5
 t9:=underlying9
 a9:=isAgg9
 z9:=sizeOf9
 v9:=zeroValue9
 t46:=underlying369
 a46:=isAgg369
 z46:=sizeOf369
 v46:=zeroValue369
 t53:=underlying320
 a53:=isAgg320
 z53:=sizeOf320
 v53:=zeroValue320}
theorem Tryz.bits_LeadingZeros64(x:Int)(w:am)(a:0<=x)(h1:x<=18446744073709551615):
 a2 prog 331 #[.int .u64 x] w fun e w'=>e=.returned (.int .i64 (64-(Lib.bitLen x.toNat:Int)))/\w'=w:=Any.bits_LeadingZeros64 aJN x w a h1
def Tryz.VB:Go.Shelf.Ren:=⟨fun|129=>321|n=>n,fun|53=>320|3=>3|4=>4|46=>369|5=>5|9=>9|n=>n,fun|n=>n⟩
theorem Tryz.aJM:Go.Proofs.Lays.n129 prog VB:={
 mixed:=by kernel_rfl
 f129:=func321.trans (congrArg some (by kernel_rfl))
 t3:=underlying3
 a3:=isAgg3
 z3:=sizeOf3
 v3:=zeroValue3
 t4:=underlying4
 a4:=isAgg4
 z4:=sizeOf4
 v4:=zeroValue4
 t5:=underlying5
 a5:=isAgg5
 z5:=sizeOf5
 v5:=zeroValue5
 t9:=underlying9
 a9:=isAgg9
 z9:=sizeOf9
 v9:=zeroValue9
 t46:=underlying369
 a46:=isAgg369
 z46:=sizeOf369
 v46:=zeroValue369
 t53:=underlying320
 a53:=isAgg320
 z53:=sizeOf320
 v53:=zeroValue320}
theorem Tryz.bits_Len64(x:Int)(w:am)(a:0<=x)(h1:x<=18446744073709551615):
 a2 prog 321 #[.int .u64 x] w fun e w'=>e=.returned (.int .i64 (Lib.bitLen x.toNat))/\w'=w:=Any.bits_Len64 aJM x w a h1
def Tryz.Vy:Go.Shelf.Ren:=⟨fun|264=>269|n=>n,fun|53=>320|46=>369|n=>n,fun|n=>n⟩
theorem Tryz.aJP:Go.Proofs.Lays.n264 prog Vy:={
 mixed:=by kernel_rfl
 f264:=func269.trans (congrArg some (by kernel_rfl))
 t46:=underlying369
 a46:=isAgg369
 z46:=sizeOf369
 v46:=zeroValue369
 t53:=underlying320
 a53:=isAgg320
 z53:=sizeOf320
 v53:=zeroValue320}
open Go.RowKit Go.Lib in
theorem Tryz.bits_Mul64(x y:Nat)(hx:x<18446744073709551616)(hy:y<18446744073709551616)(w:am):
 a2 prog 269 #[.int .u64 x,.int .u64 y] w fun e w'=>e=.returned (.tuple #[.int .u64 ((x*y/18446744073709551616:Nat):Int),.int .u64 ((x*y% 18446744073709551616:Nat):Int)])/\w'=w:=Any.bits_Mul64 aJP x y hx hy w
end Go.Proofs
namespace Go.ak
open Go.Proofs
section
variable[Gl]{P:av}
theorem kV{f:ao}{fn:Func}(h:P.funcs[f]?=some fn)(hs:(fn.body.isSome&&(fn.name != "runtime.NumGoroutine"))=true):Enters P f:=by
 intro args w;simp only[Bool.and_eq_true,bne_iff_ne]at hs;cases a:fn.body with
 |none=>rw[a]at hs;simp at hs
 |some c=>simp[callFunc,h,hs.2,a]
theorem mu{f:ao}{args:List PV}{v:PV}(l:Enters P f)
 (h:∀(w:am)(ad:Nat->Prop)(a:List ax),(∀k,ad k->k<w.heap.size)->nG P w ad->bK P w ad args a->
  a2 P f a.toArray w fun e w'=>∃b,e=.returned b/\(w.heap.size<=w'.heap.size/\(∀k,k<w.heap.size->w'.heap[k]?=w.heap[k]?)/\w'.os=w.os/\w'.output=w.output)/\∀(w:am)(ad:Nat->Prop),aD P w ad v b):au P f args v:=by
 refine .inl ⟨l,fun w ad a d m j=>(h w ad a d m j).mono ?_⟩;rintro e w' ⟨b,rfl,⟨c,g,n⟩,i⟩;exact⟨b,ad,rfl,fun _ x=>x,fun _ x=>.inl x,fun k hk=>eb (d k hk) c,c,g,n,i _ _⟩
theorem rB{w:am}{ad:Nat->Prop}{a b:PV}{cs:List ax}(h:bK P w ad [a,b] cs):∃x y,cs=[x,y]/\aD P w ad a x/\aD P w ad b y:=by
 simp only[bK]at h;obtain⟨x,xs,rfl,c,y,e,rfl,d,rfl⟩:=h;exact⟨x,y,rfl,c,d⟩
theorem zJ{w:am}{ad:Nat->Prop}{a:PV}{cs:List ax}(h:bK P w ad [a] cs):∃x,cs=[x]/\aD P w ad a x:=by
 simp only[bK]at h;obtain⟨x,xs,rfl,b,rfl⟩:=h;exact⟨x,rfl,b⟩
end
theorem zW(x y:Nat)(hx:x<18446744073709551616)(g:y<18446744073709551616):au prog 269 [.int .u64 x,.int .u64 y] (.aC [.int .u64 ((x*y/18446744073709551616:Nat):Int),.int .u64 ((x*y% 18446744073709551616:Nat):Int)]):=by
 refine mu (kV func269 (by kernel_rfl)) fun w ad h _ _ f=>?_;obtain⟨a,b,rfl,c,d⟩:=rB f;simp only[aD]at c d;subst c d;refine(bits_Mul64 x y hx g w).mono ?_;rintro e w' ⟨rfl,rfl⟩;refine⟨_,rfl,⟨fm _,fun _ _=>rfl,rfl,rfl⟩,fun w ad=>?_⟩;simp only[aD,bK];exact⟨[_,_],⟨_,_,rfl,rfl,_,_,rfl,rfl,rfl⟩,rfl⟩
theorem Px(x:Nat)(hx:x<18446744073709551616):au prog 331 [.int .u64 x] (.int .i64 (64-(Lib.bitLen x:Int))):=by
 refine mu (kV func331 (by kernel_rfl)) fun w ad d _ _ c=>?_;obtain⟨a,rfl,b⟩:=zJ c;simp only[aD]at b;subst b;refine(bits_LeadingZeros64 x w (by omega) (by omega)).mono ?_;rintro e w' ⟨rfl,rfl⟩;refine⟨_,rfl,⟨fm _,fun _ _=>rfl,rfl,rfl⟩,fun w ad=>?_⟩;simp only[aD];rfl
end Go.ak
namespace Go.ak
open Go.Proofs
theorem fP(n:Int)(h:0<=n)(a:n<wB):a7.wrap n=n:=IntWalk.u64_in n ⟨h,by simp only[wB]at a;omega⟩
def ch(n:Nat)(f:Nat->Nat):List AV:=(a8 n).map fun j=>uA (f j)
theorem Ni(n:Nat)(f:Nat->Nat):(ch n f).length=n:=by simp[ch]
theorem nv{n j:Nat}(f:Nat->Nat)(h:j<n):(ch n f)[j]?=some (.p (.int .u64 (f j))):=by
 rw[ch,b2,bw h];rfl
theorem Dw{n:Nat}{f:Nat->Nat}(h:∀j,f j=0):cd n (AV.p (.int .u64 0))=ch n f:=by
 apply bb (by simp[ch]);intro i a b;simp[ch,uA,h]
theorem p0{n i v:Nat}{f g:Nat->Nat}(d:g i=v)(c:∀k,k≠i->g k=f k):(ch n f).set i (.p (.int .u64 v))=ch n g:=by
 apply bb (by simp[ch]);intro j e b;simp only[ch,cc,b1]at b;rw[b4];simp only[ch,b5,b0,uA]
 by_cases a:i=j
 ·subst a;rw[if_pos rfl,d]
 ·rw[if_neg a,c j (by omega)]
theorem Dx(n:Nat)(f:Nat->Nat):ch n f=((a8 n).map f).map (AV.p∘fun x:Nat=>PV.int .u64 x):=by
 rw[ch,bo];rfl
theorem CM{n:Nat}{f g:Nat->Nat}(h:∀k,f k=g k):ch n f=ch n g:=by rw[show f=g from funext h]
@[simp] theorem aO2{N:Nat×Nat->Prop}{n:Nat}{f:Nat->Nat}:aS N (ch n f)=True:=by
 rw[c7,eq_iff_iff,iff_true];intro v a;simp only[ch,bi]at a;obtain⟨x,_,rfl⟩:=a;trivial
@[simp] theorem aO5{σ:Nat->Nat}{n:Nat}{f:Nat->Nat}:cU σ (ch n f)=ch n f:=by
 have:∀l:List Nat,cU σ (l.map fun j=>uA (f j))=l.map fun j=>uA (f j):=by
  intro l
  induction l with
  |nil=>rfl
  |cons a r b=>simp only[bl,cU,b];rfl
 exact this _
theorem mul_two(P o k:Nat)(h:(P+o+k)/wB<wB)(a:o<wB)(hk:k<wB):
 ((P% wB+o+0)% wB+k+0)% wB=(P+o+k)% wB/\P/wB+(P% wB+o+0)/wB+((P% wB+o+0)% wB+k+0)/wB=(P+o+k)/wB/\P/wB+(P% wB+o+0)/wB<wB:=by
 simp only[wB]at*;omega
theorem VY(a b:Nat)(D:(az wB a).length+(az wB b).length<=1000000):au prog 273 [eN a,eN b] (eN (a*b)):=by
 refine aG nf O4 mix (by simp[f273]) ?_;have P:∀i(h:i<(az wB a).length),(az wB a)[i]=ae wB a i:=fun i h=>eO bp h;have Q:∀i(h:i<(az wB b).length),(az wB b)[i]=ae wB b i:=fun i h=>eO bp h;have t:=cj bp a;have q:=cj bp b;have U:eJ ((a8 ((az wB a).length+(az wB b).length)).map (ae wB (a*b)))=az wB (a*b):=jU bp (by
  rw[eq];exact ee t q)
 have e:=uC ((a8 ((az wB a).length+(az wB b).length)).map (ae wB (a*b))) (by simp;omega);rw[U]at e;simp only[eN];generalize az wB (a*b)=z at*;generalize az wB a=x at*;generalize az wB b=y at*;obtain⟨n,d⟩:∃n,x.length=n:=⟨_,rfl⟩
 obtain⟨m,c⟩:∃m,y.length=m:=⟨_,rfl⟩
 rw[d]at t e D;rw[c]at q e D;have E:=Dx (n+m) (ae wB (a*b));have u:((a8 (n+m)).map (ae wB (a*b))).length=n+m:=by simp
 generalize (a8 (n+m)).map (ae wB (a*b))=l at e E u;have ag:a6.wrap ((n:Int)+m)=((n+m:Nat):Int):=by rw[aO _ (by omega) (by omega)];omega
 have T:((n:Int)+m).toNat=n+m:=by omega
 have S:0<=(n:Int)+m:=by omega
 have X:a6.wrap ((n:Int)+m)=(n:Int)+m:=aO _ (by omega) (by omega);simp[f273,d,c,X,T,S];refine⟨by simp only[c8];omega,?_⟩;rw[Dw (f:=dt wB a b 0 0) (by intro j;simp[pR,er,ae])];refine lp (α:=Nat) (fun i=>⟨[(22,.p (.int .i64 i)),(21,.p (.int .i64 n)),(20,.p (.seq (x.map fun x:Nat=>.int .u64 x))),(5,.sl 0 0 1 0 (n+m)),(1,.p (.seq (y.map fun x:Nat=>.int .u64 x)))],[.arr .exact 0 1 (ch (n+m) (dt wB a b i 0))]⟩)
  (fun i=>i<=n) (fun i=>n-i) 0 (by simp) ?_ (he:=by simp)
 intro i k1;have V:=ct (i:=i) (by omega)
 by_cases hi:i<n
 ·have F:i<x.length:=by rw[d];exact hi
  have hx:=P i F;simp[d,c,hi,F,hx];refine lp (α:=Nat) (fun j=>⟨[(29,.p (.int .i64 j)),(28,.p (.int .i64 m)),(27,.p (.seq (y.map fun x:Nat=>.int .u64 x))),(8,.p (.int .u64 (mulC wB a b i j:Nat))),(7,.p (.int .u64 (ae wB a i:Nat))),(6,.p (.int .i64 i)),(22,.p (.int .i64 i)),(21,.p (.int .i64 n)),(20,.p (.seq (x.map fun x:Nat=>.int .u64 x))),(5,.sl 0 0 1 0 (n+m)),(1,.p (.seq (y.map fun x:Nat=>.int .u64 x)))],[.arr .exact 0 1 (ch (n+m) (dt wB a b i j))]⟩)
   (fun j=>j<=m) (fun j=>m-j) 0 (by simp) ?_ (he:=by simp[CL])
  intro j k2;have W:=ct (i:=j) (by omega);have A:((i:Int)+j).toNat=i+j:=by omega
  have w:0<=(i:Int)+j:=by omega
  have I:a6.wrap ((i:Int)+j)=(i:Int)+j:=aO _ (by omega) (by omega)
  by_cases G:j<m
  ·have H:j<y.length:=by rw[c];exact G
   have Z:=Q j H;have s:i+j<n+m:=by omega
   have o:=nv (dt wB a b i j) s;have r:=Dv bp a b i j;have M:=uu bp a b i j;have N:=uu bp a b i (j+1);have O:dt wB a b i j (i+j)<wB:=by rw[dt];split<;>exact cr bp _ _
   obtain⟨e1,e2,e3⟩:=mul_two (ae wB a i*ae wB b j) (dt wB a b i j (i+j)) (mulC wB a b i j) (by rw[r.2];exact N) O M;rw[r.1]at e1;rw[r.2]at e2;have J:=zW (ae wB a i) (ae wB b j) (cr bp _ _) (cr bp _ _);rw[show(18446744073709551616:Nat)=wB from rfl]at J;have ab:=rX (ae wB a i*ae wB b j% wB) (dt wB a b i j (i+j)) 0 (by omega);have K:=rX ((ae wB a i*ae wB b j% wB+dt wB a b i j (i+j)+0)% wB) (mulC wB a b i j) 0 (by omega);rw[e1]at K;have hs:=p0 (n:=n+m) (i:=i+j) (f:=dt wB a b i j) (g:=dt wB a b i (j+1)) (Mv a b i j) (fun k hk=>KK bp hk);generalize ae wB a i*ae wB b j% wB=L at*;generalize ae wB a i*ae wB b j/wB=B at*;generalize (L+dt wB a b i j (i+j)+0)% wB=ac at*;generalize (L+dt wB a b i j (i+j)+0)/wB=C at*;generalize (ac+mulC wB a b i j+0)/wB=ad at*;have w1:a7.wrap ((B:Int)+C)=((B+C:Nat):Int):=by rw[fP _ (by omega) (by omega)];omega
   have af:a7.wrap ((B:Int)+C+ad)=(mulC wB a b i (j+1):Nat):=by rw[fP _ (by omega) (by omega)];omega
   simp[d,c,G,H,Z];refine c2 J ?_;simp[I,A,w,s,o,aa,aI,bG];refine c3 ab ?_;simp[w1];refine c3 K ?_;simp[I,A,w,s,o,hs,w1,af,W,aa,aI,bG];exact rd (j+1) (show j+1<=m by omega)
  have:j=m:=by omega
  subst this;have Y:a6.wrap ((i:Int)+j)=(i:Int)+j:=aO _ (by omega) (by omega);have al:i+j<n+j:=by omega
  have o:=nv (dt wB a b i j) al;have hs:=p0 (n:=n+j) (i:=i+j) (f:=dt wB a b i j) (g:=dt wB a b (i+1) 0) (v:=mulC wB a b i j) (by rw[pR,Jy bp q]) (fun k hk=>by rw[pR,Mw bp q hk]);simp[c,Y,A,w,hi,al,o,hs,V,aa,aI,bG];exact rd (i+1) (show i+1<=n by omega)
 have:i=n:=by omega
 subst this;have R:ch (i+m) (dt wB a b i 0)=ch (i+m) (ae wB (a*b)):=CM fun k=>by rw[pR,cx t]
 simp[d,R,E];refine cp e (by simp[u];exact⟨rfl,rfl⟩) ?_ (h1:=by simp[eW,be,u]);simp;exact bE.refl _
end Go.ak
