/- The program's functions have the code that the walks speak of. Conditions: none. -/
import Derived.Test.YtbgjkfbeofbngaaGreatEvN
import Derived.Test.YtbgjkfbeofbngaaGreatProg
import Derived.KernelRfl
set_option linter.unusedVariables false
namespace Go.Proofs.YtbgjkfbeofbngaaGreat.combatSums
set_option maxRecDepth 1000000
/-- The numbers of functions and of types. -/
def fF (n:Nat):Nat:=[0,0,0,0,0,0,0,0,0,0,0,0,0,0,26,23,0,0,0,0,33,38,0,0,28,29,163,0,0,0,17,10,14,20,0,0,31,13,106,0,0,0,0,19,0,0,0,0,0,0,128,129,75,69,0,0,0,0,30,0,0,0,0,150,0,0,0,0,0,0,0,222,223,224,225,226,0,61,0,56,55,0,12,15,16,18,0,0,0,0,77,58,175,176,177,178,0,0,0,0,0,0,0,0,0,189,136,160,154,78,0,0,0,209,258,259,260,261,262,263,0,139,140,141,135,54,57,59,60,62,63,64,0,0,0,0,161,162,137,233,234,235,236,237,238,239,0,0,0,0,0,0,0,0,0,245,246,216,217,218,219,220,221,168,210,211,295,197,198,199,200,201,202,203,204,205,138,142,143,144,145,146,147,148,0,0,0,0,0,0,0,0,0,0,0,0,0,0,0,0,257,253,254,255,248,249,250,251,193,194,195,196,206,207,0,0,0,0,0,0,0,0,0,0,285,286,287,288,289,290,291,292,293,275,276,277,278,279,280,247,252,0,0,0,0,0,0,305,306,307,308,309,310,311,312,313,314,315,316,317,318,319,320,321,322,323,324,325,326,327,328,329,330,331,332,333,334,335,336,337,338,339,340,341,342,0,0,0,0,0,0,0,350,351,352,353,354,0,0,0,0,0,0,0,0,0,0,0,0,0,0,0,0,0,0,0,0,0,0,0,0,0,0,0,0,0,0,0,0,0,0,0,0,0,0,0,0,0,0,0,0,0,0,0,402,403,50,404,132,133,134,192,0,0,11].getD n 0
def fT (n:Nat):Nat:=[0,0,0,3,4,0,0,0,0,0,0,0,0,0,0,0,0,0,0,0,0,0,0,0,95,0,24,0,0,0,0,0,0,0,0,0,0,0,0,0,0,69,0,0,0,33,0,0,57,0,59,0,0,0,0,0,0,0,0,0,0,0,0,0,0,0,107,0,0,0,0,41,0,0,0,0,0,0,0,0,0,0,0,0,0,0,0,0,0,0,0,0,0,0,0,0,0,0,0,116,0,0,0,0,0,0,0,48,0,0,0,0,0,0,0,0,0,0,0,0,0,0,0,0,0,0,0,0,75,0,0,0,0,0,0,0,0,0,0,0,0,0,0,0,0,0,0,0,0,0,0,0,0,0,0,0,0,0,0,0,0,0,0,0,0,0,0,0,0,0,0,0,0,0,0,0,0,0,0,0,0,0,0,0,0,0,0,0,0,0,0,0,0,0,0,0,0,0,0,0,0,0,0,0,0,0,0,0,0,0,0,0,0,0,0,0,0,0,0,0,0,0,0,0,0,0,0,0,0,0,0,0,0,0,0,0,0,0,0,0,0,0,0,0,0,0,0,0,0,0,0,0,0,0,0,0,0,0,0,0,0,0,0,0,279,0,0,0,0,0,0,0,0,0,0,0,0,0,0,0,0,0,0,0,0,0,0,0,0,0,339,0,0,0,332].getD n 0
noncomputable abbrev orc:Go.Ev.Orc:=Go.Ev.orcOf (Go.Ev.C10 fF)
theorem fnk {f g:FuncId} {nt:Nat} {rs:List ResultVar} {ac:Go.Ev.AC} {fn:Func} (h:Tryz.prog.funcs[g]?=some fn) (e:Nat.beq f g=true:=by kernel_rfl) (h1:Nat.beq g 20=false:=by kernel_rfl) (h2:Nat.beq g 253=false:=by kernel_rfl) (h3:fn.body.map (Go.Ev.cc Tryz.prog fn.ntmps)=some ac:=by kernel_rfl) (h4:fn.ntmps=nt:=by rfl) (h5:fn.results.toList=rs:=by rfl) (h6:(fn.name == "runtime.NumGoroutine")=false:=by kernel_rfl):Go.Ev.FnK Tryz.prog orc f nt rs ac:=by
 have e:f=g:=Nat.eq_of_beq_eq_true e
 subst e
 exact⟨λ_ _=>Go.Ev.orc10_none (λe=>by rw[e]at h1;exact Bool.noConfusion (h1.symm.trans (show Nat.beq (fF 33) 20=true by kernel_rfl))) (λe=>by rw[e]at h2;exact Bool.noConfusion (h2.symm.trans (show Nat.beq (fF 201) 253=true by kernel_rfl))) _ _,fn,h,h3,h4,h5,h6⟩
theorem myBase:Go.Ev.Base Tryz.prog orc fF fT where
 f91:=fnk Tryz.func58
 f138:=fnk Tryz.func137
 f106:=fnk Tryz.func136
 f158:=fnk Tryz.func217
 f159:=fnk Tryz.func218
 f160:=fnk Tryz.func219
 f161:=fnk Tryz.func220
 f162:=fnk Tryz.func221
 f51:=fnk Tryz.func129
 f157:=fnk Tryz.func216
 f163:=fnk Tryz.func168
 f200:=fnk Tryz.func257
 f107:=fnk Tryz.func160
 f105:=fnk Tryz.func189
 f136:=fnk Tryz.func161
 f137:=fnk Tryz.func162
 f164:=fnk Tryz.func210
 f203:=fnk Tryz.func255
 f231:=fnk Tryz.func292
 f108:=fnk Tryz.func154
 f165:=fnk Tryz.func211
 f15:=fnk Tryz.func23
 f14:=fnk Tryz.func26
 f24:=fnk Tryz.func28
 f52:=fnk Tryz.func75
 f53:=fnk Tryz.func69
 f265:=fnk Tryz.func323
 f202:=fnk Tryz.func254
 f224:=fnk Tryz.func285
 f225:=fnk Tryz.func286
 f226:=fnk Tryz.func287
 f247:=fnk Tryz.func305
 f263:=fnk Tryz.func321
 t41:=⟨by kernel_rfl,by kernel_rfl⟩
 t45:=⟨by kernel_rfl,by kernel_rfl⟩
 t48:=⟨by kernel_rfl,by kernel_rfl⟩
 t50:=⟨by kernel_rfl,by kernel_rfl⟩
 t290:=⟨by kernel_rfl,by kernel_rfl⟩
theorem myBaseC:Go.Ev.BaseC Tryz.prog orc fF fT where
 f30:=fnk Tryz.func17
 f36:=fnk Tryz.func31
 f37:=fnk Tryz.func13
 f43:=fnk Tryz.func19
 f77:=fnk Tryz.func61
 f90:=fnk Tryz.func77
 f121:=fnk Tryz.func139
 f122:=fnk Tryz.func140
 f123:=fnk Tryz.func141
 f167:=fnk Tryz.func197
 f168:=fnk Tryz.func198
 f170:=fnk Tryz.func200
 f172:=fnk Tryz.func202
 f174:=fnk Tryz.func204
 f204:=fnk Tryz.func248
 f206:=fnk Tryz.func250
 f207:=fnk Tryz.func251
 f237:=fnk Tryz.func279
theorem myBaseG:Go.Ev.BaseG Tryz.prog orc fF fT where
 f347:=fnk Tryz.func404
 f50:=fnk Tryz.func128
 f344:=fnk Tryz.func402
theorem myBaseI:Go.Ev.BaseI Tryz.prog orc fF fT where
theorem myBaseB:Go.Ev.BaseB Tryz.prog orc fF fT where
 f58:=fnk Tryz.func30
theorem myBaseT:Go.Ev.BaseT Tryz.prog orc fF fT where
theorem myBaseL:Go.Ev.BaseL Tryz.prog orc fF fT where
 f264:=fnk Tryz.func322
theorem myBaseU:Go.Ev.BaseU Tryz.prog orc fF fT where
theorem myBaseV:Go.Ev.BaseV Tryz.prog orc fF fT where
theorem myBaseX:Go.Ev.BaseX Tryz.prog orc fF fT where
 f248:=fnk Tryz.func306
 f249:=fnk Tryz.func307
 f250:=fnk Tryz.func308
 f251:=fnk Tryz.func309
 f257:=fnk Tryz.func315
theorem myBaseY:Go.Ev.BaseY Tryz.prog orc fF fT where
 f32:=fnk Tryz.func14
 f79:=fnk Tryz.func56
 f80:=fnk Tryz.func55
 f124:=fnk Tryz.func135
theorem myTyC:Go.Ev.TyC Tryz.prog fT where
 t71:=⟨by kernel_rfl,by kernel_rfl⟩
 t99:=⟨by kernel_rfl,by kernel_rfl⟩
 t107:=⟨by kernel_rfl,by kernel_rfl⟩
theorem myBaseM:Go.Ev.BaseM Tryz.prog orc fF fT where
 f25:=fnk Tryz.func29
theorem myBaseK:Go.Ev.BaseK Tryz.prog orc fF fT where
 f354:=fnk Tryz.func11
theorem myBaseP:Go.Ev.BaseP Tryz.prog orc fF fT where
 f82:=fnk Tryz.func12
 f83:=fnk Tryz.func15
 f84:=fnk Tryz.func16
 f85:=fnk Tryz.func18
 f125:=fnk Tryz.func54
 f126:=fnk Tryz.func57
 f127:=fnk Tryz.func59
 f129:=fnk Tryz.func62
 f130:=fnk Tryz.func63
 f177:=fnk Tryz.func142
 f178:=fnk Tryz.func143
 f179:=fnk Tryz.func144
 f180:=fnk Tryz.func145
 f181:=fnk Tryz.func146
 f212:=fnk Tryz.func206
theorem myBaseQ:Go.Ev.BaseQ Tryz.prog orc fF fT where
 f109:=fnk Tryz.func78
 f128:=fnk Tryz.func60
 f131:=fnk Tryz.func64
 f176:=fnk Tryz.func138
 f182:=fnk Tryz.func147
 f211:=fnk Tryz.func196
 f213:=fnk Tryz.func207
 f239:=fnk Tryz.func247
 f240:=fnk Tryz.func252
 f346:=fnk Tryz.func50
 f348:=fnk Tryz.func132
 f349:=fnk Tryz.func133
 f350:=fnk Tryz.func134
 f351:=fnk Tryz.func192
theorem myBaseR:Go.Ev.BaseR Tryz.prog orc fF fT where
 f252:=fnk Tryz.func310
 f253:=fnk Tryz.func311
 f254:=fnk Tryz.func312
 f258:=fnk Tryz.func316
 f266:=fnk Tryz.func324
theorem lawU:Go.Ev.LawU Tryz.prog orc fF fT where
 hB:=myBase
 hC:=myBaseC
 hG:=myBaseG
 hT:=myTyC
 hM:=⟨by kernel_rfl,by kernel_rfl,by kernel_rfl,by kernel_rfl,by kernel_rfl,by kernel_rfl,by kernel_rfl⟩
 hU:=myBaseU
 hI:=myBaseB
 info:=by kernel_rfl
 t128:=⟨by kernel_rfl,by kernel_rfl⟩
 hS:=myBaseT
 hL:=myBaseL
 hV:=myBaseV
 hJ:=myBaseI
theorem lawF:Go.Ev.LawF Tryz.prog orc fF fT:=⟨lawU,myBaseX,myBaseY,λs=>Go.Ev.says10_known (by decide) (λH=>.w H) s⟩
theorem lawS:Go.Ev.LawS Tryz.prog orc fF fT where
 hW:=lawF
 hP:=myBaseP
 hQ:=myBaseQ
 hR:=myBaseR
 t3:=⟨by kernel_rfl,by kernel_rfl⟩
 t4:=⟨by kernel_rfl,by kernel_rfl⟩
 hv:=by kernel_rfl
 do_:=by kernel_rfl
end Go.Proofs.YtbgjkfbeofbngaaGreat.combatSums
