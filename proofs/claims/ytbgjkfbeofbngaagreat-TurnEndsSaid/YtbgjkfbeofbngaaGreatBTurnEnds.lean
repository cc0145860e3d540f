/- The program's functions have the code that the walks speak of. Conditions: none. -/
import Derived.Test.YtbgjkfbeofbngaaGreatEvO
import Derived.Test.YtbgjkfbeofbngaaGreatProg
import Derived.KernelRfl
set_option linter.unusedVariables false
namespace Go.Proofs.YtbgjkfbeofbngaaGreat.turnEnds
open Go.Ev
set_option maxRecDepth 1000000
def fF (n:Nat):Nat:=fNo.getD n 0
def fT (n:Nat):Nat:=((tNo.find? λp=>Nat.beq p.1 n).map Prod.snd).getD 0
noncomputable abbrev orc:Orc:=orcOf (C13 fF)
theorem fnk {f g:FuncId} {nt:Nat} {rs:List ResultVar} {ac:AC} {fn:Func} (h:Tryz.prog.funcs[g]?=some fn) (e:Nat.beq f g=true:=by kernel_rfl) (h1:Nat.beq g 42=false:=by kernel_rfl) (h2:Nat.beq g 253=false:=by kernel_rfl) (h3:fn.body.map (cc Tryz.prog fn.ntmps)=some ac:=by kernel_rfl) (h4:fn.ntmps=nt:=by rfl) (h5:fn.results.toList=rs:=by rfl) (h6:(fn.name == "runtime.NumGoroutine")=false:=by kernel_rfl):FnK Tryz.prog orc f nt rs ac:=by
 have e:f=g:=Nat.eq_of_beq_eq_true e
 subst e
 exact⟨λ_ _=>orc13_none (λe=>by rw[e]at h1;exact Bool.noConfusion (h1.symm.trans (show Nat.beq (fF 34) 42=true by kernel_rfl))) (λe=>by rw[e]at h2;exact Bool.noConfusion (h2.symm.trans (show Nat.beq (fF 201) 253=true by kernel_rfl))) _ _,fn,h,h3,h4,h5,h6⟩
theorem myBase:Base Tryz.prog orc fF fT:=⟨fnk Tryz.func58,fnk Tryz.func137,fnk Tryz.func136,fnk Tryz.func217,fnk Tryz.func218,fnk Tryz.func219,fnk Tryz.func220,fnk Tryz.func221,fnk Tryz.func129,fnk Tryz.func216,fnk Tryz.func168,fnk Tryz.func257,fnk Tryz.func160,fnk Tryz.func189,fnk Tryz.func161,fnk Tryz.func162,fnk Tryz.func320,fnk Tryz.func351,fnk Tryz.func352,fnk Tryz.func350,fnk Tryz.func245,fnk Tryz.func353,fnk Tryz.func210,fnk Tryz.func255,fnk Tryz.func292,fnk Tryz.func154,fnk Tryz.func211,fnk Tryz.func23,fnk Tryz.func26,fnk Tryz.func28,fnk Tryz.func75,fnk Tryz.func69,fnk Tryz.func323,fnk Tryz.func254,fnk Tryz.func285,fnk Tryz.func286,fnk Tryz.func287,fnk Tryz.func305,fnk Tryz.func321,⟨by kernel_rfl,by kernel_rfl⟩,⟨by kernel_rfl,by kernel_rfl⟩,⟨by kernel_rfl,by kernel_rfl⟩,⟨by kernel_rfl,by kernel_rfl⟩,⟨by kernel_rfl,by kernel_rfl⟩⟩
theorem myBaseC:BaseC Tryz.prog orc fF fT:=⟨fnk Tryz.func17,fnk Tryz.func31,fnk Tryz.func13,fnk Tryz.func19,fnk Tryz.func61,fnk Tryz.func77,fnk Tryz.func139,fnk Tryz.func140,fnk Tryz.func141,fnk Tryz.func197,fnk Tryz.func198,fnk Tryz.func199,fnk Tryz.func200,fnk Tryz.func201,fnk Tryz.func202,fnk Tryz.func203,fnk Tryz.func204,fnk Tryz.func205,fnk Tryz.func248,fnk Tryz.func249,fnk Tryz.func250,fnk Tryz.func251,fnk Tryz.func279,fnk Tryz.func280⟩
theorem myBaseG:BaseG Tryz.prog orc fF fT:=⟨fnk Tryz.func404,fnk Tryz.func128,fnk Tryz.func402⟩
theorem myBaseI:BaseI Tryz.prog orc fF fT:=⟨fnk Tryz.func333,fnk Tryz.func334⟩
theorem myBaseB:BaseB Tryz.prog orc fF fT:=⟨fnk Tryz.func30,fnk Tryz.func403⟩
theorem myBaseS:BaseS Tryz.prog orc fF fT:=⟨⟩
theorem myBaseT:BaseT Tryz.prog orc fF fT:=⟨fnk Tryz.func329,fnk Tryz.func338,fnk Tryz.func339⟩
theorem myBaseL:BaseL Tryz.prog orc fF fT:=⟨fnk Tryz.func322,fnk Tryz.func327⟩
theorem myBaseU:BaseU Tryz.prog orc fF fT:=⟨⟩
theorem myBaseX:BaseX Tryz.prog orc fF fT:=⟨fnk Tryz.func306,fnk Tryz.func307,fnk Tryz.func308,fnk Tryz.func309⟩
theorem myBaseY:BaseY Tryz.prog orc fF fT:=⟨fnk Tryz.func56,fnk Tryz.func135⟩
theorem myTyC:TyC Tryz.prog fT:=⟨⟨by kernel_rfl,by kernel_rfl⟩,⟨by kernel_rfl,by kernel_rfl⟩,⟨by kernel_rfl,by kernel_rfl⟩,⟨by kernel_rfl,by kernel_rfl⟩,⟨by kernel_rfl,by kernel_rfl⟩⟩
theorem myBaseM:BaseM Tryz.prog orc fF fT:=⟨fnk Tryz.func318⟩
theorem myBaseQ:BaseQ Tryz.prog orc fF fT:=⟨fnk Tryz.func78,fnk Tryz.func60,fnk Tryz.func138,fnk Tryz.func147,fnk Tryz.func193,fnk Tryz.func194,fnk Tryz.func195,fnk Tryz.func196,fnk Tryz.func207,fnk Tryz.func247,fnk Tryz.func252,fnk Tryz.func50,fnk Tryz.func132,fnk Tryz.func133,fnk Tryz.func134,fnk Tryz.func192⟩
theorem myBaseR:BaseR Tryz.prog orc fF fT:=⟨fnk Tryz.func312,fnk Tryz.func325,fnk Tryz.func328,fnk Tryz.func330⟩
theorem myBaseP:BaseP Tryz.prog orc fF fT:=⟨fnk Tryz.func18,fnk Tryz.func62,fnk Tryz.func142⟩
theorem myBaseE:BaseE Tryz.prog orc fF fT:=⟨fnk Tryz.func44,fnk Tryz.func108,fnk Tryz.func111,fnk Tryz.func112,fnk Tryz.func113,fnk Tryz.func114,fnk Tryz.func180,fnk Tryz.func115,fnk Tryz.func181,fnk Tryz.func45,fnk Tryz.func116,fnk Tryz.func117,fnk Tryz.func118,fnk Tryz.func119,fnk Tryz.func120,fnk Tryz.func121,fnk Tryz.func182,fnk Tryz.func183⟩
theorem nenv:NEnv Tryz.prog orc fF fT (fT 26) where
 hB:=myBase
 hC:=myBaseC
 hG:=myBaseG
 hT:=myTyC
 hM:=⟨by kernel_rfl,by kernel_rfl,by kernel_rfl,by kernel_rfl,by kernel_rfl,by kernel_rfl,by kernel_rfl⟩
 hU:=myBaseU
 hI:=myBaseB
 info:=by kernel_rfl
 t128:=⟨by kernel_rfl,by kernel_rfl⟩
 hQ:=myBaseQ
 hv:=by kernel_rfl
 bm:=⟨by kernel_rfl,by kernel_rfl,by kernel_rfl,by kernel_rfl,by kernel_rfl,by kernel_rfl⟩
 hS:=myBaseS
 hL:=myBaseL
 it:=myBaseI
 hR:=myBaseR
 hX:=myBaseX
 mv:=myBaseM
 hV:=myBaseE
 hW:=myBaseT
 hY:=myBaseY
 hH:=myBaseP
 t3:=⟨by kernel_rfl,by kernel_rfl⟩
 t4:=⟨by kernel_rfl,by kernel_rfl⟩
 t24:=⟨by kernel_rfl,by kernel_rfl⟩
 says:=says13 (by decide)
end Go.Proofs.YtbgjkfbeofbngaaGreat.turnEnds
