/- The program's functions have the code that the walks speak of. Conditions: none. -/
import Derived.Test.YtcmplhmbmmclaaaGreatEvP
import Derived.Test.YtcmplhmbmmclaaaGreatProg
import Derived.KernelRfl
set_option linter.unusedVariables false
namespace Go.Proofs.YtcmplhmbmmclaaaGreat.turnTells
set_option maxRecDepth 1000000
noncomputable abbrev orc : Go.Ev.Orc := Go.Ev.orcOf (Go.Ev.C8 fun n => n)
theorem fnk {f : FuncId} {nt : Nat} {rs : List ResultVar} {ac : Go.Ev.AC} {fn : Func} (h1 : Nat.beq f 34 = false) (h2 : Nat.beq f 201 = false) (h : Tryz.prog.funcs[f]? = some fn) (h3 : fn.body.map (Go.Ev.cc Tryz.prog fn.ntmps) = some ac) (h4 : fn.ntmps = nt) (h5 : fn.results.toList = rs) (h6 : (fn.name == "runtime.NumGoroutine") = false) : Go.Ev.FnK Tryz.prog orc f nt rs ac :=
  ⟨fun _ _ => Go.Ev.orc8_none (fun e => by rw [e] at h1; cases h1) (fun e => by rw [e] at h2; cases h2) _ _, fn, h, h3, h4, h5, h6⟩
theorem myBase : Go.Ev.Base Tryz.prog orc (fun n => n) fun n => n where
  f91 := fnk (by kernel_rfl) (by kernel_rfl) Tryz.func91 (by kernel_rfl) rfl rfl (by kernel_rfl)
  f138 := fnk (by kernel_rfl) (by kernel_rfl) Tryz.func138 (by kernel_rfl) rfl rfl (by kernel_rfl)
  f106 := fnk (by kernel_rfl) (by kernel_rfl) Tryz.func106 (by kernel_rfl) rfl rfl (by kernel_rfl)
  f158 := fnk (by kernel_rfl) (by kernel_rfl) Tryz.func158 (by kernel_rfl) rfl rfl (by kernel_rfl)
  f159 := fnk (by kernel_rfl) (by kernel_rfl) Tryz.func159 (by kernel_rfl) rfl rfl (by kernel_rfl)
  f160 := fnk (by kernel_rfl) (by kernel_rfl) Tryz.func160 (by kernel_rfl) rfl rfl (by kernel_rfl)
  f161 := fnk (by kernel_rfl) (by kernel_rfl) Tryz.func161 (by kernel_rfl) rfl rfl (by kernel_rfl)
  f162 := fnk (by kernel_rfl) (by kernel_rfl) Tryz.func162 (by kernel_rfl) rfl rfl (by kernel_rfl)
  f51 := fnk (by kernel_rfl) (by kernel_rfl) Tryz.func51 (by kernel_rfl) rfl rfl (by kernel_rfl)
  f157 := fnk (by kernel_rfl) (by kernel_rfl) Tryz.func157 (by kernel_rfl) rfl rfl (by kernel_rfl)
  f163 := fnk (by kernel_rfl) (by kernel_rfl) Tryz.func163 (by kernel_rfl) rfl rfl (by kernel_rfl)
  f200 := fnk (by kernel_rfl) (by kernel_rfl) Tryz.func200 (by kernel_rfl) rfl rfl (by kernel_rfl)
  f107 := fnk (by kernel_rfl) (by kernel_rfl) Tryz.func107 (by kernel_rfl) rfl rfl (by kernel_rfl)
  f105 := fnk (by kernel_rfl) (by kernel_rfl) Tryz.func105 (by kernel_rfl) rfl rfl (by kernel_rfl)
  f136 := fnk (by kernel_rfl) (by kernel_rfl) Tryz.func136 (by kernel_rfl) rfl rfl (by kernel_rfl)
  f137 := fnk (by kernel_rfl) (by kernel_rfl) Tryz.func137 (by kernel_rfl) rfl rfl (by kernel_rfl)
  f164 := fnk (by kernel_rfl) (by kernel_rfl) Tryz.func164 (by kernel_rfl) rfl rfl (by kernel_rfl)
  f203 := fnk (by kernel_rfl) (by kernel_rfl) Tryz.func203 (by kernel_rfl) rfl rfl (by kernel_rfl)
  f108 := fnk (by kernel_rfl) (by kernel_rfl) Tryz.func108 (by kernel_rfl) rfl rfl (by kernel_rfl)
  f165 := fnk (by kernel_rfl) (by kernel_rfl) Tryz.func165 (by kernel_rfl) rfl rfl (by kernel_rfl)
  f15 := fnk (by kernel_rfl) (by kernel_rfl) Tryz.func15 (by kernel_rfl) rfl rfl (by kernel_rfl)
  f14 := fnk (by kernel_rfl) (by kernel_rfl) Tryz.func14 (by kernel_rfl) rfl rfl (by kernel_rfl)
  f24 := fnk (by kernel_rfl) (by kernel_rfl) Tryz.func24 (by kernel_rfl) rfl rfl (by kernel_rfl)
  f52 := fnk (by kernel_rfl) (by kernel_rfl) Tryz.func52 (by kernel_rfl) rfl rfl (by kernel_rfl)
  f53 := fnk (by kernel_rfl) (by kernel_rfl) Tryz.func53 (by kernel_rfl) rfl rfl (by kernel_rfl)
  f265 := fnk (by kernel_rfl) (by kernel_rfl) Tryz.func265 (by kernel_rfl) rfl rfl (by kernel_rfl)
  f202 := fnk (by kernel_rfl) (by kernel_rfl) Tryz.func202 (by kernel_rfl) rfl rfl (by kernel_rfl)
  f224 := fnk (by kernel_rfl) (by kernel_rfl) Tryz.func224 (by kernel_rfl) rfl rfl (by kernel_rfl)
  f225 := fnk (by kernel_rfl) (by kernel_rfl) Tryz.func225 (by kernel_rfl) rfl rfl (by kernel_rfl)
  f226 := fnk (by kernel_rfl) (by kernel_rfl) Tryz.func226 (by kernel_rfl) rfl rfl (by kernel_rfl)
  f247 := fnk (by kernel_rfl) (by kernel_rfl) Tryz.func247 (by kernel_rfl) rfl rfl (by kernel_rfl)
  f263 := fnk (by kernel_rfl) (by kernel_rfl) Tryz.func263 (by kernel_rfl) rfl rfl (by kernel_rfl)
  t41 := ⟨by kernel_rfl, by kernel_rfl⟩
  t45 := ⟨by kernel_rfl, by kernel_rfl⟩
  t48 := ⟨by kernel_rfl, by kernel_rfl⟩
  t50 := ⟨by kernel_rfl, by kernel_rfl⟩
  t290 := ⟨by kernel_rfl, by kernel_rfl⟩
theorem myBaseC : Go.Ev.BaseC Tryz.prog orc (fun n => n) fun n => n where
  f30 := fnk (by kernel_rfl) (by kernel_rfl) Tryz.func30 (by kernel_rfl) rfl rfl (by kernel_rfl)
  f36 := fnk (by kernel_rfl) (by kernel_rfl) Tryz.func36 (by kernel_rfl) rfl rfl (by kernel_rfl)
  f37 := fnk (by kernel_rfl) (by kernel_rfl) Tryz.func37 (by kernel_rfl) rfl rfl (by kernel_rfl)
  f43 := fnk (by kernel_rfl) (by kernel_rfl) Tryz.func43 (by kernel_rfl) rfl rfl (by kernel_rfl)
  f77 := fnk (by kernel_rfl) (by kernel_rfl) Tryz.func77 (by kernel_rfl) rfl rfl (by kernel_rfl)
  f90 := fnk (by kernel_rfl) (by kernel_rfl) Tryz.func90 (by kernel_rfl) rfl rfl (by kernel_rfl)
  f121 := fnk (by kernel_rfl) (by kernel_rfl) Tryz.func121 (by kernel_rfl) rfl rfl (by kernel_rfl)
  f122 := fnk (by kernel_rfl) (by kernel_rfl) Tryz.func122 (by kernel_rfl) rfl rfl (by kernel_rfl)
  f123 := fnk (by kernel_rfl) (by kernel_rfl) Tryz.func123 (by kernel_rfl) rfl rfl (by kernel_rfl)
  f167 := fnk (by kernel_rfl) (by kernel_rfl) Tryz.func167 (by kernel_rfl) rfl rfl (by kernel_rfl)
  f168 := fnk (by kernel_rfl) (by kernel_rfl) Tryz.func168 (by kernel_rfl) rfl rfl (by kernel_rfl)
  f169 := fnk (by kernel_rfl) (by kernel_rfl) Tryz.func169 (by kernel_rfl) rfl rfl (by kernel_rfl)
  f170 := fnk (by kernel_rfl) (by kernel_rfl) Tryz.func170 (by kernel_rfl) rfl rfl (by kernel_rfl)
  f171 := fnk (by kernel_rfl) (by kernel_rfl) Tryz.func171 (by kernel_rfl) rfl rfl (by kernel_rfl)
  f172 := fnk (by kernel_rfl) (by kernel_rfl) Tryz.func172 (by kernel_rfl) rfl rfl (by kernel_rfl)
  f173 := fnk (by kernel_rfl) (by kernel_rfl) Tryz.func173 (by kernel_rfl) rfl rfl (by kernel_rfl)
  f174 := fnk (by kernel_rfl) (by kernel_rfl) Tryz.func174 (by kernel_rfl) rfl rfl (by kernel_rfl)
  f175 := fnk (by kernel_rfl) (by kernel_rfl) Tryz.func175 (by kernel_rfl) rfl rfl (by kernel_rfl)
  f204 := fnk (by kernel_rfl) (by kernel_rfl) Tryz.func204 (by kernel_rfl) rfl rfl (by kernel_rfl)
  f205 := fnk (by kernel_rfl) (by kernel_rfl) Tryz.func205 (by kernel_rfl) rfl rfl (by kernel_rfl)
  f206 := fnk (by kernel_rfl) (by kernel_rfl) Tryz.func206 (by kernel_rfl) rfl rfl (by kernel_rfl)
  f207 := fnk (by kernel_rfl) (by kernel_rfl) Tryz.func207 (by kernel_rfl) rfl rfl (by kernel_rfl)
  f237 := fnk (by kernel_rfl) (by kernel_rfl) Tryz.func237 (by kernel_rfl) rfl rfl (by kernel_rfl)
theorem myBaseG : Go.Ev.BaseG Tryz.prog orc (fun n => n) fun n => n where
  f21 := fnk (by kernel_rfl) (by kernel_rfl) Tryz.func21 (by kernel_rfl) rfl rfl (by kernel_rfl)
  f347 := fnk (by kernel_rfl) (by kernel_rfl) Tryz.func347 (by kernel_rfl) rfl rfl (by kernel_rfl)
  f26 := fnk (by kernel_rfl) (by kernel_rfl) Tryz.func26 (by kernel_rfl) rfl rfl (by kernel_rfl)
  f50 := fnk (by kernel_rfl) (by kernel_rfl) Tryz.func50 (by kernel_rfl) rfl rfl (by kernel_rfl)
  f71 := fnk (by kernel_rfl) (by kernel_rfl) Tryz.func71 (by kernel_rfl) rfl rfl (by kernel_rfl)
  f72 := fnk (by kernel_rfl) (by kernel_rfl) Tryz.func72 (by kernel_rfl) rfl rfl (by kernel_rfl)
  f73 := fnk (by kernel_rfl) (by kernel_rfl) Tryz.func73 (by kernel_rfl) rfl rfl (by kernel_rfl)
  f74 := fnk (by kernel_rfl) (by kernel_rfl) Tryz.func74 (by kernel_rfl) rfl rfl (by kernel_rfl)
  f75 := fnk (by kernel_rfl) (by kernel_rfl) Tryz.func75 (by kernel_rfl) rfl rfl (by kernel_rfl)
  f114 := fnk (by kernel_rfl) (by kernel_rfl) Tryz.func114 (by kernel_rfl) rfl rfl (by kernel_rfl)
  f115 := fnk (by kernel_rfl) (by kernel_rfl) Tryz.func115 (by kernel_rfl) rfl rfl (by kernel_rfl)
  f116 := fnk (by kernel_rfl) (by kernel_rfl) Tryz.func116 (by kernel_rfl) rfl rfl (by kernel_rfl)
  f117 := fnk (by kernel_rfl) (by kernel_rfl) Tryz.func117 (by kernel_rfl) rfl rfl (by kernel_rfl)
  f118 := fnk (by kernel_rfl) (by kernel_rfl) Tryz.func118 (by kernel_rfl) rfl rfl (by kernel_rfl)
  f119 := fnk (by kernel_rfl) (by kernel_rfl) Tryz.func119 (by kernel_rfl) rfl rfl (by kernel_rfl)
  f166 := fnk (by kernel_rfl) (by kernel_rfl) Tryz.func166 (by kernel_rfl) rfl rfl (by kernel_rfl)
  f344 := fnk (by kernel_rfl) (by kernel_rfl) Tryz.func344 (by kernel_rfl) rfl rfl (by kernel_rfl)
theorem myBaseI : Go.Ev.BaseI Tryz.prog orc (fun n => n) fun n => n where
theorem myBaseB : Go.Ev.BaseB Tryz.prog orc (fun n => n) fun n => n where
  f58 := fnk (by kernel_rfl) (by kernel_rfl) Tryz.func58 (by kernel_rfl) rfl rfl (by kernel_rfl)
theorem myBaseT : Go.Ev.BaseT Tryz.prog orc (fun n => n) fun n => n where
  f271 := fnk (by kernel_rfl) (by kernel_rfl) Tryz.func271 (by kernel_rfl) rfl rfl (by kernel_rfl)
  f280 := fnk (by kernel_rfl) (by kernel_rfl) Tryz.func280 (by kernel_rfl) rfl rfl (by kernel_rfl)
theorem myBaseL : Go.Ev.BaseL Tryz.prog orc (fun n => n) fun n => n where
theorem myBaseU : Go.Ev.BaseU Tryz.prog orc (fun n => n) fun n => n where
  f38 := fnk (by kernel_rfl) (by kernel_rfl) Tryz.func38 (by kernel_rfl) rfl rfl (by kernel_rfl)
  f92 := fnk (by kernel_rfl) (by kernel_rfl) Tryz.func92 (by kernel_rfl) rfl rfl (by kernel_rfl)
  f93 := fnk (by kernel_rfl) (by kernel_rfl) Tryz.func93 (by kernel_rfl) rfl rfl (by kernel_rfl)
  f94 := fnk (by kernel_rfl) (by kernel_rfl) Tryz.func94 (by kernel_rfl) rfl rfl (by kernel_rfl)
  f95 := fnk (by kernel_rfl) (by kernel_rfl) Tryz.func95 (by kernel_rfl) rfl rfl (by kernel_rfl)
  f139 := fnk (by kernel_rfl) (by kernel_rfl) Tryz.func139 (by kernel_rfl) rfl rfl (by kernel_rfl)
  f140 := fnk (by kernel_rfl) (by kernel_rfl) Tryz.func140 (by kernel_rfl) rfl rfl (by kernel_rfl)
  f141 := fnk (by kernel_rfl) (by kernel_rfl) Tryz.func141 (by kernel_rfl) rfl rfl (by kernel_rfl)
  f142 := fnk (by kernel_rfl) (by kernel_rfl) Tryz.func142 (by kernel_rfl) rfl rfl (by kernel_rfl)
  f143 := fnk (by kernel_rfl) (by kernel_rfl) Tryz.func143 (by kernel_rfl) rfl rfl (by kernel_rfl)
  f144 := fnk (by kernel_rfl) (by kernel_rfl) Tryz.func144 (by kernel_rfl) rfl rfl (by kernel_rfl)
  f145 := fnk (by kernel_rfl) (by kernel_rfl) Tryz.func145 (by kernel_rfl) rfl rfl (by kernel_rfl)
theorem myBaseV : Go.Ev.BaseV Tryz.prog orc (fun n => n) fun n => n where
theorem myBaseW : Go.Ev.BaseW Tryz.prog orc (fun n => n) fun n => n where
  f39 := fnk (by kernel_rfl) (by kernel_rfl) Tryz.func39 (by kernel_rfl) rfl rfl (by kernel_rfl)
  f40 := fnk (by kernel_rfl) (by kernel_rfl) Tryz.func40 (by kernel_rfl) rfl rfl (by kernel_rfl)
  f96 := fnk (by kernel_rfl) (by kernel_rfl) Tryz.func96 (by kernel_rfl) rfl rfl (by kernel_rfl)
theorem myBaseM : Go.Ev.BaseM Tryz.prog orc (fun n => n) fun n => n where
  f25 := fnk (by kernel_rfl) (by kernel_rfl) Tryz.func25 (by kernel_rfl) rfl rfl (by kernel_rfl)
theorem myTyC : Go.Ev.TyC Tryz.prog fun n => n where
  t71 := ⟨by kernel_rfl, by kernel_rfl⟩
  t99 := ⟨by kernel_rfl, by kernel_rfl⟩
  t107 := ⟨by kernel_rfl, by kernel_rfl⟩
  t264 := ⟨by kernel_rfl, by kernel_rfl⟩
  t294 := ⟨by kernel_rfl, by kernel_rfl⟩
theorem lawU : Go.Ev.LawU Tryz.prog orc (fun n => n) fun n => n where
  hB := myBase
  hC := myBaseC
  hG := myBaseG
  hT := myTyC
  hM := ⟨by kernel_rfl, by kernel_rfl, by kernel_rfl, by kernel_rfl, by kernel_rfl, by kernel_rfl, by kernel_rfl⟩
  hU := myBaseU
  hI := myBaseB
  info := by kernel_rfl
  t128 := ⟨by kernel_rfl, by kernel_rfl⟩
  hS := myBaseT
  hL := myBaseL
  hV := myBaseV
  hJ := myBaseI
theorem lawW : Go.Ev.LawW Tryz.prog orc (fun n => n) fun n => n := ⟨lawU, myBaseW, myBaseM, ⟨by kernel_rfl, by kernel_rfl⟩⟩
end Go.Proofs.YtcmplhmbmmclaaaGreat.turnTells
