/- The program's functions have the code that the walks speak of. Conditions: none. -/
import Derived.Test.YtcmplhmbmmclaaaGreatEvR
import Derived.Test.YtcmplhmbmmclaaaGreatProg
import Derived.KernelRfl
set_option linter.unusedVariables false
namespace Go.Proofs.YtcmplhmbmmclaaaGreat.combatFlies
set_option maxRecDepth 1000000
noncomputable abbrev orc : Go.Ev.Orc := Go.Ev.orcOf (Go.Ev.C9 fun n => n)
theorem fnk {f : FuncId} {nt : Nat} {rs : List ResultVar} {ac : Go.Ev.AC} {fn : Func} (h1 : Nat.beq f 33 = false) (h2 : Nat.beq f 201 = false) (h : Tryz.prog.funcs[f]? = some fn) (h3 : fn.body.map (Go.Ev.cc Tryz.prog fn.ntmps) = some ac) (h4 : fn.ntmps = nt) (h5 : fn.results.toList = rs) (h6 : (fn.name == "runtime.NumGoroutine") = false) : Go.Ev.FnK Tryz.prog orc f nt rs ac :=
  ⟨fun _ _ => Go.Ev.orc9_none (fun e => by rw [e] at h1; cases h1) (fun e => by rw [e] at h2; cases h2) _ _, fn, h, h3, h4, h5, h6⟩
theorem myBase : Go.Ev.Base Tryz.prog orc (fun n => n) fun n => n where
  f91 := fnk (by kernel_rfl) (by kernel_rfl) Tryz.func91 (by kernel_rfl) rfl rfl (by kernel_rfl)
  f138 := fnk (by kernel_rfl) (by kernel_rfl) Tryz.func138 (by kernel_rfl) rfl rfl (by kernel_rfl)
  f106 := fnk (by kernel_rfl) (by kernel_rfl) Tryz.func106 (by kernel_rfl) rfl rfl (by kernel_rfl)
  f158 := fnk (by kernel_rfl) (by kernel_rfl) Tryz.func158 (by kernel_rfl) rfl rfl (by kernel_rfl)
  f159 := fnk (by kernel_rfl) (by kernel_rfl) Tryz.func159 (by kernel_rfl) rfl rfl (by kernel_rfl)
  f160 := fnk (by kernel_rfl) (by kernel_rfl) Tryz.func160 (by kernel_rfl) rfl rfl (by kernel_rfl)
  f161 := fnk (by kernel_rfl) (by kernel_rfl) Tryz.func161 (by kernel_rfl) rfl rfl (by kernel_rfl)
  f162 := fnk (by kernel_rfl) (by kernel_rfl) Tryz.func162 (by kernel_rfl) rfl rfl (by kernel_rfl)
  f51 := fnk (by kernel_rfl) (by kernel_rfl) Tryz.func51 (by kernel_rfl) rfl rfl (by kernel_rfl)
  f157 := fnk (by kernel_rfl) (by kernel_rfl) Tryz.func157 (by kernel_rfl) rfl rfl (by kernel_rfl)
  f163 := fnk (by kernel_rfl) (by kernel_rfl) Tryz.func163 (by kernel_rfl) rfl rfl (by kernel_rfl)
  f200 := fnk (by kernel_rfl) (by kernel_rfl) Tryz.func200 (by kernel_rfl) rfl rfl (by kernel_rfl)
  f107 := fnk (by kernel_rfl) (by kernel_rfl) Tryz.func107 (by kernel_rfl) rfl rfl (by kernel_rfl)
  f105 := fnk (by kernel_rfl) (by kernel_rfl) Tryz.func105 (by kernel_rfl) rfl rfl (by kernel_rfl)
  f136 := fnk (by kernel_rfl) (by kernel_rfl) Tryz.func136 (by kernel_rfl) rfl rfl (by kernel_rfl)
  f137 := fnk (by kernel_rfl) (by kernel_rfl) Tryz.func137 (by kernel_rfl) rfl rfl (by kernel_rfl)
  f164 := fnk (by kernel_rfl) (by kernel_rfl) Tryz.func164 (by kernel_rfl) rfl rfl (by kernel_rfl)
  f203 := fnk (by kernel_rfl) (by kernel_rfl) Tryz.func203 (by kernel_rfl) rfl rfl (by kernel_rfl)
  f231 := fnk (by kernel_rfl) (by kernel_rfl) Tryz.func231 (by kernel_rfl) rfl rfl (by kernel_rfl)
  f108 := fnk (by kernel_rfl) (by kernel_rfl) Tryz.func108 (by kernel_rfl) rfl rfl (by kernel_rfl)
  f165 := fnk (by kernel_rfl) (by kernel_rfl) Tryz.func165 (by kernel_rfl) rfl rfl (by kernel_rfl)
  f15 := fnk (by kernel_rfl) (by kernel_rfl) Tryz.func15 (by kernel_rfl) rfl rfl (by kernel_rfl)
  f14 := fnk (by kernel_rfl) (by kernel_rfl) Tryz.func14 (by kernel_rfl) rfl rfl (by kernel_rfl)
  f24 := fnk (by kernel_rfl) (by kernel_rfl) Tryz.func24 (by kernel_rfl) rfl rfl (by kernel_rfl)
  f52 := fnk (by kernel_rfl) (by kernel_rfl) Tryz.func52 (by kernel_rfl) rfl rfl (by kernel_rfl)
  f53 := fnk (by kernel_rfl) (by kernel_rfl) Tryz.func53 (by kernel_rfl) rfl rfl (by kernel_rfl)
  f265 := fnk (by kernel_rfl) (by kernel_rfl) Tryz.func265 (by kernel_rfl) rfl rfl (by kernel_rfl)
  f202 := fnk (by kernel_rfl) (by kernel_rfl) Tryz.func202 (by kernel_rfl) rfl rfl (by kernel_rfl)
  f224 := fnk (by kernel_rfl) (by kernel_rfl) Tryz.func224 (by kernel_rfl) rfl rfl (by kernel_rfl)
  f225 := fnk (by kernel_rfl) (by kernel_rfl) Tryz.func225 (by kernel_rfl) rfl rfl (by kernel_rfl)
  f226 := fnk (by kernel_rfl) (by kernel_rfl) Tryz.func226 (by kernel_rfl) rfl rfl (by kernel_rfl)
  f247 := fnk (by kernel_rfl) (by kernel_rfl) Tryz.func247 (by kernel_rfl) rfl rfl (by kernel_rfl)
  f263 := fnk (by kernel_rfl) (by kernel_rfl) Tryz.func263 (by kernel_rfl) rfl rfl (by kernel_rfl)
  t41 := ⟨by kernel_rfl, by kernel_rfl⟩
  t45 := ⟨by kernel_rfl, by kernel_rfl⟩
  t48 := ⟨by kernel_rfl, by kernel_rfl⟩
  t50 := ⟨by kernel_rfl, by kernel_rfl⟩
  t290 := ⟨by kernel_rfl, by kernel_rfl⟩
theorem myBaseC : Go.Ev.BaseC Tryz.prog orc (fun n => n) fun n => n where
  f30 := fnk (by kernel_rfl) (by kernel_rfl) Tryz.func30 (by kernel_rfl) rfl rfl (by kernel_rfl)
  f36 := fnk (by kernel_rfl) (by kernel_rfl) Tryz.func36 (by kernel_rfl) rfl rfl (by kernel_rfl)
  f37 := fnk (by kernel_rfl) (by kernel_rfl) Tryz.func37 (by kernel_rfl) rfl rfl (by kernel_rfl)
  f77 := fnk (by kernel_rfl) (by kernel_rfl) Tryz.func77 (by kernel_rfl) rfl rfl (by kernel_rfl)
  f90 := fnk (by kernel_rfl) (by kernel_rfl) Tryz.func90 (by kernel_rfl) rfl rfl (by kernel_rfl)
  f121 := fnk (by kernel_rfl) (by kernel_rfl) Tryz.func121 (by kernel_rfl) rfl rfl (by kernel_rfl)
  f122 := fnk (by kernel_rfl) (by kernel_rfl) Tryz.func122 (by kernel_rfl) rfl rfl (by kernel_rfl)
  f123 := fnk (by kernel_rfl) (by kernel_rfl) Tryz.func123 (by kernel_rfl) rfl rfl (by kernel_rfl)
  f167 := fnk (by kernel_rfl) (by kernel_rfl) Tryz.func167 (by kernel_rfl) rfl rfl (by kernel_rfl)
  f168 := fnk (by kernel_rfl) (by kernel_rfl) Tryz.func168 (by kernel_rfl) rfl rfl (by kernel_rfl)
  f169 := fnk (by kernel_rfl) (by kernel_rfl) Tryz.func169 (by kernel_rfl) rfl rfl (by kernel_rfl)
  f170 := fnk (by kernel_rfl) (by kernel_rfl) Tryz.func170 (by kernel_rfl) rfl rfl (by kernel_rfl)
  f171 := fnk (by kernel_rfl) (by kernel_rfl) Tryz.func171 (by kernel_rfl) rfl rfl (by kernel_rfl)
  f172 := fnk (by kernel_rfl) (by kernel_rfl) Tryz.func172 (by kernel_rfl) rfl rfl (by kernel_rfl)
  f173 := fnk (by kernel_rfl) (by kernel_rfl) Tryz.func173 (by kernel_rfl) rfl rfl (by kernel_rfl)
  f174 := fnk (by kernel_rfl) (by kernel_rfl) Tryz.func174 (by kernel_rfl) rfl rfl (by kernel_rfl)
  f175 := fnk (by kernel_rfl) (by kernel_rfl) Tryz.func175 (by kernel_rfl) rfl rfl (by kernel_rfl)
  f204 := fnk (by kernel_rfl) (by kernel_rfl) Tryz.func204 (by kernel_rfl) rfl rfl (by kernel_rfl)
  f205 := fnk (by kernel_rfl) (by kernel_rfl) Tryz.func205 (by kernel_rfl) rfl rfl (by kernel_rfl)
  f206 := fnk (by kernel_rfl) (by kernel_rfl) Tryz.func206 (by kernel_rfl) rfl rfl (by kernel_rfl)
  f207 := fnk (by kernel_rfl) (by kernel_rfl) Tryz.func207 (by kernel_rfl) rfl rfl (by kernel_rfl)
  f237 := fnk (by kernel_rfl) (by kernel_rfl) Tryz.func237 (by kernel_rfl) rfl rfl (by kernel_rfl)
theorem myBaseG : Go.Ev.BaseG Tryz.prog orc (fun n => n) fun n => n where
theorem myBaseI : Go.Ev.BaseI Tryz.prog orc (fun n => n) fun n => n where
theorem myBaseB : Go.Ev.BaseB Tryz.prog orc (fun n => n) fun n => n where
theorem myBaseT : Go.Ev.BaseT Tryz.prog orc (fun n => n) fun n => n where
theorem myBaseL : Go.Ev.BaseL Tryz.prog orc (fun n => n) fun n => n where
theorem myBaseU : Go.Ev.BaseU Tryz.prog orc (fun n => n) fun n => n where
theorem myBaseV : Go.Ev.BaseV Tryz.prog orc (fun n => n) fun n => n where
theorem myBaseX : Go.Ev.BaseX Tryz.prog orc (fun n => n) fun n => n where
  f248 := fnk (by kernel_rfl) (by kernel_rfl) Tryz.func248 (by kernel_rfl) rfl rfl (by kernel_rfl)
  f249 := fnk (by kernel_rfl) (by kernel_rfl) Tryz.func249 (by kernel_rfl) rfl rfl (by kernel_rfl)
  f250 := fnk (by kernel_rfl) (by kernel_rfl) Tryz.func250 (by kernel_rfl) rfl rfl (by kernel_rfl)
  f251 := fnk (by kernel_rfl) (by kernel_rfl) Tryz.func251 (by kernel_rfl) rfl rfl (by kernel_rfl)
  f257 := fnk (by kernel_rfl) (by kernel_rfl) Tryz.func257 (by kernel_rfl) rfl rfl (by kernel_rfl)
theorem myBaseY : Go.Ev.BaseY Tryz.prog orc (fun n => n) fun n => n where
  f32 := fnk (by kernel_rfl) (by kernel_rfl) Tryz.func32 (by kernel_rfl) rfl rfl (by kernel_rfl)
  f79 := fnk (by kernel_rfl) (by kernel_rfl) Tryz.func79 (by kernel_rfl) rfl rfl (by kernel_rfl)
  f80 := fnk (by kernel_rfl) (by kernel_rfl) Tryz.func80 (by kernel_rfl) rfl rfl (by kernel_rfl)
  f124 := fnk (by kernel_rfl) (by kernel_rfl) Tryz.func124 (by kernel_rfl) rfl rfl (by kernel_rfl)
theorem myTyC : Go.Ev.TyC Tryz.prog fun n => n where
  t71 := ⟨by kernel_rfl, by kernel_rfl⟩
  t99 := ⟨by kernel_rfl, by kernel_rfl⟩
  t107 := ⟨by kernel_rfl, by kernel_rfl⟩
  t264 := ⟨by kernel_rfl, by kernel_rfl⟩
  t294 := ⟨by kernel_rfl, by kernel_rfl⟩
theorem lawU : Go.Ev.LawU Tryz.prog orc (fun n => n) fun n => n where
  hB := myBase
  hC := myBaseC
  hG := myBaseG
  hT := myTyC
  hM := ⟨by kernel_rfl, by kernel_rfl, by kernel_rfl, by kernel_rfl, by kernel_rfl, by kernel_rfl, by kernel_rfl⟩
  hU := myBaseU
  hI := myBaseB
  info := by kernel_rfl
  t128 := ⟨by kernel_rfl, by kernel_rfl⟩
  hS := myBaseT
  hL := myBaseL
  hV := myBaseV
  hJ := myBaseI
theorem lawF : Go.Ev.LawF Tryz.prog orc (fun n => n) fun n => n := ⟨lawU, myBaseX, myBaseY, fun s => Go.Ev.says9_known (by decide) (fun H => .w H) s⟩
end Go.Proofs.YtcmplhmbmmclaaaGreat.combatFlies
