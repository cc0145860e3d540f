/- The program's functions have the code that the walks speak of. Conditions: none. -/
import Derived.Test.YtcmplhmbmmclaaaGreatEvM
import Derived.Test.YtcmplhmbmmclaaaGreatProg
import Derived.KernelRfl
set_option linter.unusedVariables false
namespace Go.Proofs.YtcmplhmbmmclaaaGreat.sbaTurns
set_option maxRecDepth 1000000
noncomputable abbrev orc : Go.Ev.Orc := Go.Ev.orcOf (Go.Ev.C4 fun n => n)
theorem fnk {f : FuncId} {nt : Nat} {rs : List ResultVar} {ac : Go.Ev.AC} {fn : Func} (h1 : Nat.beq f 17 = false) (h2 : Nat.beq f 201 = false) (h : Tryz.prog.funcs[f]? = some fn) (h3 : fn.body.map (Go.Ev.cc Tryz.prog fn.ntmps) = some ac) (h4 : fn.ntmps = nt) (h5 : fn.results.toList = rs) (h6 : (fn.name == "runtime.NumGoroutine") = false) : Go.Ev.FnK Tryz.prog orc f nt rs ac :=
  ⟨fun _ _ => Go.Ev.orc4_none (fun e => by rw [e] at h1; cases h1) (fun e => by rw [e] at h2; cases h2) _ _, fn, h, h3, h4, h5, h6⟩
theorem base : Go.Ev.Base Tryz.prog orc (fun n => n) fun n => n where
  f91 := fnk (by kernel_rfl) (by kernel_rfl) Tryz.func91 (by kernel_rfl) rfl rfl (by kernel_rfl)
  f138 := fnk (by kernel_rfl) (by kernel_rfl) Tryz.func138 (by kernel_rfl) rfl rfl (by kernel_rfl)
  f106 := fnk (by kernel_rfl) (by kernel_rfl) Tryz.func106 (by kernel_rfl) rfl rfl (by kernel_rfl)
  f158 := fnk (by kernel_rfl) (by kernel_rfl) Tryz.func158 (by kernel_rfl) rfl rfl (by kernel_rfl)
  f159 := fnk (by kernel_rfl) (by kernel_rfl) Tryz.func159 (by kernel_rfl) rfl rfl (by kernel_rfl)
  f160 := fnk (by kernel_rfl) (by kernel_rfl) Tryz.func160 (by kernel_rfl) rfl rfl (by kernel_rfl)
  f161 := fnk (by kernel_rfl) (by kernel_rfl) Tryz.func161 (by kernel_rfl) rfl rfl (by kernel_rfl)
  f162 := fnk (by kernel_rfl) (by kernel_rfl) Tryz.func162 (by kernel_rfl) rfl rfl (by kernel_rfl)
  f51 := fnk (by kernel_rfl) (by kernel_rfl) Tryz.func51 (by kernel_rfl) rfl rfl (by kernel_rfl)
  f157 := fnk (by kernel_rfl) (by kernel_rfl) Tryz.func157 (by kernel_rfl) rfl rfl (by kernel_rfl)
  f163 := fnk (by kernel_rfl) (by kernel_rfl) Tryz.func163 (by kernel_rfl) rfl rfl (by kernel_rfl)
  f200 := fnk (by kernel_rfl) (by kernel_rfl) Tryz.func200 (by kernel_rfl) rfl rfl (by kernel_rfl)
  f107 := fnk (by kernel_rfl) (by kernel_rfl) Tryz.func107 (by kernel_rfl) rfl rfl (by kernel_rfl)
  f105 := fnk (by kernel_rfl) (by kernel_rfl) Tryz.func105 (by kernel_rfl) rfl rfl (by kernel_rfl)
  f136 := fnk (by kernel_rfl) (by kernel_rfl) Tryz.func136 (by kernel_rfl) rfl rfl (by kernel_rfl)
  f137 := fnk (by kernel_rfl) (by kernel_rfl) Tryz.func137 (by kernel_rfl) rfl rfl (by kernel_rfl)
  f262 := fnk (by kernel_rfl) (by kernel_rfl) Tryz.func262 (by kernel_rfl) rfl rfl (by kernel_rfl)
  f293 := fnk (by kernel_rfl) (by kernel_rfl) Tryz.func293 (by kernel_rfl) rfl rfl (by kernel_rfl)
  f294 := fnk (by kernel_rfl) (by kernel_rfl) Tryz.func294 (by kernel_rfl) rfl rfl (by kernel_rfl)
  f292 := fnk (by kernel_rfl) (by kernel_rfl) Tryz.func292 (by kernel_rfl) rfl rfl (by kernel_rfl)
  f155 := fnk (by kernel_rfl) (by kernel_rfl) Tryz.func155 (by kernel_rfl) rfl rfl (by kernel_rfl)
  f295 := fnk (by kernel_rfl) (by kernel_rfl) Tryz.func295 (by kernel_rfl) rfl rfl (by kernel_rfl)
  f164 := fnk (by kernel_rfl) (by kernel_rfl) Tryz.func164 (by kernel_rfl) rfl rfl (by kernel_rfl)
  f203 := fnk (by kernel_rfl) (by kernel_rfl) Tryz.func203 (by kernel_rfl) rfl rfl (by kernel_rfl)
  f228 := fnk (by kernel_rfl) (by kernel_rfl) Tryz.func228 (by kernel_rfl) rfl rfl (by kernel_rfl)
  f229 := fnk (by kernel_rfl) (by kernel_rfl) Tryz.func229 (by kernel_rfl) rfl rfl (by kernel_rfl)
  f230 := fnk (by kernel_rfl) (by kernel_rfl) Tryz.func230 (by kernel_rfl) rfl rfl (by kernel_rfl)
  f231 := fnk (by kernel_rfl) (by kernel_rfl) Tryz.func231 (by kernel_rfl) rfl rfl (by kernel_rfl)
  f113 := fnk (by kernel_rfl) (by kernel_rfl) Tryz.func113 (by kernel_rfl) rfl rfl (by kernel_rfl)
  f108 := fnk (by kernel_rfl) (by kernel_rfl) Tryz.func108 (by kernel_rfl) rfl rfl (by kernel_rfl)
  f165 := fnk (by kernel_rfl) (by kernel_rfl) Tryz.func165 (by kernel_rfl) rfl rfl (by kernel_rfl)
  f15 := fnk (by kernel_rfl) (by kernel_rfl) Tryz.func15 (by kernel_rfl) rfl rfl (by kernel_rfl)
  f14 := fnk (by kernel_rfl) (by kernel_rfl) Tryz.func14 (by kernel_rfl) rfl rfl (by kernel_rfl)
  f24 := fnk (by kernel_rfl) (by kernel_rfl) Tryz.func24 (by kernel_rfl) rfl rfl (by kernel_rfl)
  f52 := fnk (by kernel_rfl) (by kernel_rfl) Tryz.func52 (by kernel_rfl) rfl rfl (by kernel_rfl)
  f53 := fnk (by kernel_rfl) (by kernel_rfl) Tryz.func53 (by kernel_rfl) rfl rfl (by kernel_rfl)
  f261 := fnk (by kernel_rfl) (by kernel_rfl) Tryz.func261 (by kernel_rfl) rfl rfl (by kernel_rfl)
  f265 := fnk (by kernel_rfl) (by kernel_rfl) Tryz.func265 (by kernel_rfl) rfl rfl (by kernel_rfl)
  f284 := fnk (by kernel_rfl) (by kernel_rfl) Tryz.func284 (by kernel_rfl) rfl rfl (by kernel_rfl)
  f202 := fnk (by kernel_rfl) (by kernel_rfl) Tryz.func202 (by kernel_rfl) rfl rfl (by kernel_rfl)
  f224 := fnk (by kernel_rfl) (by kernel_rfl) Tryz.func224 (by kernel_rfl) rfl rfl (by kernel_rfl)
  f225 := fnk (by kernel_rfl) (by kernel_rfl) Tryz.func225 (by kernel_rfl) rfl rfl (by kernel_rfl)
  f226 := fnk (by kernel_rfl) (by kernel_rfl) Tryz.func226 (by kernel_rfl) rfl rfl (by kernel_rfl)
  f247 := fnk (by kernel_rfl) (by kernel_rfl) Tryz.func247 (by kernel_rfl) rfl rfl (by kernel_rfl)
  f263 := fnk (by kernel_rfl) (by kernel_rfl) Tryz.func263 (by kernel_rfl) rfl rfl (by kernel_rfl)
  t41 := ⟨by kernel_rfl, by kernel_rfl⟩
  t45 := ⟨by kernel_rfl, by kernel_rfl⟩
  t48 := ⟨by kernel_rfl, by kernel_rfl⟩
  t50 := ⟨by kernel_rfl, by kernel_rfl⟩
  t290 := ⟨by kernel_rfl, by kernel_rfl⟩
theorem baseBaseI : Go.Ev.BaseI Tryz.prog orc (fun n => n) fun n => n where
  f63 := fnk (by kernel_rfl) (by kernel_rfl) Tryz.func63 (by kernel_rfl) rfl rfl (by kernel_rfl)
  f274 := fnk (by kernel_rfl) (by kernel_rfl) Tryz.func274 (by kernel_rfl) rfl rfl (by kernel_rfl)
  f275 := fnk (by kernel_rfl) (by kernel_rfl) Tryz.func275 (by kernel_rfl) rfl rfl (by kernel_rfl)
  f276 := fnk (by kernel_rfl) (by kernel_rfl) Tryz.func276 (by kernel_rfl) rfl rfl (by kernel_rfl)
  f277 := fnk (by kernel_rfl) (by kernel_rfl) Tryz.func277 (by kernel_rfl) rfl rfl (by kernel_rfl)
  f278 := fnk (by kernel_rfl) (by kernel_rfl) Tryz.func278 (by kernel_rfl) rfl rfl (by kernel_rfl)
  f279 := fnk (by kernel_rfl) (by kernel_rfl) Tryz.func279 (by kernel_rfl) rfl rfl (by kernel_rfl)
  f296 := fnk (by kernel_rfl) (by kernel_rfl) Tryz.func296 (by kernel_rfl) rfl rfl (by kernel_rfl)
theorem baseBaseB : Go.Ev.BaseB Tryz.prog orc (fun n => n) fun n => n where
  f20 := fnk (by kernel_rfl) (by kernel_rfl) Tryz.func20 (by kernel_rfl) rfl rfl (by kernel_rfl)
  f21 := fnk (by kernel_rfl) (by kernel_rfl) Tryz.func21 (by kernel_rfl) rfl rfl (by kernel_rfl)
  f58 := fnk (by kernel_rfl) (by kernel_rfl) Tryz.func58 (by kernel_rfl) rfl rfl (by kernel_rfl)
  f345 := fnk (by kernel_rfl) (by kernel_rfl) Tryz.func345 (by kernel_rfl) rfl rfl (by kernel_rfl)
  f347 := fnk (by kernel_rfl) (by kernel_rfl) Tryz.func347 (by kernel_rfl) rfl rfl (by kernel_rfl)
theorem baseBaseS : Go.Ev.BaseS Tryz.prog orc (fun n => n) fun n => n where
  f19 := fnk (by kernel_rfl) (by kernel_rfl) Tryz.func19 (by kernel_rfl) rfl rfl (by kernel_rfl)
  f61 := fnk (by kernel_rfl) (by kernel_rfl) Tryz.func61 (by kernel_rfl) rfl rfl (by kernel_rfl)
  f62 := fnk (by kernel_rfl) (by kernel_rfl) Tryz.func62 (by kernel_rfl) rfl rfl (by kernel_rfl)
  f64 := fnk (by kernel_rfl) (by kernel_rfl) Tryz.func64 (by kernel_rfl) rfl rfl (by kernel_rfl)
  f65 := fnk (by kernel_rfl) (by kernel_rfl) Tryz.func65 (by kernel_rfl) rfl rfl (by kernel_rfl)
  f66 := fnk (by kernel_rfl) (by kernel_rfl) Tryz.func66 (by kernel_rfl) rfl rfl (by kernel_rfl)
  f112 := fnk (by kernel_rfl) (by kernel_rfl) Tryz.func112 (by kernel_rfl) rfl rfl (by kernel_rfl)
theorem baseBaseT : Go.Ev.BaseT Tryz.prog orc (fun n => n) fun n => n where
  f271 := fnk (by kernel_rfl) (by kernel_rfl) Tryz.func271 (by kernel_rfl) rfl rfl (by kernel_rfl)
  f280 := fnk (by kernel_rfl) (by kernel_rfl) Tryz.func280 (by kernel_rfl) rfl rfl (by kernel_rfl)
  f281 := fnk (by kernel_rfl) (by kernel_rfl) Tryz.func281 (by kernel_rfl) rfl rfl (by kernel_rfl)
theorem baseAll : Go.Ev.BaseAll Tryz.prog orc (fun n => n) fun n => n where
  b := base
  i := baseBaseI
  g := baseBaseB
  s := baseBaseS
  t := baseBaseT
  t24 := ⟨by kernel_rfl, by kernel_rfl⟩
  t128 := ⟨by kernel_rfl, by kernel_rfl⟩
  t4 := ⟨by kernel_rfl, by kernel_rfl⟩
  m := ⟨by kernel_rfl, by kernel_rfl, by kernel_rfl, by kernel_rfl, by kernel_rfl, by kernel_rfl⟩
end Go.Proofs.YtcmplhmbmmclaaaGreat.sbaTurns
