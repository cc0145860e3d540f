/- The program's functions have the code that the walks speak of. Conditions: none. -/
import Derived.Test.YtehcpacbinbioaaGreatEvO
import Derived.Test.YtehcpacbinbioaaGreatProg
import Derived.KernelRfl
set_option linter.unusedVariables false
namespace Go.Proofs.YtehcpacbinbioaaGreat.judgeStays
open Go.Ev
set_option maxRecDepth 1000000
noncomputable abbrev orc : Orc := orcOf (C1 Tryz.prog fF)
theorem fnk {K : Orc} {f g : FuncId} {nt : Nat} {rs : List ResultVar} {ac : AC} {fn : Func} (hk : ∀ args H, K f args H = none) (h : Tryz.prog.funcs[g]? = some fn) (e : Nat.beq f g = true) (h3 : fn.body.map (cc Tryz.prog fn.ntmps) = some ac) (h4 : fn.ntmps = nt) (h5 : fn.results.toList = rs) (h6 : (fn.name == "runtime.NumGoroutine") = false) : FnK Tryz.prog K f nt rs ac := by
  have e : f = g := Nat.eq_of_beq_eq_true e
  subst e
  exact ⟨hk, fn, h, h3, h4, h5, h6⟩
theorem fn0 {f g : FuncId} {nt : Nat} {rs : List ResultVar} {ac : AC} {fn : Func} (h : Tryz.prog.funcs[g]? = some fn) (e : Nat.beq f g = true := by kernel_rfl) (h3 : fn.body.map (cc Tryz.prog fn.ntmps) = some ac := by kernel_rfl) (h4 : fn.ntmps = nt := by rfl) (h5 : fn.results.toList = rs := by rfl) (h6 : (fn.name == "runtime.NumGoroutine") = false := by kernel_rfl) : FnK Tryz.prog (fun _ _ _ => none) f nt rs ac := fnk (fun _ _ => rfl) h e h3 h4 h5 h6
theorem fn1 {f g : FuncId} {nt : Nat} {rs : List ResultVar} {ac : AC} {fn : Func} (h : Tryz.prog.funcs[g]? = some fn) (e : Nat.beq f g = true := by kernel_rfl) (h1 : (Nat.beq f (fF 505) || (Nat.beq f (fF 506) || (Nat.beq f (fF 411) || Nat.beq f (fF 503)))) = false := by kernel_rfl) (h3 : fn.body.map (cc Tryz.prog fn.ntmps) = some ac := by kernel_rfl) (h4 : fn.ntmps = nt := by rfl) (h5 : fn.results.toList = rs := by rfl) (h6 : (fn.name == "runtime.NumGoroutine") = false := by kernel_rfl) : FnK Tryz.prog orc f nt rs ac := by
  refine fnk (fun args H => ?_) h e h3 h4 h5 h6
  simp only [Bool.or_eq_false_iff] at h1
  have ne : ∀ {a b : Nat}, Nat.beq a b = false → a ≠ b := fun h e => by rw [e, Nat.beq_refl] at h; cases h
  exact orc1_none (ne h1.1) (ne h1.2.1) (ne h1.2.2.1) (ne h1.2.2.2) args H
theorem myBaseJu : BaseJu Tryz.prog (fun _ _ _ => none) fF fT := ⟨fn0 Tryz.func8, fn0 Tryz.func9, fn0 Tryz.func65, fn0 Tryz.func66, fn0 Tryz.func67, fn0 Tryz.func68, fn0 Tryz.func69, fn0 Tryz.func70, fn0 Tryz.func71, fn0 Tryz.func72, fn0 Tryz.func73, fn0 Tryz.func74, fn0 Tryz.func75, fn0 Tryz.func76, fn0 Tryz.func77, fn0 Tryz.func78, fn0 Tryz.func79, fn0 Tryz.func81, fn0 Tryz.func82, fn0 Tryz.func83, fn0 Tryz.func118, fn0 Tryz.func119, fn0 Tryz.func120, fn0 Tryz.func121, fn0 Tryz.func122, fn0 Tryz.func123, fn0 Tryz.func124, fn0 Tryz.func125, fn0 Tryz.func126, fn0 Tryz.func127, fn0 Tryz.func128, fn0 Tryz.func129, fn0 Tryz.func130, fn0 Tryz.func131, fn0 Tryz.func132, fn0 Tryz.func133, fn0 Tryz.func134, fn0 Tryz.func135, fn0 Tryz.func136, fn0 Tryz.func138, fn0 Tryz.func139, fn0 Tryz.func140, fn0 Tryz.func141, fn0 Tryz.func143, fn0 Tryz.func147, fn0 Tryz.func182, fn0 Tryz.func184, fn0 Tryz.func186, fn0 Tryz.func187⟩
theorem myBaseSl : BaseSl Tryz.prog (fun _ _ _ => none) fF fT := ⟨fn0 Tryz.func183, fn0 Tryz.func94, fn0 Tryz.func245, fn0 Tryz.func244, fn0 Tryz.func152, fn0 Tryz.func190, fn0 Tryz.func254, fn0 Tryz.func257, fn0 Tryz.func164, fn0 Tryz.func281, fn0 Tryz.func282, fn0 Tryz.func296, fn0 Tryz.func303, fn0 Tryz.func85, fn0 Tryz.func89, fn0 Tryz.func91, fn0 Tryz.func148, fn0 Tryz.func149, fn0 Tryz.func199, fn0 Tryz.func200, fn0 Tryz.func117, fn0 Tryz.func137, fn0 Tryz.func142, fn0 Tryz.func181, fn0 Tryz.func185, fn0 Tryz.func188, fn0 Tryz.func189, fn0 Tryz.func252, fn0 Tryz.func253⟩
theorem myBaseCh : BaseCh Tryz.prog (fun _ _ _ => none) fF fT := ⟨fn0 Tryz.func80, fn0 Tryz.func144, fn0 Tryz.func145, fn0 Tryz.func146, fn0 Tryz.func191, fn0 Tryz.func192, fn0 Tryz.func193, fn0 Tryz.func194, fn0 Tryz.func195, fn0 Tryz.func196, fn0 Tryz.func197, fn0 Tryz.func198, fn0 Tryz.func255, fn0 Tryz.func256, fn0 Tryz.func277, fn0 Tryz.func278, fn0 Tryz.func279, fn0 Tryz.func280⟩
theorem myBaseSt : BaseSt Tryz.prog (fun _ _ _ => none) fF fT := ⟨fn0 Tryz.func167, fn0 Tryz.func246, fn0 Tryz.func10, fn0 Tryz.func84, fn0 Tryz.func86, fn0 Tryz.func87, fn0 Tryz.func88, fn0 Tryz.func90, fn0 Tryz.func92, fn0 Tryz.func93, fn0 Tryz.func150, fn0 Tryz.func151⟩
theorem myTyC : TyC Tryz.prog fT := ⟨⟨by kernel_rfl, by kernel_rfl⟩, ⟨by kernel_rfl, by kernel_rfl⟩, ⟨by kernel_rfl, by kernel_rfl⟩, ⟨by kernel_rfl, by kernel_rfl⟩⟩
theorem myBaseL : BaseL Tryz.prog orc fF fT := ⟨fn1 Tryz.func3, fn1 Tryz.func5, fn1 Tryz.func58, fn1 Tryz.func60⟩
theorem myBaseR12 : BaseR12 Tryz.prog orc fF fT := ⟨fn1 Tryz.func7, fn1 Tryz.func57, fn1 Tryz.func59, fn1 Tryz.func61, fn1 Tryz.func62, fn1 Tryz.func63, fn1 Tryz.func64, fn1 Tryz.func108, fn1 Tryz.func109, fn1 Tryz.func110, fn1 Tryz.func111, fn1 Tryz.func112, fn1 Tryz.func113, fn1 Tryz.func114, fn1 Tryz.func115, fn1 Tryz.func116, fn1 Tryz.func171, fn1 Tryz.func172, fn1 Tryz.func173, fn1 Tryz.func174, fn1 Tryz.func175, fn1 Tryz.func176, fn1 Tryz.func177, fn1 Tryz.func178, fn1 Tryz.func179, fn1 Tryz.func180, fn1 Tryz.func248, fn1 Tryz.func249, fn1 Tryz.func250, fn1 Tryz.func251, fn1 Tryz.func270, fn1 Tryz.func271, fn1 Tryz.func272, fn1 Tryz.func273, fn1 Tryz.func274, fn1 Tryz.func275, fn1 Tryz.func276, fn1 Tryz.func295⟩
theorem envL (hw : Known Tryz.prog (fF 503)) : EnvL Tryz.prog fF fT where
  hm := by kernel_rfl
  hJ := myBaseJu
  hS := myBaseSl
  hC := myBaseCh
  hB := myBaseSt
  hT := myTyC
  t41 := ⟨by kernel_rfl, by kernel_rfl⟩
  t45 := ⟨by kernel_rfl, by kernel_rfl⟩
  t50 := ⟨by kernel_rfl, by kernel_rfl⟩
  t431 := ⟨by kernel_rfl, by kernel_rfl⟩
  t542 := ⟨by kernel_rfl, by kernel_rfl⟩
  t545 := ⟨by kernel_rfl, by kernel_rfl⟩
  hw := hw
  ne := by decide
  hL := myBaseL
  hR := myBaseR12
theorem setup : ctOf Tryz.prog 9 28 = some rSe := by kernel_rfl
theorem f500 : fF 500 = 3 := by kernel_rfl
theorem f503 : fF 503 = 6 := by kernel_rfl
end Go.Proofs.YtehcpacbinbioaaGreat.judgeStays
