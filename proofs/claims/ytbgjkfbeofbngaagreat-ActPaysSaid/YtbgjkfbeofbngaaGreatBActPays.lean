/- The program's functions have the code that the walks speak of. Conditions: none. -/
import Derived.Test.YtbgjkfbeofbngaaGreatEvM
import Derived.Test.YtbgjkfbeofbngaaGreatProg
import Derived.KernelRfl
set_option linter.unusedVariables false
namespace Go.Proofs.YtbgjkfbeofbngaaGreat.actPays
open Go.Ev
set_option maxRecDepth 1000000
def fF (n : Nat) : Nat := fNo.getD n 0
def fT (n : Nat) : Nat := ((tNo.find? fun p => Nat.beq p.1 n).map Prod.snd).getD 0
noncomputable abbrev orc : Orc := orcOf (C14 fF)
theorem fnk {f g : FuncId} {nt : Nat} {rs : List ResultVar} {ac : AC} {fn : Func} (h : Tryz.prog.funcs[g]? = some fn) (e : Nat.beq f g = true := by kernel_rfl) (h1 : (Nat.beq g 41 || (Nat.beq g 253 || (Nat.beq g 165 || Nat.beq g 169))) = false := by kernel_rfl) (h3 : fn.body.map (cc Tryz.prog fn.ntmps) = some ac := by kernel_rfl) (h4 : fn.ntmps = nt := by rfl) (h5 : fn.results.toList = rs := by rfl) (h6 : (fn.name == "runtime.NumGoroutine") = false := by kernel_rfl) : FnK Tryz.prog orc f nt rs ac := by
  have e : f = g := Nat.eq_of_beq_eq_true e
  subst e
  have k1 : Nat.beq (fF 412) 41 = true := by kernel_rfl
  have k2 : Nat.beq (fF 201) 253 = true := by kernel_rfl
  have k3 : Nat.beq (fF 449) 165 = true := by kernel_rfl
  have k4 : Nat.beq (fF 452) 169 = true := by kernel_rfl
  simp only [Bool.or_eq_false_iff] at h1
  exact ⟨fun _ _ => orc14_none (fun e => by rw [e, k1] at h1; exact Bool.noConfusion h1.1) (fun e => by rw [e, k2] at h1; exact Bool.noConfusion h1.2.1) (fun e => by rw [e, k3] at h1; exact Bool.noConfusion h1.2.2.1) (fun e => by rw [e, k4] at h1; exact Bool.noConfusion h1.2.2.2) _ _, fn, h, h3, h4, h5, h6⟩
theorem myBase : Base Tryz.prog orc fF fT := ⟨fnk Tryz.func58, fnk Tryz.func137, fnk Tryz.func136, fnk Tryz.func217, fnk Tryz.func218, fnk Tryz.func219, fnk Tryz.func220, fnk Tryz.func221, fnk Tryz.func129, fnk Tryz.func216, fnk Tryz.func168, fnk Tryz.func257, fnk Tryz.func160, fnk Tryz.func189, fnk Tryz.func161, fnk Tryz.func162, fnk Tryz.func320, fnk Tryz.func351, fnk Tryz.func352, fnk Tryz.func350, fnk Tryz.func245, fnk Tryz.func353, fnk Tryz.func210, fnk Tryz.func255, fnk Tryz.func292, fnk Tryz.func154, fnk Tryz.func211, fnk Tryz.func23, fnk Tryz.func26, fnk Tryz.func28, fnk Tryz.func75, fnk Tryz.func69, fnk Tryz.func323, fnk Tryz.func254, fnk Tryz.func285, fnk Tryz.func286, fnk Tryz.func287, fnk Tryz.func305, fnk Tryz.func321, ⟨by kernel_rfl, by kernel_rfl⟩, ⟨by kernel_rfl, by kernel_rfl⟩, ⟨by kernel_rfl, by kernel_rfl⟩, ⟨by kernel_rfl, by kernel_rfl⟩, ⟨by kernel_rfl, by kernel_rfl⟩⟩
theorem myBaseC : BaseC Tryz.prog orc fF fT := ⟨fnk Tryz.func17, fnk Tryz.func31, fnk Tryz.func13, fnk Tryz.func19, fnk Tryz.func61, fnk Tryz.func77, fnk Tryz.func139, fnk Tryz.func197, fnk Tryz.func248⟩
theorem myBaseG : BaseG Tryz.prog orc fF fT := ⟨fnk Tryz.func38, fnk Tryz.func404, fnk Tryz.func163, fnk Tryz.func128, fnk Tryz.func222, fnk Tryz.func223, fnk Tryz.func258, fnk Tryz.func259, fnk Tryz.func260, fnk Tryz.func295, fnk Tryz.func402⟩
theorem myBaseI : BaseI Tryz.prog orc fF fT := ⟨fnk Tryz.func332, fnk Tryz.func333⟩
theorem myBaseB : BaseB Tryz.prog orc fF fT := ⟨fnk Tryz.func30, fnk Tryz.func403⟩
theorem myBaseU : BaseU Tryz.prog orc fF fT := ⟨⟩
theorem myBaseX : BaseX Tryz.prog orc fF fT := ⟨fnk Tryz.func306, fnk Tryz.func307, fnk Tryz.func308⟩
theorem myTyC : TyC Tryz.prog fT := ⟨⟨by kernel_rfl, by kernel_rfl⟩, ⟨by kernel_rfl, by kernel_rfl⟩, ⟨by kernel_rfl, by kernel_rfl⟩, ⟨by kernel_rfl, by kernel_rfl⟩, ⟨by kernel_rfl, by kernel_rfl⟩⟩
theorem myBaseM : BaseM Tryz.prog orc fF fT := ⟨fnk Tryz.func29, fnk Tryz.func318⟩
theorem myBaseQ : BaseQ Tryz.prog orc fF fT := ⟨fnk Tryz.func78, fnk Tryz.func60, fnk Tryz.func138, fnk Tryz.func196, fnk Tryz.func247, fnk Tryz.func50, fnk Tryz.func132, fnk Tryz.func133, fnk Tryz.func134, fnk Tryz.func192⟩
theorem myBaseR : BaseR Tryz.prog orc fF fT := ⟨fnk Tryz.func312, fnk Tryz.func325⟩
theorem myBaseAc : BaseAc Tryz.prog orc fF fT := ⟨fnk Tryz.func341, fnk Tryz.func35, fnk Tryz.func36, fnk Tryz.func37, fnk Tryz.func82, fnk Tryz.func83, fnk Tryz.func84, fnk Tryz.func85, fnk Tryz.func86, fnk Tryz.func87, fnk Tryz.func88, fnk Tryz.func89, fnk Tryz.func90, fnk Tryz.func91, fnk Tryz.func92, fnk Tryz.func164, fnk Tryz.func166, fnk Tryz.func167⟩
theorem myBaseAs : BaseAs Tryz.prog orc fF fT := ⟨fnk Tryz.func40, fnk Tryz.func94, fnk Tryz.func95, fnk Tryz.func96, fnk Tryz.func97, fnk Tryz.func98, fnk Tryz.func99, fnk Tryz.func100, fnk Tryz.func101, fnk Tryz.func103, fnk Tryz.func171, fnk Tryz.func172, fnk Tryz.func173, fnk Tryz.func174, fnk Tryz.func231, fnk Tryz.func232⟩
theorem myBaseAb : BaseAb Tryz.prog orc fF fT := ⟨fnk Tryz.func39, fnk Tryz.func93, fnk Tryz.func170, fnk Tryz.func230, fnk Tryz.func265⟩
theorem myBaseMk : BaseMk Tryz.prog orc fF fT := ⟨fnk Tryz.func11⟩
theorem neA : NeA fF := ⟨by decide, by decide, by decide, by decide, by decide, by decide⟩
theorem aenv : AEnv Tryz.prog orc fF fT (fT 26) where
  hB := myBase
  hC := myBaseC
  hG := myBaseG
  hT := myTyC
  hM := ⟨by kernel_rfl, by kernel_rfl, by kernel_rfl, by kernel_rfl, by kernel_rfl, by kernel_rfl, by kernel_rfl⟩
  hU := myBaseU
  hI := myBaseB
  info := by kernel_rfl
  t128 := ⟨by kernel_rfl, by kernel_rfl⟩
  hQ := myBaseQ
  hv := by kernel_rfl
  do_ := by kernel_rfl
  cf := by kernel_rfl
  it := myBaseI
  hR := myBaseR
  hX := myBaseX
  mv := myBaseM
  h264 := fnk Tryz.func322
  ac := myBaseAc
  ab := myBaseAb
  sm := myBaseAs
  t24 := ⟨by kernel_rfl, by kernel_rfl⟩
  t27 := ⟨by kernel_rfl, by kernel_rfl⟩
  t420 := ⟨by kernel_rfl, by kernel_rfl⟩
  t431 := ⟨by kernel_rfl, by kernel_rfl⟩
  says := says14 neA
end Go.Proofs.YtbgjkfbeofbngaaGreat.actPays
