/- Reckonings by the kernel: the beginning of the law's board, by how many fighters there are. Conditions: none. -/
import Derived.Test.YtbgjkfbeofbngaaGreatEvN
import Derived.Test.YtbgjkfbeofbngaaGreatProg
import Derived.KernelRfl
set_option linter.unusedVariables false
namespace Go.Proofs.YtbgjkfbeofbngaaGreat.combatSums
set_option maxRecDepth 1000000
theorem runN (q:Bool):Go.Ev.pre31 Tryz.prog (Go.Ev.callF Tryz.prog (Go.Ev.ruleG 20 253) 1000) (Tryz.f10.body.getD .skip) 1 0 (λv=>Go.Ev.isA v Go.Ev.nilS) false q (Go.Ev.mkV Go.Ev.nilS) (Go.Ev.fhW false q)=true:=by cases q<;>kernel_rfl
theorem runE (q:Bool):Go.Ev.pre31 Tryz.prog (Go.Ev.callF Tryz.prog (Go.Ev.ruleG 20 253) 1000) (Tryz.f10.body.getD .skip) 1 0 (λv=>Go.Ev.isA v .empty) false q (Go.Ev.mkV .empty) (Go.Ev.fhW false q)=true:=by cases q<;>kernel_rfl
theorem runS1 (q:Bool):Go.Ev.pre31 Tryz.prog (Go.Ev.callF Tryz.prog (Go.Ev.ruleG 20 253) 1000) (Tryz.f10.body.getD .skip) (23*1+1) 1 Go.Ev.isFs true q (Go.Ev.fgL 1 1 1) (Go.Ev.fhW true q)=true:=by cases q<;>kernel_rfl
theorem runS2 (q:Bool):Go.Ev.pre31 Tryz.prog (Go.Ev.callF Tryz.prog (Go.Ev.ruleG 20 253) 1000) (Tryz.f10.body.getD .skip) (23*2+1) 2 Go.Ev.isFs true q (Go.Ev.fgL 2 2 1) (Go.Ev.fhW true q)=true:=by cases q<;>kernel_rfl
theorem runS3 (q:Bool):Go.Ev.pre31 Tryz.prog (Go.Ev.callF Tryz.prog (Go.Ev.ruleG 20 253) 1000) (Tryz.f10.body.getD .skip) (23*3+1) 3 Go.Ev.isFs true q (Go.Ev.fgL 3 3 1) (Go.Ev.fhW true q)=true:=by cases q<;>kernel_rfl
theorem runS4 (q:Bool):Go.Ev.pre31 Tryz.prog (Go.Ev.callF Tryz.prog (Go.Ev.ruleG 20 253) 1000) (Tryz.f10.body.getD .skip) (23*4+1) 4 Go.Ev.isFs true q (Go.Ev.fgL 4 4 1) (Go.Ev.fhW true q)=true:=by cases q<;>kernel_rfl
theorem runS5 (q:Bool):Go.Ev.pre31 Tryz.prog (Go.Ev.callF Tryz.prog (Go.Ev.ruleG 20 253) 1000) (Tryz.f10.body.getD .skip) (23*5+1) 5 Go.Ev.isFs true q (Go.Ev.fgL 5 5 1) (Go.Ev.fhW true q)=true:=by cases q<;>kernel_rfl
theorem runS6 (q:Bool):Go.Ev.pre31 Tryz.prog (Go.Ev.callF Tryz.prog (Go.Ev.ruleG 20 253) 1000) (Tryz.f10.body.getD .skip) (23*6+1) 6 Go.Ev.isFs true q (Go.Ev.fgL 6 6 1) (Go.Ev.fhW true q)=true:=by cases q<;>kernel_rfl
theorem runS7 (q:Bool):Go.Ev.pre31 Tryz.prog (Go.Ev.callF Tryz.prog (Go.Ev.ruleG 20 253) 1000) (Tryz.f10.body.getD .skip) (23*7+1) 7 Go.Ev.isFs true q (Go.Ev.fgL 7 7 1) (Go.Ev.fhW true q)=true:=by cases q<;>kernel_rfl
theorem runS8 (q:Bool):Go.Ev.pre31 Tryz.prog (Go.Ev.callF Tryz.prog (Go.Ev.ruleG 20 253) 1000) (Tryz.f10.body.getD .skip) (23*8+1) 8 Go.Ev.isFs true q (Go.Ev.fgL 8 8 1) (Go.Ev.fhW true q)=true:=by cases q<;>kernel_rfl
theorem runL (q:Bool):Go.Ev.pre31 Tryz.prog (Go.Ev.callF Tryz.prog (Go.Ev.ruleG 20 253) 1000) (Tryz.f10.body.getD .skip) 185 8 Go.Ev.isFs true q (Go.Ev.fgL 8 9 0) (Go.Ev.fhW true q)=true:=by cases q<;>kernel_rfl
end Go.Proofs.YtbgjkfbeofbngaaGreat.combatSums
