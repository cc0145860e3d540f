/- Proved here: the law CombatOnce, as the given statement says it. Conditions: none. -/
import Derived.Test.YtnlndbanfdjaiaaGreatKCombatOncea
import Derived.Test.YtnlndbanfdjaiaaGreatKCombatOnceb
import Derived.Test.YtnlndbanfdjaiaaGreatKCombatOncec
import Derived.Test.YtnlndbanfdjaiaaGreatKCombatOnced
import Derived.Test.YtnlndbanfdjaiaaGreatKCombatOncee
import Derived.Test.YtnlndbanfdjaiaaGreatKCombatOncef
import Derived.Test.YtnlndbanfdjaiaaGreatKCombatOnceg
import Derived.Test.YtnlndbanfdjaiaaGreatKCombatOnceh
import Derived.Test.YtnlndbanfdjaiaaGreatKCombatOncei
import Derived.Test.YtnlndbanfdjaiaaGreatKCombatOncej
import Derived.Test.YtnlndbanfdjaiaaGreatKCombatOncek
import Derived.Test.YtnlndbanfdjaiaaGreatKCombatOncel
import Derived.Test.YtnlndbanfdjaiaaGreatKWCombatOnce
import Derived.Test.YtnlndbanfdjaiaaGreatFCombatOnce
import Derived.Test.YtnlndbanfdjaiaaGreatEvH
import Derived.ProofKit
import Derived.OpenShut
namespace Go.Proofs.YtnlndbanfdjaiaaGreat.combatOnce
open Go.ChangeShapes Go.WideShapes Go.ChangeAt Go.RowKit
set_option linter.unusedVariables false

theorem cellsI : Tryz.prog.cellsOf 5 = 1 := by kernel_rfl
theorem cellsO : Tryz.prog.cellsOf 41 = 4 := by kernel_rfl
theorem own : ownKnob Tryz.prog.godebug = none := by kernel_rfl
theorem mixed : Tryz.prog.follows .mixedOrders = true := by kernel_rfl
/-- What is not known: the eight bytes. -/
@[reducible] noncomputable def sg (Px : Int) (Tx : Int) (Kx : Int) (Lx : Int) (Py : Int) (Ty : Int) (Ky : Int) (Ly : Int) : Go.Ev.Sg := Go.Ev.mkSg (fun i => match i with | 0 => Px | 1 => Tx | 2 => Kx | 3 => Lx | 4 => Py | 5 => Ty | 6 => Ky | _ => Ly) (fun _ => .undef)
theorem known : ∀ f, Go.Ev.oneKnown 21 f = true → Go.Ev.Known Tryz.prog f := Go.Ev.oneKnown_ok (Go.Ev.fast_known mixed (Go.Ev.noneKnown_ok _) combatOnceWorks)
theorem four [Go.Ev.Sg] {p t k l : Go.Ev.V} {P T K L : Int} (hp : Go.Ev.VA p (.int .u8 P)) (ht : Go.Ev.VA t (.int .u8 T)) (hk : Go.Ev.VA k (.int .u8 K)) (hl : Go.Ev.VA l (.int .u8 L)) :
    Go.Ev.VA (Go.Ev.vAgg (Go.Ev.rowV [p, t, k, l]) 0 4) (.agg [.int .u8 P, .int .u8 T, .int .u8 K, .int .u8 L]) :=
  @Go.Ev.VA.ofList _ _ [.int .u8 P, .int .u8 T, .int .u8 K, .int .u8 L] (.cons hp (.cons ht (.cons hk (.cons hl .nil)))) (show 4 ≤ 4180 by omega)
theorem val (P T K L : Int) : Go.Ev.VR (fun _ => none) (.agg [.int .u8 P, .int .u8 T, .int .u8 K, .int .u8 L]) (.agg #[.int .u8 P, .int .u8 T, .int .u8 K, .int .u8 L]) :=
  ⟨[.int .u8 P, .int .u8 T, .int .u8 K, .int .u8 L], ⟨_, _, rfl, ⟨_, _, rfl, ⟨_, _, rfl, ⟨_, _, rfl, rfl, rfl⟩, rfl⟩, rfl⟩, rfl⟩, (by intro y hy; simp at hy; rcases hy with rfl | rfl | rfl | rfl <;> rfl), rfl⟩
theorem vals (Px : Int) (Tx : Int) (Kx : Int) (Lx : Int) (Py : Int) (Ty : Int) (Ky : Int) (Ly : Int) : Go.Ev.VRs (fun _ => none) [.agg [.int .u8 Px, .int .u8 Tx, .int .u8 Kx, .int .u8 Lx], .agg [.int .u8 Py, .int .u8 Ty, .int .u8 Ky, .int .u8 Ly]] [.agg #[.int .u8 Px, .int .u8 Tx, .int .u8 Kx, .int .u8 Lx], .agg #[.int .u8 Py, .int .u8 Ty, .int .u8 Ky, .int .u8 Ly]] :=
  ⟨_, _, val _ _ _ _, ⟨_, _, val _ _ _ _, rfl, rfl⟩, rfl⟩
/-- A byte. -/
abbrev byte (n : Int) : Prop := 0 ≤ n ∧ n ≤ 255
set_option maxRecDepth 100000 in
theorem class0 (Px : Int) (Tx : Int) (Kx : Int) (Lx : Int) (Py : Int) (Ty : Int) (Ky : Int) (Ly : Int) (bPx : byte Px) (bTx : byte Tx) (bKx : byte Kx) (bLx : byte Lx) (bPy : byte Py) (bTy : byte Ty) (bKy : byte Ky) (bLy : byte Ly) (hx : Nat.land Kx.toNat 24 = 0) (hy : Nat.land Ky.toNat 1 = 0) (hr : ((0 : Nat) : Int) ≤ Px % ((7 : Nat) : Int) ∧ Px % ((7 : Nat) : Int) ≤ (6 : Nat)) (w : World) : Calls Tryz.prog 4 #[.agg #[.int .u8 Px, .int .u8 Tx, .int .u8 Kx, .int .u8 Lx], .agg #[.int .u8 Py, .int .u8 Ty, .int .u8 Ky, .int .u8 Ly]] w fun e w' => e = .returned (.bool true) ∧ w.keptBut w' (fun _ => False) := by
  letI := sg Px Tx Kx Lx Py Ty Ky Ly
  exact Go.Ev.fast_call mixed known (.cons (four (Go.Ev.VA.byteRes (m := 7) (lo := 0) (hi := 6) (a := 0) (n := Px) rfl bPx hr) (Go.Ev.VA.byteS1 (a := 1) (n := Tx) rfl bTx) (Go.Ev.VA.bitsS (d := 24) (e := 0) (a := 2) (n := Kx) rfl bKx hx) (Go.Ev.VA.byteS1 (a := 3) (n := Lx) rfl bLx)) (.cons (four (Go.Ev.VA.byteS1 (a := 4) (n := Py) rfl bPy) (Go.Ev.VA.byteS1 (a := 5) (n := Ty) rfl bTy) (Go.Ev.VA.bitsS (d := 1) (e := 0) (a := 6) (n := Ky) rfl bKy hy) (Go.Ev.VA.byteS1 (a := 7) (n := Ly) rfl bLy)) .nil)) (vals _ _ _ _ _ _ _ _) combatOnceRuns0 w
set_option maxRecDepth 100000 in
theorem class1 (Px : Int) (Tx : Int) (Kx : Int) (Lx : Int) (Py : Int) (Ty : Int) (Ky : Int) (Ly : Int) (bPx : byte Px) (bTx : byte Tx) (bKx : byte Kx) (bLx : byte Lx) (bPy : byte Py) (bTy : byte Ty) (bKy : byte Ky) (bLy : byte Ly) (hx : Nat.land Kx.toNat 24 = 0) (hy : Nat.land Ky.toNat 1 = 1) (hr : ((0 : Nat) : Int) ≤ Px % ((7 : Nat) : Int) ∧ Px % ((7 : Nat) : Int) ≤ (6 : Nat)) (w : World) : Calls Tryz.prog 4 #[.agg #[.int .u8 Px, .int .u8 Tx, .int .u8 Kx, .int .u8 Lx], .agg #[.int .u8 Py, .int .u8 Ty, .int .u8 Ky, .int .u8 Ly]] w fun e w' => e = .returned (.bool true) ∧ w.keptBut w' (fun _ => False) := by
  letI := sg Px Tx Kx Lx Py Ty Ky Ly
  exact Go.Ev.fast_call mixed known (.cons (four (Go.Ev.VA.byteRes (m := 7) (lo := 0) (hi := 6) (a := 0) (n := Px) rfl bPx hr) (Go.Ev.VA.byteS1 (a := 1) (n := Tx) rfl bTx) (Go.Ev.VA.bitsS (d := 24) (e := 0) (a := 2) (n := Kx) rfl bKx hx) (Go.Ev.VA.byteS1 (a := 3) (n := Lx) rfl bLx)) (.cons (four (Go.Ev.VA.byteS1 (a := 4) (n := Py) rfl bPy) (Go.Ev.VA.byteS1 (a := 5) (n := Ty) rfl bTy) (Go.Ev.VA.bitsS (d := 1) (e := 1) (a := 6) (n := Ky) rfl bKy hy) (Go.Ev.VA.byteS1 (a := 7) (n := Ly) rfl bLy)) .nil)) (vals _ _ _ _ _ _ _ _) combatOnceRuns1 w
set_option maxRecDepth 100000 in
theorem class2 (Px : Int) (Tx : Int) (Kx : Int) (Lx : Int) (Py : Int) (Ty : Int) (Ky : Int) (Ly : Int) (bPx : byte Px) (bTx : byte Tx) (bKx : byte Kx) (bLx : byte Lx) (bPy : byte Py) (bTy : byte Ty) (bKy : byte Ky) (bLy : byte Ly) (hx : Nat.land Kx.toNat 24 = 8) (hy : Nat.land Ky.toNat 1 = 0) (hr : ((0 : Nat) : Int) ≤ Px % ((7 : Nat) : Int) ∧ Px % ((7 : Nat) : Int) ≤ (0 : Nat)) (w : World) : Calls Tryz.prog 4 #[.agg #[.int .u8 Px, .int .u8 Tx, .int .u8 Kx, .int .u8 Lx], .agg #[.int .u8 Py, .int .u8 Ty, .int .u8 Ky, .int .u8 Ly]] w fun e w' => e = .returned (.bool true) ∧ w.keptBut w' (fun _ => False) := by
  letI := sg Px Tx Kx Lx Py Ty Ky Ly
  exact Go.Ev.fast_call mixed known (.cons (four (Go.Ev.VA.byteRes (m := 7) (lo := 0) (hi := 0) (a := 0) (n := Px) rfl bPx hr) (Go.Ev.VA.byteS1 (a := 1) (n := Tx) rfl bTx) (Go.Ev.VA.bitsS (d := 24) (e := 8) (a := 2) (n := Kx) rfl bKx hx) (Go.Ev.VA.byteS1 (a := 3) (n := Lx) rfl bLx)) (.cons (four (Go.Ev.VA.byteS1 (a := 4) (n := Py) rfl bPy) (Go.Ev.VA.byteS1 (a := 5) (n := Ty) rfl bTy) (Go.Ev.VA.bitsS (d := 1) (e := 0) (a := 6) (n := Ky) rfl bKy hy) (Go.Ev.VA.byteS1 (a := 7) (n := Ly) rfl bLy)) .nil)) (vals _ _ _ _ _ _ _ _) combatOnceRuns2 w
set_option maxRecDepth 100000 in
theorem class3 (Px : Int) (Tx : Int) (Kx : Int) (Lx : Int) (Py : Int) (Ty : Int) (Ky : Int) (Ly : Int) (bPx : byte Px) (bTx : byte Tx) (bKx : byte Kx) (bLx : byte Lx) (bPy : byte Py) (bTy : byte Ty) (bKy : byte Ky) (bLy : byte Ly) (hx : Nat.land Kx.toNat 24 = 8) (hy : Nat.land Ky.toNat 1 = 0) (hr : ((1 : Nat) : Int) ≤ Px % ((7 : Nat) : Int) ∧ Px % ((7 : Nat) : Int) ≤ (6 : Nat)) (w : World) : Calls Tryz.prog 4 #[.agg #[.int .u8 Px, .int .u8 Tx, .int .u8 Kx, .int .u8 Lx], .agg #[.int .u8 Py, .int .u8 Ty, .int .u8 Ky, .int .u8 Ly]] w fun e w' => e = .returned (.bool true) ∧ w.keptBut w' (fun _ => False) := by
  letI := sg Px Tx Kx Lx Py Ty Ky Ly
  exact Go.Ev.fast_call mixed known (.cons (four (Go.Ev.VA.byteRes (m := 7) (lo := 1) (hi := 6) (a := 0) (n := Px) rfl bPx hr) (Go.Ev.VA.byteS1 (a := 1) (n := Tx) rfl bTx) (Go.Ev.VA.bitsS (d := 24) (e := 8) (a := 2) (n := Kx) rfl bKx hx) (Go.Ev.VA.byteS1 (a := 3) (n := Lx) rfl bLx)) (.cons (four (Go.Ev.VA.byteS1 (a := 4) (n := Py) rfl bPy) (Go.Ev.VA.byteS1 (a := 5) (n := Ty) rfl bTy) (Go.Ev.VA.bitsS (d := 1) (e := 0) (a := 6) (n := Ky) rfl bKy hy) (Go.Ev.VA.byteS1 (a := 7) (n := Ly) rfl bLy)) .nil)) (vals _ _ _ _ _ _ _ _) combatOnceRuns3 w
set_option maxRecDepth 100000 in
theorem class4 (Px : Int) (Tx : Int) (Kx : Int) (Lx : Int) (Py : Int) (Ty : Int) (Ky : Int) (Ly : Int) (bPx : byte Px) (bTx : byte Tx) (bKx : byte Kx) (bLx : byte Lx) (bPy : byte Py) (bTy : byte Ty) (bKy : byte Ky) (bLy : byte Ly) (hx : Nat.land Kx.toNat 24 = 8) (hy : Nat.land Ky.toNat 1 = 1) (hr : ((0 : Nat) : Int) ≤ Px % ((7 : Nat) : Int) ∧ Px % ((7 : Nat) : Int) ≤ (0 : Nat)) (w : World) : Calls Tryz.prog 4 #[.agg #[.int .u8 Px, .int .u8 Tx, .int .u8 Kx, .int .u8 Lx], .agg #[.int .u8 Py, .int .u8 Ty, .int .u8 Ky, .int .u8 Ly]] w fun e w' => e = .returned (.bool true) ∧ w.keptBut w' (fun _ => False) := by
  letI := sg Px Tx Kx Lx Py Ty Ky Ly
  exact Go.Ev.fast_call mixed known (.cons (four (Go.Ev.VA.byteRes (m := 7) (lo := 0) (hi := 0) (a := 0) (n := Px) rfl bPx hr) (Go.Ev.VA.byteS1 (a := 1) (n := Tx) rfl bTx) (Go.Ev.VA.bitsS (d := 24) (e := 8) (a := 2) (n := Kx) rfl bKx hx) (Go.Ev.VA.byteS1 (a := 3) (n := Lx) rfl bLx)) (.cons (four (Go.Ev.VA.byteS1 (a := 4) (n := Py) rfl bPy) (Go.Ev.VA.byteS1 (a := 5) (n := Ty) rfl bTy) (Go.Ev.VA.bitsS (d := 1) (e := 1) (a := 6) (n := Ky) rfl bKy hy) (Go.Ev.VA.byteS1 (a := 7) (n := Ly) rfl bLy)) .nil)) (vals _ _ _ _ _ _ _ _) combatOnceRuns4 w
set_option maxRecDepth 100000 in
theorem class5 (Px : Int) (Tx : Int) (Kx : Int) (Lx : Int) (Py : Int) (Ty : Int) (Ky : Int) (Ly : Int) (bPx : byte Px) (bTx : byte Tx) (bKx : byte Kx) (bLx : byte Lx) (bPy : byte Py) (bTy : byte Ty) (bKy : byte Ky) (bLy : byte Ly) (hx : Nat.land Kx.toNat 24 = 8) (hy : Nat.land Ky.toNat 1 = 1) (hr : ((1 : Nat) : Int) ≤ Px % ((7 : Nat) : Int) ∧ Px % ((7 : Nat) : Int) ≤ (6 : Nat)) (w : World) : Calls Tryz.prog 4 #[.agg #[.int .u8 Px, .int .u8 Tx, .int .u8 Kx, .int .u8 Lx], .agg #[.int .u8 Py, .int .u8 Ty, .int .u8 Ky, .int .u8 Ly]] w fun e w' => e = .returned (.bool true) ∧ w.keptBut w' (fun _ => False) := by
  letI := sg Px Tx Kx Lx Py Ty Ky Ly
  exact Go.Ev.fast_call mixed known (.cons (four (Go.Ev.VA.byteRes (m := 7) (lo := 1) (hi := 6) (a := 0) (n := Px) rfl bPx hr) (Go.Ev.VA.byteS1 (a := 1) (n := Tx) rfl bTx) (Go.Ev.VA.bitsS (d := 24) (e := 8) (a := 2) (n := Kx) rfl bKx hx) (Go.Ev.VA.byteS1 (a := 3) (n := Lx) rfl bLx)) (.cons (four (Go.Ev.VA.byteS1 (a := 4) (n := Py) rfl bPy) (Go.Ev.VA.byteS1 (a := 5) (n := Ty) rfl bTy) (Go.Ev.VA.bitsS (d := 1) (e := 1) (a := 6) (n := Ky) rfl bKy hy) (Go.Ev.VA.byteS1 (a := 7) (n := Ly) rfl bLy)) .nil)) (vals _ _ _ _ _ _ _ _) combatOnceRuns5 w
set_option maxRecDepth 100000 in
theorem class6 (Px : Int) (Tx : Int) (Kx : Int) (Lx : Int) (Py : Int) (Ty : Int) (Ky : Int) (Ly : Int) (bPx : byte Px) (bTx : byte Tx) (bKx : byte Kx) (bLx : byte Lx) (bPy : byte Py) (bTy : byte Ty) (bKy : byte Ky) (bLy : byte Ly) (hx : Nat.land Kx.toNat 24 = 16) (hy : Nat.land Ky.toNat 1 = 0) (hr : ((0 : Nat) : Int) ≤ Px % ((7 : Nat) : Int) ∧ Px % ((7 : Nat) : Int) ≤ (6 : Nat)) (w : World) : Calls Tryz.prog 4 #[.agg #[.int .u8 Px, .int .u8 Tx, .int .u8 Kx, .int .u8 Lx], .agg #[.int .u8 Py, .int .u8 Ty, .int .u8 Ky, .int .u8 Ly]] w fun e w' => e = .returned (.bool true) ∧ w.keptBut w' (fun _ => False) := by
  letI := sg Px Tx Kx Lx Py Ty Ky Ly
  exact Go.Ev.fast_call mixed known (.cons (four (Go.Ev.VA.byteRes (m := 7) (lo := 0) (hi := 6) (a := 0) (n := Px) rfl bPx hr) (Go.Ev.VA.byteS1 (a := 1) (n := Tx) rfl bTx) (Go.Ev.VA.bitsS (d := 24) (e := 16) (a := 2) (n := Kx) rfl bKx hx) (Go.Ev.VA.byteS1 (a := 3) (n := Lx) rfl bLx)) (.cons (four (Go.Ev.VA.byteS1 (a := 4) (n := Py) rfl bPy) (Go.Ev.VA.byteS1 (a := 5) (n := Ty) rfl bTy) (Go.Ev.VA.bitsS (d := 1) (e := 0) (a := 6) (n := Ky) rfl bKy hy) (Go.Ev.VA.byteS1 (a := 7) (n := Ly) rfl bLy)) .nil)) (vals _ _ _ _ _ _ _ _) combatOnceRuns6 w
set_option maxRecDepth 100000 in
theorem class7 (Px : Int) (Tx : Int) (Kx : Int) (Lx : Int) (Py : Int) (Ty : Int) (Ky : Int) (Ly : Int) (bPx : byte Px) (bTx : byte Tx) (bKx : byte Kx) (bLx : byte Lx) (bPy : byte Py) (bTy : byte Ty) (bKy : byte Ky) (bLy : byte Ly) (hx : Nat.land Kx.toNat 24 = 16) (hy : Nat.land Ky.toNat 1 = 1) (hr : ((0 : Nat) : Int) ≤ Px % ((7 : Nat) : Int) ∧ Px % ((7 : Nat) : Int) ≤ (6 : Nat)) (w : World) : Calls Tryz.prog 4 #[.agg #[.int .u8 Px, .int .u8 Tx, .int .u8 Kx, .int .u8 Lx], .agg #[.int .u8 Py, .int .u8 Ty, .int .u8 Ky, .int .u8 Ly]] w fun e w' => e = .returned (.bool true) ∧ w.keptBut w' (fun _ => False) := by
  letI := sg Px Tx Kx Lx Py Ty Ky Ly
  exact Go.Ev.fast_call mixed known (.cons (four (Go.Ev.VA.byteRes (m := 7) (lo := 0) (hi := 6) (a := 0) (n := Px) rfl bPx hr) (Go.Ev.VA.byteS1 (a := 1) (n := Tx) rfl bTx) (Go.Ev.VA.bitsS (d := 24) (e := 16) (a := 2) (n := Kx) rfl bKx hx) (Go.Ev.VA.byteS1 (a := 3) (n := Lx) rfl bLx)) (.cons (four (Go.Ev.VA.byteS1 (a := 4) (n := Py) rfl bPy) (Go.Ev.VA.byteS1 (a := 5) (n := Ty) rfl bTy) (Go.Ev.VA.bitsS (d := 1) (e := 1) (a := 6) (n := Ky) rfl bKy hy) (Go.Ev.VA.byteS1 (a := 7) (n := Ly) rfl bLy)) .nil)) (vals _ _ _ _ _ _ _ _) combatOnceRuns7 w
set_option maxRecDepth 100000 in
theorem class8 (Px : Int) (Tx : Int) (Kx : Int) (Lx : Int) (Py : Int) (Ty : Int) (Ky : Int) (Ly : Int) (bPx : byte Px) (bTx : byte Tx) (bKx : byte Kx) (bLx : byte Lx) (bPy : byte Py) (bTy : byte Ty) (bKy : byte Ky) (bLy : byte Ly) (hx : Nat.land Kx.toNat 24 = 24) (hy : Nat.land Ky.toNat 1 = 0) (hr : ((0 : Nat) : Int) ≤ Px % ((7 : Nat) : Int) ∧ Px % ((7 : Nat) : Int) ≤ (0 : Nat)) (w : World) : Calls Tryz.prog 4 #[.agg #[.int .u8 Px, .int .u8 Tx, .int .u8 Kx, .int .u8 Lx], .agg #[.int .u8 Py, .int .u8 Ty, .int .u8 Ky, .int .u8 Ly]] w fun e w' => e = .returned (.bool true) ∧ w.keptBut w' (fun _ => False) := by
  letI := sg Px Tx Kx Lx Py Ty Ky Ly
  exact Go.Ev.fast_call mixed known (.cons (four (Go.Ev.VA.byteRes (m := 7) (lo := 0) (hi := 0) (a := 0) (n := Px) rfl bPx hr) (Go.Ev.VA.byteS1 (a := 1) (n := Tx) rfl bTx) (Go.Ev.VA.bitsS (d := 24) (e := 24) (a := 2) (n := Kx) rfl bKx hx) (Go.Ev.VA.byteS1 (a := 3) (n := Lx) rfl bLx)) (.cons (four (Go.Ev.VA.byteS1 (a := 4) (n := Py) rfl bPy) (Go.Ev.VA.byteS1 (a := 5) (n := Ty) rfl bTy) (Go.Ev.VA.bitsS (d := 1) (e := 0) (a := 6) (n := Ky) rfl bKy hy) (Go.Ev.VA.byteS1 (a := 7) (n := Ly) rfl bLy)) .nil)) (vals _ _ _ _ _ _ _ _) combatOnceRuns8 w
set_option maxRecDepth 100000 in
theorem class9 (Px : Int) (Tx : Int) (Kx : Int) (Lx : Int) (Py : Int) (Ty : Int) (Ky : Int) (Ly : Int) (bPx : byte Px) (bTx : byte Tx) (bKx : byte Kx) (bLx : byte Lx) (bPy : byte Py) (bTy : byte Ty) (bKy : byte Ky) (bLy : byte Ly) (hx : Nat.land Kx.toNat 24 = 24) (hy : Nat.land Ky.toNat 1 = 0) (hr : ((1 : Nat) : Int) ≤ Px % ((7 : Nat) : Int) ∧ Px % ((7 : Nat) : Int) ≤ (6 : Nat)) (w : World) : Calls Tryz.prog 4 #[.agg #[.int .u8 Px, .int .u8 Tx, .int .u8 Kx, .int .u8 Lx], .agg #[.int .u8 Py, .int .u8 Ty, .int .u8 Ky, .int .u8 Ly]] w fun e w' => e = .returned (.bool true) ∧ w.keptBut w' (fun _ => False) := by
  letI := sg Px Tx Kx Lx Py Ty Ky Ly
  exact Go.Ev.fast_call mixed known (.cons (four (Go.Ev.VA.byteRes (m := 7) (lo := 1) (hi := 6) (a := 0) (n := Px) rfl bPx hr) (Go.Ev.VA.byteS1 (a := 1) (n := Tx) rfl bTx) (Go.Ev.VA.bitsS (d := 24) (e := 24) (a := 2) (n := Kx) rfl bKx hx) (Go.Ev.VA.byteS1 (a := 3) (n := Lx) rfl bLx)) (.cons (four (Go.Ev.VA.byteS1 (a := 4) (n := Py) rfl bPy) (Go.Ev.VA.byteS1 (a := 5) (n := Ty) rfl bTy) (Go.Ev.VA.bitsS (d := 1) (e := 0) (a := 6) (n := Ky) rfl bKy hy) (Go.Ev.VA.byteS1 (a := 7) (n := Ly) rfl bLy)) .nil)) (vals _ _ _ _ _ _ _ _) combatOnceRuns9 w
set_option maxRecDepth 100000 in
theorem class10 (Px : Int) (Tx : Int) (Kx : Int) (Lx : Int) (Py : Int) (Ty : Int) (Ky : Int) (Ly : Int) (bPx : byte Px) (bTx : byte Tx) (bKx : byte Kx) (bLx : byte Lx) (bPy : byte Py) (bTy : byte Ty) (bKy : byte Ky) (bLy : byte Ly) (hx : Nat.land Kx.toNat 24 = 24) (hy : Nat.land Ky.toNat 1 = 1) (hr : ((0 : Nat) : Int) ≤ Px % ((7 : Nat) : Int) ∧ Px % ((7 : Nat) : Int) ≤ (0 : Nat)) (w : World) : Calls Tryz.prog 4 #[.agg #[.int .u8 Px, .int .u8 Tx, .int .u8 Kx, .int .u8 Lx], .agg #[.int .u8 Py, .int .u8 Ty, .int .u8 Ky, .int .u8 Ly]] w fun e w' => e = .returned (.bool true) ∧ w.keptBut w' (fun _ => False) := by
  letI := sg Px Tx Kx Lx Py Ty Ky Ly
  exact Go.Ev.fast_call mixed known (.cons (four (Go.Ev.VA.byteRes (m := 7) (lo := 0) (hi := 0) (a := 0) (n := Px) rfl bPx hr) (Go.Ev.VA.byteS1 (a := 1) (n := Tx) rfl bTx) (Go.Ev.VA.bitsS (d := 24) (e := 24) (a := 2) (n := Kx) rfl bKx hx) (Go.Ev.VA.byteS1 (a := 3) (n := Lx) rfl bLx)) (.cons (four (Go.Ev.VA.byteS1 (a := 4) (n := Py) rfl bPy) (Go.Ev.VA.byteS1 (a := 5) (n := Ty) rfl bTy) (Go.Ev.VA.bitsS (d := 1) (e := 1) (a := 6) (n := Ky) rfl bKy hy) (Go.Ev.VA.byteS1 (a := 7) (n := Ly) rfl bLy)) .nil)) (vals _ _ _ _ _ _ _ _) combatOnceRuns10 w
set_option maxRecDepth 100000 in
theorem class11 (Px : Int) (Tx : Int) (Kx : Int) (Lx : Int) (Py : Int) (Ty : Int) (Ky : Int) (Ly : Int) (bPx : byte Px) (bTx : byte Tx) (bKx : byte Kx) (bLx : byte Lx) (bPy : byte Py) (bTy : byte Ty) (bKy : byte Ky) (bLy : byte Ly) (hx : Nat.land Kx.toNat 24 = 24) (hy : Nat.land Ky.toNat 1 = 1) (hr : ((1 : Nat) : Int) ≤ Px % ((7 : Nat) : Int) ∧ Px % ((7 : Nat) : Int) ≤ (6 : Nat)) (w : World) : Calls Tryz.prog 4 #[.agg #[.int .u8 Px, .int .u8 Tx, .int .u8 Kx, .int .u8 Lx], .agg #[.int .u8 Py, .int .u8 Ty, .int .u8 Ky, .int .u8 Ly]] w fun e w' => e = .returned (.bool true) ∧ w.keptBut w' (fun _ => False) := by
  letI := sg Px Tx Kx Lx Py Ty Ky Ly
  exact Go.Ev.fast_call mixed known (.cons (four (Go.Ev.VA.byteRes (m := 7) (lo := 1) (hi := 6) (a := 0) (n := Px) rfl bPx hr) (Go.Ev.VA.byteS1 (a := 1) (n := Tx) rfl bTx) (Go.Ev.VA.bitsS (d := 24) (e := 24) (a := 2) (n := Kx) rfl bKx hx) (Go.Ev.VA.byteS1 (a := 3) (n := Lx) rfl bLx)) (.cons (four (Go.Ev.VA.byteS1 (a := 4) (n := Py) rfl bPy) (Go.Ev.VA.byteS1 (a := 5) (n := Ty) rfl bTy) (Go.Ev.VA.bitsS (d := 1) (e := 1) (a := 6) (n := Ky) rfl bKy hy) (Go.Ev.VA.byteS1 (a := 7) (n := Ly) rfl bLy)) .nil)) (vals _ _ _ _ _ _ _ _) combatOnceRuns11 w
theorem land24 (n : Nat) : Nat.land n 24 = 0 ∨ Nat.land n 24 = 8 ∨ Nat.land n 24 = 16 ∨ Nat.land n 24 = 24 := by
  have h : n &&& 24 = (n % 32) &&& 24 := by
    have h2 : n % 32 = n &&& 31 := by rw [show (31 : Nat) = 2 ^ 5 - 1 from rfl, Nat.and_two_pow_sub_one_eq_mod]
    rw [h2, Nat.and_assoc]
    rfl
  have hd : ∀ m : Fin 32, (m.val &&& 24 = 0 ∨ m.val &&& 24 = 8 ∨ m.val &&& 24 = 16 ∨ m.val &&& 24 = 24) := by decide
  have := hd ⟨n % 32, by omega⟩
  show n &&& 24 = 0 ∨ n &&& 24 = 8 ∨ n &&& 24 = 16 ∨ n &&& 24 = 24
  rw [h]
  exact this
theorem land1 (n : Nat) : Nat.land n 1 = 0 ∨ Nat.land n 1 = 1 := by
  have h : n &&& 1 = n % 2 := Nat.and_one_is_mod n
  show n &&& 1 = 0 ∨ n &&& 1 = 1
  omega
theorem walk (Px : Int) (Tx : Int) (Kx : Int) (Lx : Int) (Py : Int) (Ty : Int) (Ky : Int) (Ly : Int) (bPx : byte Px) (bTx : byte Tx) (bKx : byte Kx) (bLx : byte Lx) (bPy : byte Py) (bTy : byte Ty) (bKy : byte Ky) (bLy : byte Ly) (w : World) : Calls Tryz.prog 4 #[.agg #[.int .u8 Px, .int .u8 Tx, .int .u8 Kx, .int .u8 Lx], .agg #[.int .u8 Py, .int .u8 Ty, .int .u8 Ky, .int .u8 Ly]] w fun e w' => e = .returned (.bool true) ∧ w.keptBut w' (fun _ => False) := by
  have hall : ((0 : Nat) : Int) ≤ Px % ((7 : Nat) : Int) ∧ Px % ((7 : Nat) : Int) ≤ (6 : Nat) := by omega
  have hres : (((0 : Nat) : Int) ≤ Px % ((7 : Nat) : Int) ∧ Px % ((7 : Nat) : Int) ≤ (0 : Nat)) ∨ (((1 : Nat) : Int) ≤ Px % ((7 : Nat) : Int) ∧ Px % ((7 : Nat) : Int) ≤ (6 : Nat)) := by omega
  rcases land24 Kx.toNat with hx | hx | hx | hx <;> rcases land1 Ky.toNat with hy | hy
  · exact class0 Px Tx Kx Lx Py Ty Ky Ly bPx bTx bKx bLx bPy bTy bKy bLy hx hy hall w
  · exact class1 Px Tx Kx Lx Py Ty Ky Ly bPx bTx bKx bLx bPy bTy bKy bLy hx hy hall w
  · rcases hres with hr | hr
    · exact class2 Px Tx Kx Lx Py Ty Ky Ly bPx bTx bKx bLx bPy bTy bKy bLy hx hy hr w
    · exact class3 Px Tx Kx Lx Py Ty Ky Ly bPx bTx bKx bLx bPy bTy bKy bLy hx hy hr w
  · rcases hres with hr | hr
    · exact class4 Px Tx Kx Lx Py Ty Ky Ly bPx bTx bKx bLx bPy bTy bKy bLy hx hy hr w
    · exact class5 Px Tx Kx Lx Py Ty Ky Ly bPx bTx bKx bLx bPy bTy bKy bLy hx hy hr w
  · exact class6 Px Tx Kx Lx Py Ty Ky Ly bPx bTx bKx bLx bPy bTy bKy bLy hx hy hall w
  · exact class7 Px Tx Kx Lx Py Ty Ky Ly bPx bTx bKx bLx bPy bTy bKy bLy hx hy hall w
  · rcases hres with hr | hr
    · exact class8 Px Tx Kx Lx Py Ty Ky Ly bPx bTx bKx bLx bPy bTy bKy bLy hx hy hr w
    · exact class9 Px Tx Kx Lx Py Ty Ky Ly bPx bTx bKx bLx bPy bTy bKy bLy hx hy hr w
  · rcases hres with hr | hr
    · exact class10 Px Tx Kx Lx Py Ty Ky Ly bPx bTx bKx bLx bPy bTy bKy bLy hx hy hr w
    · exact class11 Px Tx Kx Lx Py Ty Ky Ly bPx bTx bKx bLx bPy bTy bKy bLy hx hy hr w
set_option maxRecDepth 100000 in
/-- A fighter's four bytes. -/
theorem opened {H : Type} {enc : TypeId × Value → H} {W : World} {base : Nat} {spare : Nat → Bool} {held : Bool} {v : Value} {d : DataW H} {p : List MemPlace} (hv : Value.okWide Tryz.prog W .any base 41 v)
    (hd : DataW.Trod enc Tryz.prog W 0 spare held 41 v d p) : ∃ P T K L : Int, v = .agg #[.int .u8 P, .int .u8 T, .int .u8 K, .int .u8 L] ∧ p = [] ∧ (byte P ∧ byte T ∧ byte K ∧ byte L) ∧
      ∀ (W' : World) (sp : Nat → Bool) (hd : Bool), DataW.Trod enc Tryz.prog W' 0 sp hd 41 v d [] := by
  obtain ⟨cs, rfl, hs⟩ := okWide_struct Tryz.underlying41 hv
  obtain ⟨fuel, hf⟩ := hd
  have hf : DataW.trod enc Tryz.prog W 0 spare held fuel 41 cs.toList = some (d, p) := hf
  obtain ⟨xs, n, rfl, hx, hl, hxl, hfld⟩ := DataW.trod_struct Tryz.underlying41 hf
  have c1 : Tryz.prog.cellsOf 5 = 1 := cellsI
  have c4 : Tryz.prog.cellsOf 41 = 4 := cellsO
  obtain ⟨l, rfl⟩ : ∃ l : List Value, cs = l.toArray := ⟨cs.toList, by simp⟩
  simp only [List.size_toArray] at hs
  rw [c4] at hs
  match l, hs, xs, hxl with
  | [x0, x1, x2, x3], _, [y0, y1, y2, y3], _ =>
    have h0 := hfld 0 _ rfl
    have h1 := hfld 1 _ rfl
    have h2 := hfld 2 _ rfl
    have h3 := hfld 3 _ rfl
    have h0 : DataW.trod enc Tryz.prog W 0 spare held n 5 (([x0, x1, x2, x3].drop 0).take (Tryz.prog.cellsOf 5)) = some y0 := h0
    have h1 : DataW.trod enc Tryz.prog W 0 spare held n 5 (([x0, x1, x2, x3].drop 1).take (Tryz.prog.cellsOf 5)) = some y1 := h1
    have h2 : DataW.trod enc Tryz.prog W 0 spare held n 5 (([x0, x1, x2, x3].drop 2).take (Tryz.prog.cellsOf 5)) = some y2 := h2
    have h3 : DataW.trod enc Tryz.prog W 0 spare held n 5 (([x0, x1, x2, x3].drop 3).take (Tryz.prog.cellsOf 5)) = some y3 := h3
    rw [c1] at h0 h1 h2 h3
    obtain ⟨P, e0, rfl, w0⟩ := DataW.trod_int Tryz.underlying5 h0
    have e0 : [x0] = [.int .u8 P] := e0
    obtain ⟨T, e1, rfl, w1⟩ := DataW.trod_int Tryz.underlying5 h1
    have e1 : [x1] = [.int .u8 T] := e1
    obtain ⟨K, e2, rfl, w2⟩ := DataW.trod_int Tryz.underlying5 h2
    have e2 : [x2] = [.int .u8 K] := e2
    obtain ⟨L, e3, rfl, w3⟩ := DataW.trod_int Tryz.underlying5 h3
    have e3 : [x3] = [.int .u8 L] := e3
    cases e0; cases e1; cases e2; cases e3
    simp only [Prod.mk.injEq] at hx
    obtain ⟨rfl, rfl⟩ := hx
    refine ⟨P, T, K, L, rfl, rfl, ⟨Go.bounds_u8 w0, Go.bounds_u8 w1, Go.bounds_u8 w2, Go.bounds_u8 w3⟩, fun W' sp hd => ⟨2, ?_⟩⟩
    have t0 : DataW.trod enc Tryz.prog W' 0 sp hd 1 5 (([Value.int .u8 P, .int .u8 T, .int .u8 K, .int .u8 L].drop 0).take (Tryz.prog.cellsOf 5)) = some (.lit (.int .u8 P), []) := by rw [c1]; exact trod_int_mk 0 Tryz.underlying5 w0
    have t1 : DataW.trod enc Tryz.prog W' 0 sp hd 1 5 (([Value.int .u8 P, .int .u8 T, .int .u8 K, .int .u8 L].drop 1).take (Tryz.prog.cellsOf 5)) = some (.lit (.int .u8 T), []) := by rw [c1]; exact trod_int_mk 0 Tryz.underlying5 w1
    have t2 : DataW.trod enc Tryz.prog W' 0 sp hd 1 5 (([Value.int .u8 P, .int .u8 T, .int .u8 K, .int .u8 L].drop 2).take (Tryz.prog.cellsOf 5)) = some (.lit (.int .u8 K), []) := by rw [c1]; exact trod_int_mk 0 Tryz.underlying5 w2
    have t3 : DataW.trod enc Tryz.prog W' 0 sp hd 1 5 (([Value.int .u8 P, .int .u8 T, .int .u8 K, .int .u8 L].drop 3).take (Tryz.prog.cellsOf 5)) = some (.lit (.int .u8 L), []) := by rw [c1]; exact trod_int_mk 0 Tryz.underlying5 w3
    refine trod_struct_mk (cs := [Value.int .u8 P, .int .u8 T, .int .u8 K, .int .u8 L]) (xs := [(.lit (.int .u8 P), []), (.lit (.int .u8 T), []), (.lit (.int .u8 K), []), (.lit (.int .u8 L), [])]) Tryz.underlying41 (by rw [c4]; rfl) ?_
    simp only [List.mapM_cons, List.mapM_nil]
    rw [t0, t1, t2, t3]
    rfl
set_option maxRecDepth 100000 in
theorem lifted (os : Os) (started : os.Started) (H : Type) (enc : TypeId × Value → H) :
    ReturnsInHanded {} Tryz.checked os 4 .any (Rows.combatOnceSpec.pre6 enc Tryz.prog Tryz.f4 Rows.combatOnceRow.domain false) (Rows.combatOnceSpec.post enc Tryz.prog Tryz.f4 false true false false) := by
  refine returnsInHanded_of_change (C := Tryz.checked) own started (by kernel_rfl) Tryz.func4
    (ChangeSpec.witness6 (enc := enc) (C := Tryz.checked) false ⟨#[], #[.agg #[.int .u8 0, .int .u8 0, .int .u8 0, .int .u8 0], .agg #[.int .u8 0, .int .u8 0, .int .u8 0, .int .u8 0]], []⟩ 8 (by kernel_rfl) (by kernel_rfl) (by kernel_rfl) (by kernel_rfl)) ?_
  intro W base args ds gs before hval0 hW hcnd _
  have hW' := hW
  obtain ⟨p, q, hA0, hV, rfl, hfz, hnd⟩ := hW
  have hA : DataW.TrodAll enc Tryz.prog W 0 (fun _ => true) true Tryz.f4.params.toList args.toList ds p := hA0
  rw [Tryz.params4] at hA
  obtain ⟨v1, v2, d1, d2, p1, p2, rfl, rfl, rfl, hd1, hd2⟩ := trodAll_two hA
  obtain ⟨rfl, rfl⟩ := trodVars_none hV
  obtain ⟨Px, Tx, Kx, Lx, rfl, rfl, ⟨bPx, bTx, bKx, bLx⟩, back1⟩ := opened (hval0 0 _ _ rfl rfl) hd1
  obtain ⟨Py, Ty, Ky, Ly, rfl, rfl, ⟨bPy, bTy, bKy, bLy⟩, back2⟩ := opened (hval0 1 _ _ rfl rfl) hd2
  simp only [List.append_nil] at hW'
  refine (walk Px Tx Kx Lx Py Ty Ky Ly bPx bTx bKx bLx bPy bTy bKy bLy W).mono fun e W' ⟨he, hg⟩ => ?_
  subst he
  exact ⟨_, rfl, ⟨_, [], [], [], [], [], hW', trodAll_cons_mk (shut_bool Tryz.underlying4 _) trodAll_mk0, trodAll_mk2 (back1 _ _ _) (back2 _ _ _), rfl, World.keptBut_mono (fun _ hp => hp.elim) hg, fun h => absurd h (by decide)⟩⟩

theorem isNamed : Tryz.pinned.checked.prog.funcNamed Rows.combatOnceRow.func = some 4 := by kernel_rfl
theorem isWrapped : Tryz.f4.isWrapper Tryz.pinned.checked.prog Rows.combatOnceRow.wrapper Rows.combatOnceRow.mainSum := by
  unfold Func.isWrapper
  first | (rw [if_pos (by decide +kernel)]; kernel_rfl) | (rw [if_neg (by decide +kernel)]; exact ⟨rfl, rfl⟩)

theorem over : Rows.combatOnceRow.holds Tryz.pinned (OpenSpec.ofChange Rows.combatOnceSpec) :=
  OpenClaim.holds_of_wide 4 Tryz.f4 rfl rfl rfl rfl rfl rfl rfl ⟨rfl, rfl, rfl, rfl, rfl⟩ rfl rfl rfl rfl rfl isNamed Tryz.func4 facts
    (of_decide_eq_true (by kernel_rfl)) isWrapped
    (fun os started H enc _ => lifted os started H enc)

theorem proved : Rows.CombatOnceSaid := over
#print axioms proved
end Go.Proofs.YtnlndbanfdjaiaaGreat.combatOnce
