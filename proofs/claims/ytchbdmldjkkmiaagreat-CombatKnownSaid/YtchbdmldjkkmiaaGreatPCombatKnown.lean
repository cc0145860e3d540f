/- Proved here: the law CombatKnown, as the given statement says it. Conditions: none. -/
import Derived.Test.YtchbdmldjkkmiaaGreatKCombatKnown
import Derived.Test.YtchbdmldjkkmiaaGreatKWCombatKnown
import Derived.Test.YtchbdmldjkkmiaaGreatFCombatKnown
import Derived.Test.YtchbdmldjkkmiaaGreatEvH
import Derived.ProofKit
import Derived.OpenShut
namespace Go.Proofs.YtchbdmldjkkmiaaGreat.combatKnown
open Go.ChangeShapes Go.WideShapes Go.ChangeAt Go.RowKit
set_option linter.unusedVariables false

theorem own : ownKnob Tryz.prog.godebug = none := by kernel_rfl
theorem mixed : Tryz.prog.follows .mixedOrders = true := by kernel_rfl
theorem walk (w : World) : Calls Tryz.prog 5 #[] w fun e w' => e = .returned (.bool true) ∧ w.keptBut w' (fun _ => False) :=
  Go.Ev.law_walk (Go.Ev.fast_known mixed (Go.Ev.oneKnown_ok (Go.Ev.fast_known mixed (Go.Ev.noneKnown_ok _) combatKnownWorks)) combatKnownRuns) w

set_option maxRecDepth 100000 in
theorem lifted (os : Os) (started : os.Started) (H : Type) (enc : TypeId × Value → H) :
    ReturnsInHanded {} Tryz.checked os 5 .any (Rows.combatKnownSpec.pre6 enc Tryz.prog Tryz.f5 Rows.combatKnownRow.domain false) (Rows.combatKnownSpec.post enc Tryz.prog Tryz.f5 false true false false) := by
  refine returnsInHanded_of_change (C := Tryz.checked) own started (by kernel_rfl) Tryz.func5
    (ChangeSpec.witness6 (enc := enc) (C := Tryz.checked) false ⟨#[], #[], []⟩ 8 (by kernel_rfl) (by kernel_rfl) (by kernel_rfl) (by kernel_rfl)) ?_
  intro W base args ds gs before hval0 hW hcnd _
  have hW' := hW
  obtain ⟨p, q, hA0, hV, rfl, hfz, hnd⟩ := hW
  have hA : DataW.TrodAll enc Tryz.prog W 0 (fun _ => true) true Tryz.f5.params.toList args.toList ds p := hA0
  rw [Tryz.params5] at hA
  obtain ⟨rfl, rfl, rfl⟩ := trodAll_none hA
  obtain ⟨rfl, rfl⟩ := trodVars_none hV
  simp only [List.append_nil] at hW'
  refine (walk W).mono fun e W' ⟨he, hg⟩ => ?_
  subst he
  exact ⟨_, rfl, ⟨[], [], [], [], [], [], hW', trodAll_cons_mk (shut_bool Tryz.underlying4 _) trodAll_mk0, rfl, rfl, World.keptBut_mono (fun _ hp => hp.elim) hg, fun h => absurd h (by decide)⟩⟩

theorem isNamed : Tryz.pinned.checked.prog.funcNamed Rows.combatKnownRow.func = some 5 := by kernel_rfl
theorem isWrapped : Tryz.f5.isWrapper Tryz.pinned.checked.prog Rows.combatKnownRow.wrapper Rows.combatKnownRow.mainSum := by
  unfold Func.isWrapper
  first | (rw [if_pos (by decide +kernel)]; kernel_rfl) | (rw [if_neg (by decide +kernel)]; exact ⟨rfl, rfl⟩)

theorem over : Rows.combatKnownRow.holds Tryz.pinned (OpenSpec.ofChange Rows.combatKnownSpec) :=
  OpenClaim.holds_of_wide 5 Tryz.f5 rfl rfl rfl rfl rfl rfl rfl ⟨rfl, rfl, rfl, rfl, rfl⟩ rfl rfl rfl rfl rfl isNamed Tryz.func5 facts
    (of_decide_eq_true (by kernel_rfl)) isWrapped
    (fun os started H enc _ => lifted os started H enc)

theorem proved : Rows.CombatKnownSaid := over
#print axioms proved
end Go.Proofs.YtchbdmldjkkmiaaGreat.combatKnown
