/- Proved here: the law TurnKnown, as the given statement says it. Conditions: none. -/
import Derived.Test.YtchbdmldjkkmiaaGreatKTurnKnown
import Derived.Test.YtchbdmldjkkmiaaGreatKWTurnKnown
import Derived.Test.YtchbdmldjkkmiaaGreatFTurnKnown
import Derived.Test.YtchbdmldjkkmiaaGreatEvH
import Derived.ProofKit
import Derived.OpenShut
namespace Go.Proofs.YtchbdmldjkkmiaaGreat.turnKnown
open Go.ChangeShapes Go.WideShapes Go.ChangeAt Go.RowKit
set_option linter.unusedVariables false

theorem own : ownKnob Tryz.prog.godebug = none := by kernel_rfl
theorem mixed : Tryz.prog.follows .mixedOrders = true := by kernel_rfl
theorem walk (w : World) : Calls Tryz.prog 8 #[] w fun e w' => e = .returned (.bool true) ∧ w.keptBut w' (fun _ => False) :=
  Go.Ev.law_walk (Go.Ev.fast_known mixed (Go.Ev.oneKnown_ok (Go.Ev.fast_known mixed (Go.Ev.noneKnown_ok _) turnKnownWorks)) turnKnownRuns) w

set_option maxRecDepth 100000 in
theorem lifted (os : Os) (started : os.Started) (H : Type) (enc : TypeId × Value → H) :
    ReturnsInHanded {} Tryz.checked os 8 .any (Rows.turnKnownSpec.pre6 enc Tryz.prog Tryz.f8 Rows.turnKnownRow.domain false) (Rows.turnKnownSpec.post enc Tryz.prog Tryz.f8 false true false false) := by
  refine returnsInHanded_of_change (C := Tryz.checked) own started (by kernel_rfl) Tryz.func8
    (ChangeSpec.witness6 (enc := enc) (C := Tryz.checked) false ⟨#[], #[], []⟩ 8 (by kernel_rfl) (by kernel_rfl) (by kernel_rfl) (by kernel_rfl)) ?_
  intro W base args ds gs before hval0 hW hcnd _
  have hW' := hW
  obtain ⟨p, q, hA0, hV, rfl, hfz, hnd⟩ := hW
  have hA : DataW.TrodAll enc Tryz.prog W 0 (fun _ => true) true Tryz.f8.params.toList args.toList ds p := hA0
  rw [Tryz.params8] at hA
  obtain ⟨rfl, rfl, rfl⟩ := trodAll_none hA
  obtain ⟨rfl, rfl⟩ := trodVars_none hV
  simp only [List.append_nil] at hW'
  refine (walk W).mono fun e W' ⟨he, hg⟩ => ?_
  subst he
  exact ⟨_, rfl, ⟨[], [], [], [], [], [], hW', trodAll_cons_mk (shut_bool Tryz.underlying4 _) trodAll_mk0, rfl, rfl, World.keptBut_mono (fun _ hp => hp.elim) hg, fun h => absurd h (by decide)⟩⟩

theorem isNamed : Tryz.pinned.checked.prog.funcNamed Rows.turnKnownRow.func = some 8 := by kernel_rfl
theorem isWrapped : Tryz.f8.isWrapper Tryz.pinned.checked.prog Rows.turnKnownRow.wrapper Rows.turnKnownRow.mainSum := by
  unfold Func.isWrapper
  first | (rw [if_pos (by decide +kernel)]; kernel_rfl) | (rw [if_neg (by decide +kernel)]; exact ⟨rfl, rfl⟩)

theorem over : Rows.turnKnownRow.holds Tryz.pinned (OpenSpec.ofChange Rows.turnKnownSpec) :=
  OpenClaim.holds_of_wide 8 Tryz.f8 rfl rfl rfl rfl rfl rfl rfl ⟨rfl, rfl, rfl, rfl, rfl⟩ rfl rfl rfl rfl rfl isNamed Tryz.func8 facts
    (of_decide_eq_true (by kernel_rfl)) isWrapped
    (fun os started H enc _ => lifted os started H enc)

theorem proved : Rows.TurnKnownSaid := over
#print axioms proved
end Go.Proofs.YtchbdmldjkkmiaaGreat.turnKnown
