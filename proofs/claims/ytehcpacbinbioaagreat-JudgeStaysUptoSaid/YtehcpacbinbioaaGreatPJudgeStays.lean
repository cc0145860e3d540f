/- Proved here: the law JudgeStays, where what it reads is of bulk at most 1048576, as the given statement says it. Conditions: none. -/
import Derived.Test.YtehcpacbinbioaaGreatKWJudgeStays
import Derived.Test.YtehcpacbinbioaaGreatBJudgeStays
import Derived.Test.YtehcpacbinbioaaGreatFJudgeStays
import Derived.Test.YtehcpacbinbioaaGreatEvO
import Derived.WalkKit
import Derived.ProofKit
import Derived.OpenShut
import Derived.WideKeyArgs
import Derived.JoinedCond
import Derived.Below
namespace Go.Proofs.YtehcpacbinbioaaGreat.judgeStays
open Go.Ev
open Go.ChangeShapes Go.WideShapes Go.ChangeAt Go.RowKit
set_option linter.unusedVariables false
theorem own : ownKnob Tryz.prog.godebug = none := by kernel_rfl
theorem laidOut : laidOutB Tryz.prog = true := by kernel_rfl
theorem one_le {H : Type} (d : DataW H) : 1 ≤ Rows.uptoBulk d := by
  cases d with
  | lit l => cases l <;> simp [Rows.uptoBulk]
  | _ => simp [Rows.uptoBulk]
theorem part_le {H : Type} {d : DataW H} {l : List (DataW H)} (h : d ∈ l) : Rows.uptoBulk d ≤ Rows.uptoBulkAll l := by
  induction l with
  | nil => cases h
  | cons x r ih =>
    simp only [Rows.uptoBulkAll]
    cases List.mem_cons.1 h with
    | inl e => subst e; omega
    | inr e => have := ih e; omega
theorem length_le {H : Type} (l : List (DataW H)) : l.length ≤ Rows.uptoBulkAll l := by
  induction l with
  | nil => simp [Rows.uptoBulkAll]
  | cons x r ih => have := one_le x; simp only [Rows.uptoBulkAll, List.length_cons]; omega
theorem smOk {H : Type} : SmOk (H := H) fun d => Rows.uptoBulk d ≤ 1048576 := by
  refine ⟨fun {a b} h => ⟨?_, fun e he => ?_⟩, fun {a} h e he => ?_⟩
  · have := length_le a
    simp only [Rows.uptoBulk] at h
    omega
  · have := part_le he
    simp only [Rows.uptoBulk] at h
    omega
  · have := part_le he
    simp only [Rows.uptoBulk] at h
    omega
theorem same_at {W W' : World} (h : ∀ k, k < W.heap.size → W'.heap[k]? = W.heap[k]?) {x : MemPlace} (hx : x.block < W.heap.size) : W.sameAt W' x := by
  cases x with
  | cell b o => exact World.cell?_of_block (w := W) (h b hx)
  | map b => exact h b hx
theorem contract (H : Type) (enc : TypeId × Value → H) (W : World) (base : Nat) (args : Array Value) (ds gs : List (DataW H)) (before : List MemPlace)
    (hval : ∀ (j : Nat) t v, Tryz.f3.params[j]? = some t → args[j]? = some v → Value.okWide Tryz.prog W .any base t v)
    (hW : DataW.Whole enc Tryz.prog Tryz.f3.params.toList Rows.judgeStaysSpec.vars false W args.toList ds gs before) (hk : Rows.uptoSmall H (ds ++ gs) = true) :
    Calls Tryz.prog 3 args W fun e W' => ∃ v, e = .returned v ∧ Rows.judgeStaysSpec.post enc Tryz.prog Tryz.f3 false true false false W args v W' := by
  have hW' := hW
  have hlt := hW.lt
  obtain ⟨p, q, hA0, hV, rfl, hfz, hnd⟩ := hW
  have hA : DataW.TrodAll enc Tryz.prog W 0 (fun _ => true) true Tryz.f3.params.toList args.toList ds p := hA0
  rw [Tryz.params3] at hA
  obtain ⟨v0, vs0, d0, ds0, p0, q0, hargs, rfl, rfl, h0, r0⟩ := trodAll_cons hA
  obtain ⟨rfl, rfl, rfl⟩ := trodAll_nil r0
  obtain rfl : args = #[v0] := by cases args; simp_all
  obtain ⟨rfl, rfl⟩ := trodVars_none hV
  simp only [List.append_nil] at hW' hlt hk
  have hb : Rows.uptoBulkAll [d0] ≤ 1048576 := of_decide_eq_true hk
  have hd : Rows.uptoBulk d0 ≤ 1048576 := Nat.le_trans (part_le (List.mem_singleton.2 rfl)) hb
  have hw : Known Tryz.prog (fF 503) := by
    rw [f503]
    exact says_known (by kernel_rfl) none_ok works
  have hcall := law_world (envL hw) smOk setup h0 hd
  rw [f500] at hcall
  refine hcall.mono fun e W' ⟨he, hg, hs⟩ => ?_
  subst he
  have hback := WideElems.Trod_stays (sp' := fun b => decide (b < W.heap.size)) laidOut (by kernel_rfl) (of_decide_eq_true (by kernel_rfl)) h0 (fun x hx => same_at hs (hlt x hx)) (fun x hx => decide_eq_true (hlt x hx))
  exact ⟨_, rfl, ⟨_, [], _, [], _, [], hW', trodAll_cons_mk (shut_bool Tryz.underlying4 _) trodAll_mk0, trodAll_cons_mk hback trodAll_mk0, rfl, World.keptBut_mono (fun _ hp => hp.elim) hg, fun h => absurd h (by decide)⟩⟩
set_option maxRecDepth 100000 in
theorem lifted (os : Os) (started : os.Started) (H : Type) (enc : TypeId × Value → H) (F : Stop.Interp) :
    ReturnsInHanded {} Tryz.checked os 3 .any ((Rows.OpenSpec.upto Rows.judgeStaysSpec).pre6 enc Tryz.prog Tryz.f3 Rows.judgeStaysUptoRow.domain false) (((Rows.OpenSpec.upto Rows.judgeStaysSpec).at F).post enc Tryz.prog Tryz.f3 false true false false) := by
  refine returnsInHanded_of_cond (C := Tryz.checked) (s := Rows.OpenSpec.upto Rows.judgeStaysSpec) (k := Rows.uptoSmall) rfl own started (by kernel_rfl) Tryz.func3
    (OpenSpec.witness (enc := enc) (C := Tryz.checked) (s := Rows.OpenSpec.upto Rows.judgeStaysSpec) (k := Rows.uptoSmall) rfl false ⟨#[], #[.agg #[.slice none 0 0, .int .i64 0, .int .i64 0, .int .i64 0, .int .i64 0, .int .i64 0, .slice none 0 0, .slice none 0 0]], []⟩ 8 (by kernel_rfl) (by kernel_rfl) (by kernel_rfl)
      (x := ([.agg [.nil, .agg [.lit (.int .i64 0), .lit (.int .i64 0), .lit (.int .i64 0), .lit (.int .i64 0), .lit (.int .i64 0)], .nil, .nil]], [], [])) (by kernel_rfl) rfl (by kernel_rfl)) ?_
  intro W base args ds gs before hval hW _ hk _
  exact contract H enc W base args ds gs before hval hW hk
theorem isNamed : Tryz.pinned.checked.prog.funcNamed Rows.judgeStaysUptoRow.func = some 3 := by kernel_rfl
theorem isWrapped : Tryz.f3.isWrapper Tryz.pinned.checked.prog Rows.judgeStaysUptoRow.wrapper Rows.judgeStaysUptoRow.mainSum := by
  unfold Func.isWrapper
  first | (rw [if_pos (by decide +kernel)]; kernel_rfl) | (rw [if_neg (by decide +kernel)]; exact ⟨rfl, rfl⟩)
theorem over : Rows.judgeStaysUptoRow.holds Tryz.pinned (Rows.OpenSpec.upto Rows.judgeStaysSpec) :=
  OpenClaim.holds_of_cond 3 Tryz.f3 rfl rfl rfl rfl rfl rfl rfl ⟨rfl, rfl, rfl, rfl, rfl⟩ rfl rfl rfl rfl rfl isNamed Tryz.func3 facts
    (of_decide_eq_true (by kernel_rfl)) isWrapped
    (fun os started H enc _ F => lifted os started H enc F)
theorem proved : Rows.JudgeStaysUptoSaid := over
#print axioms proved
end Go.Proofs.YtehcpacbinbioaaGreat.judgeStays
