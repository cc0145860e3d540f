/- Proved here: the law TargetApart, as the given statement says it. Conditions: none. -/
import Derived.Test.YtcmplhmbmmclaaaGreatKWTargetApart
import Derived.Test.YtcmplhmbmmclaaaGreatKQTargetApart
import Derived.Test.YtcmplhmbmmclaaaGreatKPTargetApart
import Derived.Test.YtcmplhmbmmclaaaGreatKCTargetApart
import Derived.Test.YtcmplhmbmmclaaaGreatBTargetApart
import Derived.Test.YtcmplhmbmmclaaaGreatFTargetApart
import Derived.Test.YtcmplhmbmmclaaaGreatEvO
import Derived.ProofKit
import Derived.OpenShut
import Derived.Deep.SlicePairs
namespace Go.Proofs.YtcmplhmbmmclaaaGreat.targetApart
open Go.ChangeShapes Go.WideShapes Go.ChangeAt Go.RowKit
set_option linter.unusedVariables false

theorem cellsI : Tryz.prog.cellsOf 5 = 1 := by kernel_rfl
theorem cellsC : Tryz.prog.cellsOf 75 = 2 := by kernel_rfl
theorem own : ownKnob Tryz.prog.godebug = none := by kernel_rfl
theorem mixed : Tryz.prog.follows .mixedOrders = true := by kernel_rfl
/-- An event with one or two numbers that are not known. -/
@[reducible] noncomputable def sg2 (c k : Int) : Go.Ev.Sg := Go.Ev.mkSg (fun i => match i with | 0 => c | _ => k) (fun _ => .undef) (fun _ => .deferred)
theorem evNV (a b : Int) (h : 0 ≤ a ∧ a ≤ 2) (h2 : 0 ≤ b ∧ b ≤ 4) : @Go.Ev.VAs (sg2 a b) [evN] [.agg (Go.Ev.evRow 1 a b 2 0 Go.Ev.it0)] := by
  letI : Go.Ev.Sg := sg2 a b
  refine .cons (@Go.Ev.VA.ofList _ _ (Go.Ev.evRow 1 a b 2 0 Go.Ev.it0) ?_ (show 13 ≤ 4180 by decide)) .nil
  exact (.cons (Go.Ev.VA.mkV _) (.cons (Go.Ev.VA.symV (i := 0) (n := a) rfl (by omega) (by omega) (by decide) (fun m hm => by cases hm)) (.cons (Go.Ev.VA.symV (i := 1) (n := b) rfl (by omega) (by omega) (by decide) (fun m hm => by cases hm)) (.cons (Go.Ev.VA.mkV _) (.cons (Go.Ev.VA.mkV _) (.cons (Go.Ev.VA.mkV _) (.cons (Go.Ev.VA.mkV _) (.cons (Go.Ev.VA.mkV _) (.cons (Go.Ev.VA.mkV _) (.cons (Go.Ev.VA.mkV _) (.cons (Go.Ev.VA.mkV _) (.cons (Go.Ev.VA.mkV _) (.cons (Go.Ev.VA.mkV _) .nil)))))))))))))
theorem evMV (a : Int) (h : 1 ≤ a ∧ a ≤ 1000000) : @Go.Ev.VAs (sg2 a 0) [evM] [.agg (Go.Ev.evRow 2 a 3 0 0 Go.Ev.it0)] := by
  letI : Go.Ev.Sg := sg2 a 0
  refine .cons (@Go.Ev.VA.ofList _ _ (Go.Ev.evRow 2 a 3 0 0 Go.Ev.it0) ?_ (show 13 ≤ 4180 by decide)) .nil
  exact (.cons (Go.Ev.VA.mkV _) (.cons (Go.Ev.VA.symV (i := 0) (n := a) rfl (by omega) (by omega) (by decide) (fun m hm => by cases hm)) (.cons (Go.Ev.VA.mkV _) (.cons (Go.Ev.VA.mkV _) (.cons (Go.Ev.VA.mkV _) (.cons (Go.Ev.VA.mkV _) (.cons (Go.Ev.VA.mkV _) (.cons (Go.Ev.VA.mkV _) (.cons (Go.Ev.VA.mkV _) (.cons (Go.Ev.VA.mkV _) (.cons (Go.Ev.VA.mkV _) (.cons (Go.Ev.VA.mkV _) (.cons (Go.Ev.VA.mkV _) .nil)))))))))))))
theorem evLV : @Go.Ev.VAs (sg2 0 0) [evL] [.agg (Go.Ev.evRow 23 (.ofNat 2) 0 0 0 Go.Ev.it0)] := by
  letI : Go.Ev.Sg := sg2 0 0
  refine .cons (@Go.Ev.VA.ofList _ _ (Go.Ev.evRow 23 (.ofNat 2) 0 0 0 Go.Ev.it0) ?_ (show 13 ≤ 4180 by decide)) .nil
  exact (.cons (Go.Ev.VA.mkV _) (.cons (Go.Ev.VA.mkV _) (.cons (Go.Ev.VA.mkV _) (.cons (Go.Ev.VA.mkV _) (.cons (Go.Ev.VA.mkV _) (.cons (Go.Ev.VA.mkV _) (.cons (Go.Ev.VA.mkV _) (.cons (Go.Ev.VA.mkV _) (.cons (Go.Ev.VA.mkV _) (.cons (Go.Ev.VA.mkV _) (.cons (Go.Ev.VA.mkV _) (.cons (Go.Ev.VA.mkV _) (.cons (Go.Ev.VA.mkV _) .nil)))))))))))))
theorem orcOk : Go.Ev.OrcOk Tryz.prog orc := by
  refine Go.Ev.orc6_ok (Go.Ev.works_kc mixed targetApartWorks) (fun p c h1 h2 => ?_) ?_ (fun a h => ?_)
  · exact @Go.Ev.fast_kcon (sg2 p c) _ mixed _ _ _ _ _ (evNV p c h1 h2) trivial runN
  · exact @Go.Ev.fast_kcon (sg2 0 0) _ mixed _ _ _ _ _ evLV trivial runL
  · exact @Go.Ev.fast_kcon (sg2 a 0) _ mixed _ _ _ _ _ (evMV a h) trivial runM
theorem trn : Go.Ev.Trn6 Tryz.prog orc (fun n => n) (fun n => n) 6 Tryz.f6 (Tryz.f6.body.getD .skip) Tryz.f23 (Tryz.f23.body.getD .skip) (Go.Ev.ruleG 22 201) 1000 where
  mixed := mixed
  orc := orcOk
  base := lawG
  lose := myBaseL
  says := Go.Ev.says6 (by decide)
  rule := fun S => @Go.Ev.ruleG_ok S _ _ _ (fun H => Go.Ev.orc6_w (by decide) H) fun f args H h1 h2 => Go.Ev.orc6_none h1 h2 args H
  func := Tryz.func6
  body := by kernel_rfl
  nt := by kernel_rfl
  res := by kernel_rfl
  name := by kernel_rfl
  rest := by kernel_rfl
  free := fun args H => Go.Ev.orc6_none (by decide) (by decide) args H
  func23 := Tryz.func23
  body23 := by kernel_rfl
  nt23 := by kernel_rfl
  res23 := by kernel_rfl
  name23 := by kernel_rfl
  rest23 := by kernel_rfl
  free23 := fun args H => Go.Ev.orc6_none (by decide) (by decide) args H
  runQ := fun b => match b with | true => runQt | false => runQf
  runP := fun b => match b with | true => runPt | false => runPf
theorem okWide_at {P : Program} {w : World} {r : Reach} {base : Nat} {t e : TypeId} {a : Addr} {len cap : Nat} (ht : P.underlying t = some (.slice e)) (h : Value.okWide P w r base t (.slice (some a) len cap)) : a.block < w.heap.size ∧ a.spot = none := by
  unfold Value.okWide at h
  rw [ht] at h
  have h : Cell.okWide P w r base t (.slice (some a) len cap) := h
  unfold Cell.okWide at h
  rw [ht] at h
  have h : Cell.ok P w r base t (.slice (some a) len cap) := h
  unfold Cell.ok at h
  rw [ht] at h
  obtain ⟨_, _, _, h2, row, cells, hs, _⟩ := h
  unfold World.shape? at hs
  split at hs
  · rename_i hb
    exact ⟨(Array.getElem?_eq_some_iff.1 hb).1, h2⟩
  · cases hs
set_option maxRecDepth 100000 in
theorem lifted (os : Os) (started : os.Started) (H : Type) (enc : TypeId × Value → H) :
    ReturnsInHanded {} Tryz.checked os 6 .any (Rows.targetApartSpec.pre6 enc Tryz.prog Tryz.f6 Rows.targetApartRow.domain false) (Rows.targetApartSpec.post enc Tryz.prog Tryz.f6 false true false false) := by
  refine returnsInHanded_of_change (C := Tryz.checked) own started (by kernel_rfl) Tryz.func6
    (ChangeSpec.witness6 (enc := enc) (C := Tryz.checked) false ⟨#[], #[.slice none 0 0, .bool false, .int .u8 0], []⟩ 8 (by kernel_rfl) (by kernel_rfl) (by kernel_rfl) (by kernel_rfl)) ?_
  intro W base args ds gs before hval0 hW hcnd _
  have hW' := hW
  have hlt := hW.lt
  obtain ⟨p, q, hA0, hV, rfl, hfz, hnd⟩ := hW
  have hA : DataW.TrodAll enc Tryz.prog W 0 (fun _ => true) true Tryz.f6.params.toList args.toList ds p := hA0
  rw [Tryz.params6] at hA
  obtain ⟨v1, v2, v3, d1, d2, d3, p1, p2, p3, rfl, rfl, rfl, hd1, hd2, hd3⟩ := trodAll_three hA
  obtain ⟨rfl, rfl⟩ := trodVars_none hV
  obtain ⟨bb, rfl, rfl, rfl⟩ := open_bool Tryz.underlying4 (hval0 1 _ _ rfl rfl) hd2
  obtain ⟨wh, rfl, rfl, rfl, w2⟩ := open_int Tryz.underlying5 (hval0 2 _ _ rfl rfl) hd3
  have bw := Go.bounds_u8 w2
  obtain ⟨a, len, cap, rfl⟩ := okWide_slice Tryz.underlying57 (hval0 0 _ _ rfl rfl)
  simp only [List.append_nil] at hW' hlt
  have fin : Calls Tryz.prog 6 #[.slice a len cap, .bool bb, .int .u8 wh] W (fun e w' => e = .returned (.bool true) ∧ W.keptBut w' (fun _ => False)) →
      (∀ W' : World, W.keptBut W' (fun _ => False) → ∃ pa, DataW.Trod enc Tryz.prog W' 0 (fun b => decide (b < W.heap.size)) true 57 (.slice a len cap) d1 pa) →
      Calls Tryz.prog 6 #[.slice a len cap, .bool bb, .int .u8 wh] W fun e W' => ∃ v, e = .returned v ∧ Rows.targetApartSpec.post enc Tryz.prog Tryz.f6 false true false false W #[.slice a len cap, .bool bb, .int .u8 wh] v W' := by
    intro hcall hback
    refine hcall.mono fun e W' ⟨he, hg⟩ => ?_
    subst he
    obtain ⟨pa, hpa⟩ := hback W' hg
    exact ⟨_, rfl, ⟨_, [], _, [], _, [], hW', trodAll_cons_mk (shut_bool Tryz.underlying4 _) trodAll_mk0, trodAll_mk3 hpa (shut_bool Tryz.underlying4 _) (shut_int Tryz.underlying5 w2), rfl, World.keptBut_mono (fun _ hp => hp.elim) hg, fun h => absurd h (by decide)⟩⟩
  obtain ⟨fuel, hf⟩ := hd1
  rcases Go.Deep.open_slice_pairs Tryz.underlying57 Tryz.underlying75 cellsC rfl rfl cellsI cellsI hf with ⟨h1, h2⟩ | ⟨a', len', cap', m, n, V0, V1, D0, D1, P0, P1, h1, hb0, hl, hm, hmm, h2, hcell⟩
  · have h1 : [Value.slice a len cap] = [.slice none 0 0] := h1
    simp only [List.cons.injEq, Value.slice.injEq, and_true] at h1
    obtain ⟨rfl, rfl, rfl⟩ := h1
    have hd : d1 = .nil := congrArg Prod.fst h2
    subst hd
    refine fin (Go.Ev.trn6_none trn bw (lv := .slice none 0 0 false 0) rfl Go.Ev.Opq.slice ⟨rfl, rfl⟩ W) fun W' hg => ⟨[], 1, ?_⟩
    show DataW.trod enc Tryz.prog W' 0 _ true 1 57 [.slice none 0 0] = _
    simp [DataW.trod, Tryz.underlying57]
  · have h1 : [Value.slice a len cap] = [.slice (some a') len' cap'] := h1
    simp only [List.cons.injEq, Value.slice.injEq, and_true] at h1
    obtain ⟨rfl, rfl, rfl⟩ := h1
    have hmm : m = cap := hmm
    subst hmm
    obtain ⟨hblk, hsp⟩ := okWide_at Tryz.underlying57 (hval0 0 _ _ rfl rfl)
    obtain ⟨ab, ao, sp⟩ := a'
    have hsp : sp = none := hsp
    subst hsp
    have hint0 : ∀ i, i < m → ∃ x, V0 i = .int .u8 x ∧ (D0 i, P0 i) = (.lit (.int .u8 x), []) ∧ (Lit.int .u8 x).wf = true := fun i hi => by
      obtain ⟨x, e1, e2, e3⟩ := DataW.trod_int Tryz.underlying5 (hcell i hi).2.2.1
      exact ⟨x, by simpa using e1, e2, e3⟩
    have hint1 : ∀ i, i < m → ∃ x, V1 i = .int .u8 x ∧ (D1 i, P1 i) = (.lit (.int .u8 x), []) ∧ (Lit.int .u8 x).wf = true := fun i hi => by
      obtain ⟨x, e1, e2, e3⟩ := DataW.trod_int Tryz.underlying5 (hcell i hi).2.2.2
      exact ⟨x, by simpa using e1, e2, e3⟩
    have hc0 : ∀ i, i < m → W.cell? ⟨ab, ao + i * 2, none⟩ = some (V0 i) := fun i hi => by rw [← add_plain]; exact (hcell i hi).1
    have hc1 : ∀ i, i < m → W.cell? ⟨ab, ao + i * 2 + 1, none⟩ = some (V1 i) := fun i hi => by rw [Nat.add_assoc, ← add_plain]; exact (hcell i hi).2.1
    refine fin ?_ fun W' hg => ?_
    · by_cases h0 : len = 0
      · subst h0
        exact Go.Ev.trn6_none trn bw (lv := .empty) rfl Go.Ev.Opq.empty ⟨_, _, rfl⟩ W
      · have hz0 := hc0 0 (by omega)
        unfold World.cell? at hz0
        split at hz0
        · rename_i c el fz hc
          have hc : W.heap[ab]? = some (.cells c el fz) := hc
          have get : ∀ (o : Nat) v, W.cell? ⟨ab, o, none⟩ = some v → c[o]? = some v := fun o v h => by
            unfold World.cell? at h
            simpa [hc] using h
          refine Go.Ev.trn6_some trn bw (z := fun i => if i < m then (match V0 i with | .int _ x => x | _ => 0) else 0) (y := fun i => if i < m then (match V1 i with | .int _ x => x | _ => 0) else 0) (fun i => ?_) (fun i => ?_) (by omega) hc fun i hi => ⟨?_, ?_⟩
          · by_cases hi : i < m
            · obtain ⟨x, e, _, hw⟩ := hint0 i hi
              simp only [if_pos hi, e]
              exact Go.bounds_u8 hw
            · simp only [if_neg hi]; omega
          · by_cases hi : i < m
            · obtain ⟨x, e, _, hw⟩ := hint1 i hi
              simp only [if_pos hi, e]
              exact Go.bounds_u8 hw
            · simp only [if_neg hi]; omega
          · have hi2 : i < m := by omega
            obtain ⟨x, e, _, hw⟩ := hint0 i hi2
            simp only [if_pos hi2, e]
            rw [← e]
            exact get _ _ (hc0 i hi2)
          · have hi2 : i < m := by omega
            obtain ⟨x, e, _, hw⟩ := hint1 i hi2
            simp only [if_pos hi2, e]
            rw [← e]
            exact get _ _ (hc1 i hi2)
        · cases hz0
    · have hd : d1 = .slice ((List.range len).map fun i => .agg [D0 i, D1 i]) ((List.range (m - len)).map fun j => .agg [D0 (len + j), D1 (len + j)]) := congrArg Prod.fst h2
      obtain ⟨k, hk⟩ := Go.Deep.shut_slice_pairs_whole (enc := enc) (P := Tryz.prog) (w := W') (base := 0) (spare := fun b => decide (b < W.heap.size)) (held := true) Tryz.underlying57 Tryz.underlying75 cellsC rfl rfl cellsI cellsI (b := ab) (off := ao) (len := len) (cap := m) (Nat.zero_le _) hl hm (decide_eq_true hblk) V0 V1 D0 D1 P0 P1
        (fun i hi => by rw [World.keptBut.cell hg hblk (fun h => h.elim)]; exact hc0 i hi) (fun i hi => by rw [World.keptBut.cell hg hblk (fun h => h.elim)]; exact hc1 i hi)
        (fun i hi => by
          obtain ⟨x, e, e2, hw⟩ := hint0 i hi
          rw [e, e2]
          exact ⟨1, trod_int_mk 0 Tryz.underlying5 hw⟩)
        (fun i hi => by
          obtain ⟨x, e, e2, hw⟩ := hint1 i hi
          rw [e, e2]
          exact ⟨1, trod_int_mk 0 Tryz.underlying5 hw⟩)
      exact ⟨_, k, by rw [hd]; exact hk⟩

theorem isNamed : Tryz.pinned.checked.prog.funcNamed Rows.targetApartRow.func = some 6 := by kernel_rfl
theorem isWrapped : Tryz.f6.isWrapper Tryz.pinned.checked.prog Rows.targetApartRow.wrapper Rows.targetApartRow.mainSum := by
  unfold Func.isWrapper
  first | (rw [if_pos (by decide +kernel)]; kernel_rfl) | (rw [if_neg (by decide +kernel)]; exact ⟨rfl, rfl⟩)

theorem over : Rows.targetApartRow.holds Tryz.pinned (OpenSpec.ofChange Rows.targetApartSpec) :=
  OpenClaim.holds_of_wide 6 Tryz.f6 rfl rfl rfl rfl rfl rfl rfl ⟨rfl, rfl, rfl, rfl, rfl⟩ rfl rfl rfl rfl rfl isNamed Tryz.func6 facts
    (of_decide_eq_true (by kernel_rfl)) isWrapped
    (fun os started H enc _ => lifted os started H enc)

theorem proved : Rows.TargetApartSaid := over
#print axioms proved
end Go.Proofs.YtcmplhmbmmclaaaGreat.targetApart
