/- Proved here: the law TurnTells, as the given statement says it. Conditions: none. -/
import Derived.Test.YtcmplhmbmmclaaaGreatKWTurnTells
import Derived.Test.YtcmplhmbmmclaaaGreatKQTurnTells
import Derived.Test.YtcmplhmbmmclaaaGreatKPTurnTells
import Derived.Test.YtcmplhmbmmclaaaGreatKCTurnTells
import Derived.Test.YtcmplhmbmmclaaaGreatBTurnTells
import Derived.Test.YtcmplhmbmmclaaaGreatFTurnTells
import Derived.Test.YtcmplhmbmmclaaaGreatOTurnTells
import Derived.Test.YtcmplhmbmmclaaaGreatEvP
import Derived.ProofKit
import Derived.OpenShut
namespace Go.Proofs.YtcmplhmbmmclaaaGreat.turnTells
open Go.ChangeShapes Go.WideShapes Go.ChangeAt Go.RowKit
set_option linter.unusedVariables false

theorem own : ownKnob Tryz.prog.godebug = none := by kernel_rfl
theorem mixed : Tryz.prog.follows .mixedOrders = true := by kernel_rfl
/-- An event with numbers that are not known. -/
@[reducible] noncomputable def sg3 (c k j : Int) : Go.Ev.Sg := Go.Ev.mkSg (fun i => match i with | 0 => c | 1 => k | _ => j) (fun _ => .undef) (fun _ => .deferred)
theorem evNV (a b c : Int) (h : 0 ≤ a ∧ a ≤ 2) (h2 : 0 ≤ b ∧ b ≤ 5) (h3 : 1 ≤ c ∧ c ≤ 2) : @Go.Ev.VAs (sg3 a b c) [evN] [.agg (Go.Ev.evRow 1 a b c 0 Go.Ev.it0)] := by
  letI : Go.Ev.Sg := sg3 a b c
  refine .cons (@Go.Ev.VA.ofList _ _ (Go.Ev.evRow 1 a b c 0 Go.Ev.it0) ?_ (show 13 ≤ 4180 by decide)) .nil
  exact (.cons (Go.Ev.VA.mkV _) (.cons (Go.Ev.VA.symV (i := 0) (n := a) rfl (by omega) (by omega) (by decide) (fun m hm => by cases hm)) (.cons (Go.Ev.VA.symV (i := 1) (n := b) rfl (by omega) (by omega) (by decide) (fun m hm => by cases hm)) (.cons (Go.Ev.VA.symV (i := 2) (n := c) rfl (by omega) (by omega) (by decide) (fun m hm => by cases hm)) (.cons (Go.Ev.VA.mkV _) (.cons (Go.Ev.VA.mkV _) (.cons (Go.Ev.VA.mkV _) (.cons (Go.Ev.VA.mkV _) (.cons (Go.Ev.VA.mkV _) (.cons (Go.Ev.VA.mkV _) (.cons (Go.Ev.VA.mkV _) (.cons (Go.Ev.VA.mkV _) (.cons (Go.Ev.VA.mkV _) .nil)))))))))))))
theorem evTV (a : Int) (h : 0 ≤ a ∧ a ≤ 2) : @Go.Ev.VAs (sg3 a 0 0) [evT] [.agg (Go.Ev.evRow 20 a 0 0 0 Go.Ev.it0)] := by
  letI : Go.Ev.Sg := sg3 a 0 0
  refine .cons (@Go.Ev.VA.ofList _ _ (Go.Ev.evRow 20 a 0 0 0 Go.Ev.it0) ?_ (show 13 ≤ 4180 by decide)) .nil
  exact (.cons (Go.Ev.VA.mkV _) (.cons (Go.Ev.VA.symV (i := 0) (n := a) rfl (by omega) (by omega) (by decide) (fun m hm => by cases hm)) (.cons (Go.Ev.VA.mkV _) (.cons (Go.Ev.VA.mkV _) (.cons (Go.Ev.VA.mkV _) (.cons (Go.Ev.VA.mkV _) (.cons (Go.Ev.VA.mkV _) (.cons (Go.Ev.VA.mkV _) (.cons (Go.Ev.VA.mkV _) (.cons (Go.Ev.VA.mkV _) (.cons (Go.Ev.VA.mkV _) (.cons (Go.Ev.VA.mkV _) (.cons (Go.Ev.VA.mkV _) .nil)))))))))))))
theorem evPV (a : Int) (h : 0 ≤ a ∧ a ≤ 9) : @Go.Ev.VAs (sg3 a 0 0) [evP] [.agg (Go.Ev.evRow 19 a 0 0 0 Go.Ev.it0)] := by
  letI : Go.Ev.Sg := sg3 a 0 0
  refine .cons (@Go.Ev.VA.ofList _ _ (Go.Ev.evRow 19 a 0 0 0 Go.Ev.it0) ?_ (show 13 ≤ 4180 by decide)) .nil
  exact (.cons (Go.Ev.VA.mkV _) (.cons (Go.Ev.VA.symV (i := 0) (n := a) rfl (by omega) (by omega) (by decide) (fun m hm => by cases hm)) (.cons (Go.Ev.VA.mkV _) (.cons (Go.Ev.VA.mkV _) (.cons (Go.Ev.VA.mkV _) (.cons (Go.Ev.VA.mkV _) (.cons (Go.Ev.VA.mkV _) (.cons (Go.Ev.VA.mkV _) (.cons (Go.Ev.VA.mkV _) (.cons (Go.Ev.VA.mkV _) (.cons (Go.Ev.VA.mkV _) (.cons (Go.Ev.VA.mkV _) (.cons (Go.Ev.VA.mkV _) .nil)))))))))))))
theorem evLV (a : Int) (h : 0 ≤ a ∧ a ≤ 2) : @Go.Ev.VAs (sg3 a 0 0) [evL] [.agg (Go.Ev.evRow 9 a 0 1 0 Go.Ev.it0)] := by
  letI : Go.Ev.Sg := sg3 a 0 0
  refine .cons (@Go.Ev.VA.ofList _ _ (Go.Ev.evRow 9 a 0 1 0 Go.Ev.it0) ?_ (show 13 ≤ 4180 by decide)) .nil
  exact (.cons (Go.Ev.VA.mkV _) (.cons (Go.Ev.VA.symV (i := 0) (n := a) rfl (by omega) (by omega) (by decide) (fun m hm => by cases hm)) (.cons (Go.Ev.VA.mkV _) (.cons (Go.Ev.VA.mkV _) (.cons (Go.Ev.VA.mkV _) (.cons (Go.Ev.VA.mkV _) (.cons (Go.Ev.VA.mkV _) (.cons (Go.Ev.VA.mkV _) (.cons (Go.Ev.VA.mkV _) (.cons (Go.Ev.VA.mkV _) (.cons (Go.Ev.VA.mkV _) (.cons (Go.Ev.VA.mkV _) (.cons (Go.Ev.VA.mkV _) .nil)))))))))))))
theorem evUV : @Go.Ev.VAs (sg3 0 0 0) [evU] [.agg (Go.Ev.evRow 15 0 0 0 0 Go.Ev.it1)] := by
  letI : Go.Ev.Sg := sg3 0 0 0
  refine .cons (@Go.Ev.VA.ofList _ _ (Go.Ev.evRow 15 0 0 0 0 Go.Ev.it1) ?_ (show 13 ≤ 4180 by decide)) .nil
  exact (.cons (Go.Ev.VA.mkV _) (.cons (Go.Ev.VA.mkV _) (.cons (Go.Ev.VA.mkV _) (.cons (Go.Ev.VA.mkV _) (.cons (Go.Ev.VA.mkV _) (.cons (Go.Ev.VA.mkV _) (.cons (Go.Ev.VA.mkV _) (.cons (Go.Ev.VA.mkV _) (.cons (Go.Ev.VA.mkV _) (.cons (Go.Ev.VA.mkV _) (.cons (Go.Ev.VA.mkV _) (.cons (Go.Ev.VA.mkV _) (.cons (Go.Ev.VA.mkV _) .nil)))))))))))))
theorem orcOk : Go.Ev.OrcOk Tryz.prog orc := by
  refine Go.Ev.orc8_ok (Go.Ev.works_kc mixed turnTellsWorks) (fun p c z h1 h2 h3 => ?_) (fun a h => ?_) (fun a h => ?_) (fun a h => ?_) ?_
  · exact @Go.Ev.fast_kcon (sg3 p c z) _ mixed _ _ _ _ _ (evNV p c z h1 h2 h3) trivial runN
  · exact @Go.Ev.fast_kcon (sg3 a 0 0) _ mixed _ _ _ _ _ (evTV a h) trivial runT
  · exact @Go.Ev.fast_kcon (sg3 a 0 0) _ mixed _ _ _ _ _ (evPV a h) trivial runP
  · exact @Go.Ev.fast_kcon (sg3 a 0 0) _ mixed _ _ _ _ _ (evLV a h) trivial runL
  · exact @Go.Ev.fast_kcon (sg3 0 0 0) _ mixed _ _ _ _ _ evUV trivial runU
theorem trn : Go.Ev.Trn9 Tryz.prog orc (fun n => n) (fun n => n) 9 Tryz.f9 (Tryz.f9.body.getD .skip) Tryz.f35 (Tryz.f35.body.getD .skip) (Go.Ev.ruleG 34 201) 1000 where
  mixed := mixed
  orc := orcOk
  base := lawW
  says := Go.Ev.says8 (by decide)
  rule := fun S => @Go.Ev.ruleG_ok S _ _ _ (fun H => Go.Ev.orc8_w (by decide) H) fun f args H h1 h2 => Go.Ev.orc8_none h1 h2 args H
  func := Tryz.func9
  body := by kernel_rfl
  nt := by kernel_rfl
  res := by kernel_rfl
  name := by kernel_rfl
  rest := by kernel_rfl
  free := fun args H => Go.Ev.orc8_none (by decide) (by decide) args H
  func35 := Tryz.func35
  body35 := by kernel_rfl
  nt35 := by kernel_rfl
  res35 := by kernel_rfl
  name35 := by kernel_rfl
  rest35 := by kernel_rfl
  free35 := fun args H => Go.Ev.orc8_none (by decide) (by decide) args H
  runQ := runBQ
  runP := runBP
theorem okWide_at {P : Program} {w : World} {r : Reach} {base : Nat} {t e : TypeId} {a : Addr} {len cap : Nat} (ht : P.underlying t = some (.slice e)) (h : Value.okWide P w r base t (.slice (some a) len cap)) : a.block < w.heap.size ∧ a.spot = none := by
  unfold Value.okWide at h
  rw [ht] at h
  have h : Cell.okWide P w r base t (.slice (some a) len cap) := h
  unfold Cell.okWide at h
  rw [ht] at h
  have h : Cell.ok P w r base t (.slice (some a) len cap) := h
  unfold Cell.ok at h
  rw [ht] at h
  obtain ⟨_, _, _, h2, row, cells, hs, _⟩ := h
  unfold World.shape? at hs
  split at hs
  · rename_i hb
    exact ⟨(Array.getElem?_eq_some_iff.1 hb).1, h2⟩
  · cases hs
set_option maxRecDepth 100000 in
theorem lifted (os : Os) (started : os.Started) (H : Type) (enc : TypeId × Value → H) :
    ReturnsInHanded {} Tryz.checked os 9 .any (Rows.turnTellsSpec.pre6 enc Tryz.prog Tryz.f9 Rows.turnTellsRow.domain false) (Rows.turnTellsSpec.post enc Tryz.prog Tryz.f9 false true false false) := by
  refine returnsInHanded_of_change (C := Tryz.checked) own started (by kernel_rfl) Tryz.func9
    (ChangeSpec.witness6 (enc := enc) (C := Tryz.checked) false ⟨#[], #[.slice none 0 0, .int .u8 0, .int .u8 0], []⟩ 8 (by kernel_rfl) (by kernel_rfl) (by kernel_rfl) (by kernel_rfl)) ?_
  intro W base args ds gs before hval0 hW hcnd _
  have hW' := hW
  have hlt := hW.lt
  obtain ⟨p, q, hA0, hV, rfl, hfz, hnd⟩ := hW
  have hA : DataW.TrodAll enc Tryz.prog W 0 (fun _ => true) true Tryz.f9.params.toList args.toList ds p := hA0
  rw [Tryz.params9] at hA
  obtain ⟨v1, v2, v3, d1, d2, d3, p1, p2, p3, rfl, rfl, rfl, hd1, hd2, hd3⟩ := trodAll_three hA
  obtain ⟨rfl, rfl⟩ := trodVars_none hV
  obtain ⟨wh, rfl, rfl, rfl, w2⟩ := open_int Tryz.underlying5 (hval0 1 _ _ rfl rfl) hd2
  obtain ⟨wp, rfl, rfl, rfl, w3⟩ := open_int Tryz.underlying5 (hval0 2 _ _ rfl rfl) hd3
  have bw3 := Go.bounds_u8 w3
  have bw := Go.bounds_u8 w2
  obtain ⟨a, len, cap, rfl⟩ := okWide_slice Tryz.underlying87 (hval0 0 _ _ rfl rfl)
  simp only [List.append_nil] at hW' hlt
  have fin : Calls Tryz.prog 9 #[.slice a len cap, .int .u8 wh, .int .u8 wp] W (fun e w' => e = .returned (.bool true) ∧ W.keptBut w' (fun _ => False)) →
      (∀ W' : World, W.keptBut W' (fun _ => False) → ∃ pa, DataW.Trod enc Tryz.prog W' 0 (fun b => decide (b < W.heap.size)) true 87 (.slice a len cap) d1 pa) →
      Calls Tryz.prog 9 #[.slice a len cap, .int .u8 wh, .int .u8 wp] W fun e W' => ∃ v, e = .returned v ∧ Rows.turnTellsSpec.post enc Tryz.prog Tryz.f9 false true false false W #[.slice a len cap, .int .u8 wh, .int .u8 wp] v W' := by
    intro hcall hback
    refine hcall.mono fun e W' ⟨he, hg⟩ => ?_
    subst he
    obtain ⟨pa, hpa⟩ := hback W' hg
    exact ⟨_, rfl, ⟨_, [], _, [], _, [], hW', trodAll_cons_mk (shut_bool Tryz.underlying4 _) trodAll_mk0, trodAll_mk3 hpa (shut_int Tryz.underlying5 w2) (shut_int Tryz.underlying5 w3), rfl, World.keptBut_mono (fun _ hp => hp.elim) hg, fun h => absurd h (by decide)⟩⟩
  obtain ⟨fuel, hf⟩ := hd1
  rcases open3 hf with ⟨h1, h2⟩ | ⟨a', len', cap', m, f, h1, hb0, hl, hm, hmm, h2, hcell⟩
  · have h1 : [Value.slice a len cap] = [.slice none 0 0] := h1
    simp only [List.cons.injEq, Value.slice.injEq, and_true] at h1
    obtain ⟨rfl, rfl, rfl⟩ := h1
    have hd : d1 = .nil := congrArg Prod.fst h2
    subst hd
    refine fin (Go.Ev.trn9_none trn bw bw3 (lv := .slice none 0 0 false 0) rfl Go.Ev.Opq.slice ⟨rfl, rfl⟩ W) fun W' hg => ⟨[], 1, ?_⟩
    show DataW.trod enc Tryz.prog W' 0 _ true 1 87 [.slice none 0 0] = _
    simp [DataW.trod, Tryz.underlying87]
  · have h1 : [Value.slice a len cap] = [.slice (some a') len' cap'] := h1
    simp only [List.cons.injEq, Value.slice.injEq, and_true] at h1
    obtain ⟨rfl, rfl, rfl⟩ := h1
    have hmm : m = cap := hmm
    subst hmm
    obtain ⟨hblk, hsp⟩ := okWide_at Tryz.underlying87 (hval0 0 _ _ rfl rfl)
    obtain ⟨ab, ao, sp⟩ := a'
    have hsp : sp = none := hsp
    subst hsp
    have hc0 : ∀ i, i < m → W.cell? ⟨ab, ao + i * 3, none⟩ = some (.int .u8 (f i).1) ∧ W.cell? ⟨ab, ao + i * 3 + 1, none⟩ = some (.int .u8 (f i).2.1) ∧ W.cell? ⟨ab, ao + i * 3 + 2, none⟩ = some (.int .u8 (f i).2.2) := fun i hi => by
      obtain ⟨e0, e1, e2, _⟩ := hcell i hi
      rw [add_plain] at e0 e1 e2
      exact ⟨e0, e1, e2⟩
    refine fin ?_ fun W' hg => ?_
    · by_cases h0 : len = 0
      · subst h0
        exact Go.Ev.trn9_none trn bw bw3 (lv := .empty) rfl Go.Ev.Opq.empty ⟨_, _, rfl⟩ W
      · have hz0 := (hc0 0 (by omega)).1
        unfold World.cell? at hz0
        split at hz0
        · rename_i c el fz hc
          have hc : W.heap[ab]? = some (.cells c el fz) := hc
          have get : ∀ (o : Nat) v, W.cell? ⟨ab, o, none⟩ = some v → c[o]? = some v := fun o v h => by
            unfold World.cell? at h
            simpa [hc] using h
          have hbd : ∀ (g : Nat → Int) (i : Nat), (i < m → (Lit.int .u8 (g i)).wf = true) → 0 ≤ (if i < m then g i else 0) ∧ (if i < m then g i else 0) ≤ 255 := fun g i h => by
            by_cases hi : i < m
            · rw [if_pos hi]; exact Go.bounds_u8 (h hi)
            · rw [if_neg hi]; omega
          refine Go.Ev.trn9_some trn bw bw3 (z := fun i => if i < m then (f i).1 else 0) (q := fun i => if i < m then (f i).2.1 else 0) (y := fun i => if i < m then (f i).2.2 else 0) (fun i => hbd (fun i => (f i).1) i fun hi => (hcell i hi).2.2.2.1) (fun i => hbd (fun i => (f i).2.1) i fun hi => (hcell i hi).2.2.2.2.1) (fun i => hbd (fun i => (f i).2.2) i fun hi => (hcell i hi).2.2.2.2.2) (by omega) hc fun i hi => ?_
          have hi2 : i < m := by omega
          simp only [if_pos hi2]
          exact ⟨get _ _ (hc0 i hi2).1, get _ _ (hc0 i hi2).2.1, get _ _ (hc0 i hi2).2.2⟩
        · cases hz0
    · have hd : d1 = .slice ((List.range len).map (by3 f)) ((List.range (m - len)).map fun j => by3 f (len + j)) := h2
      obtain ⟨k, p, hk⟩ := shut3 (enc := enc) (w := W') (base := 0) (spare := fun b => decide (b < W.heap.size)) (held := true) (b := ab) (off := ao) (len := len) (cap := m) (Nat.zero_le _) hl hm (decide_eq_true hblk) f (fun i hi => by
        obtain ⟨e0, e1, e2⟩ := hc0 i hi
        refine ⟨?_, ?_, ?_, (hcell i hi).2.2.2⟩
        · rw [World.keptBut.cell hg hblk (fun h => h.elim)]; exact e0
        · rw [World.keptBut.cell hg hblk (fun h => h.elim)]; exact e1
        · rw [World.keptBut.cell hg hblk (fun h => h.elim)]; exact e2)
      exact ⟨p, k, by rw [hd]; exact hk⟩

theorem isNamed : Tryz.pinned.checked.prog.funcNamed Rows.turnTellsRow.func = some 9 := by kernel_rfl
theorem isWrapped : Tryz.f9.isWrapper Tryz.pinned.checked.prog Rows.turnTellsRow.wrapper Rows.turnTellsRow.mainSum := by
  unfold Func.isWrapper
  first | (rw [if_pos (by decide +kernel)]; kernel_rfl) | (rw [if_neg (by decide +kernel)]; exact ⟨rfl, rfl⟩)

theorem over : Rows.turnTellsRow.holds Tryz.pinned (OpenSpec.ofChange Rows.turnTellsSpec) :=
  OpenClaim.holds_of_wide 9 Tryz.f9 rfl rfl rfl rfl rfl rfl rfl ⟨rfl, rfl, rfl, rfl, rfl⟩ rfl rfl rfl rfl rfl isNamed Tryz.func9 facts
    (of_decide_eq_true (by kernel_rfl)) isWrapped
    (fun os started H enc _ => lifted os started H enc)

theorem proved : Rows.TurnTellsSaid := over
#print axioms proved
end Go.Proofs.YtcmplhmbmmclaaaGreat.turnTells
