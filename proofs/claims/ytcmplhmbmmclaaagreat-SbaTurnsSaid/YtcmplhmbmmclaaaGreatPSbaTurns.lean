/- Proved here: the law SbaTurns, as the given statement says it. Conditions: none. -/
import Derived.Test.YtcmplhmbmmclaaaGreatKWSbaTurns
import Derived.Test.YtcmplhmbmmclaaaGreatKQSbaTurns
import Derived.Test.YtcmplhmbmmclaaaGreatKPSbaTurns
import Derived.Test.YtcmplhmbmmclaaaGreatKCSbaTurns
import Derived.Test.YtcmplhmbmmclaaaGreatBSbaTurns
import Derived.Test.YtcmplhmbmmclaaaGreatFSbaTurns
import Derived.Test.YtcmplhmbmmclaaaGreatEvM
import Derived.ProofKit
import Derived.OpenShut
namespace Go.Proofs.YtcmplhmbmmclaaaGreat.sbaTurns
open Go.ChangeShapes Go.WideShapes Go.ChangeAt Go.RowKit
set_option linter.unusedVariables false

theorem cellsI : Tryz.prog.cellsOf 5 = 1 := by kernel_rfl
theorem own : ownKnob Tryz.prog.godebug = none := by kernel_rfl
theorem mixed : Tryz.prog.follows .mixedOrders = true := by kernel_rfl
/-- An event with one or two numbers that are not known. -/
@[reducible] noncomputable def sg2 (c k : Int) : Go.Ev.Sg := Go.Ev.mkSg (fun i => match i with | 0 => c | _ => k) (fun _ => .undef) (fun _ => .deferred)
theorem evTV (a : Int) (h : 0 ≤ a ∧ a ≤ 2) : @Go.Ev.VAs (sg2 a 0) [evT] [.agg (Go.Ev.evRow 20 a 0 0 0 Go.Ev.it0)] := by
  letI : Go.Ev.Sg := sg2 a 0
  refine .cons (@Go.Ev.VA.ofList _ _ (Go.Ev.evRow 20 a 0 0 0 Go.Ev.it0) ?_ (show 13 ≤ 4180 by decide)) .nil
  exact (.cons (Go.Ev.VA.mkV _) (.cons (Go.Ev.VA.symV (i := 0) (n := a) rfl (by omega) (by omega) (by decide) (fun m hm => by cases hm)) (.cons (Go.Ev.VA.mkV _) (.cons (Go.Ev.VA.mkV _) (.cons (Go.Ev.VA.mkV _) (.cons (Go.Ev.VA.mkV _) (.cons (Go.Ev.VA.mkV _) (.cons (Go.Ev.VA.mkV _) (.cons (Go.Ev.VA.mkV _) (.cons (Go.Ev.VA.mkV _) (.cons (Go.Ev.VA.mkV _) (.cons (Go.Ev.VA.mkV _) (.cons (Go.Ev.VA.mkV _) .nil)))))))))))))
theorem evUV (a : Int) (h : 1 ≤ a ∧ a ≤ 1000000) : @Go.Ev.VAs (sg2 a 0) [evU] [.agg (Go.Ev.evRow 18 a 0 0 0 Go.Ev.it0)] := by
  letI : Go.Ev.Sg := sg2 a 0
  refine .cons (@Go.Ev.VA.ofList _ _ (Go.Ev.evRow 18 a 0 0 0 Go.Ev.it0) ?_ (show 13 ≤ 4180 by decide)) .nil
  exact (.cons (Go.Ev.VA.mkV _) (.cons (Go.Ev.VA.symV (i := 0) (n := a) rfl (by omega) (by omega) (by decide) (fun m hm => by cases hm)) (.cons (Go.Ev.VA.mkV _) (.cons (Go.Ev.VA.mkV _) (.cons (Go.Ev.VA.mkV _) (.cons (Go.Ev.VA.mkV _) (.cons (Go.Ev.VA.mkV _) (.cons (Go.Ev.VA.mkV _) (.cons (Go.Ev.VA.mkV _) (.cons (Go.Ev.VA.mkV _) (.cons (Go.Ev.VA.mkV _) (.cons (Go.Ev.VA.mkV _) (.cons (Go.Ev.VA.mkV _) .nil)))))))))))))
theorem evWV (c k : Int) (h1 : 0 ≤ c ∧ c ≤ 2) (h2 : 0 ≤ k ∧ k ≤ 7) : @Go.Ev.VAs (sg2 c k) [evW] [.agg (Go.Ev.evRow 17 0 0 0 0 ⟨0, 3, c, 0, k, 0⟩)] := by
  letI : Go.Ev.Sg := sg2 c k
  refine .cons (@Go.Ev.VA.ofList _ _ (Go.Ev.evRow 17 0 0 0 0 ⟨0, 3, c, 0, k, 0⟩) ?_ (show 13 ≤ 4180 by decide)) .nil
  exact (.cons (Go.Ev.VA.mkV _) (.cons (Go.Ev.VA.mkV _) (.cons (Go.Ev.VA.mkV _) (.cons (Go.Ev.VA.mkV _) (.cons (Go.Ev.VA.mkV _) (.cons (Go.Ev.VA.mkV _) (.cons (Go.Ev.VA.mkV _) (.cons (Go.Ev.VA.mkV _) (.cons (Go.Ev.VA.symV (i := 0) (n := c) rfl (by omega) (by omega) (by decide) (fun m hm => by cases hm)) (.cons (Go.Ev.VA.mkV _) (.cons (Go.Ev.VA.symV (i := 1) (n := k) rfl (by omega) (by omega) (by decide) (fun m hm => by cases hm)) (.cons (Go.Ev.VA.mkV _) (.cons (Go.Ev.VA.mkV _) .nil)))))))))))))
theorem evPV (c k : Int) (h1 : 0 ≤ c ∧ c ≤ 2) (h2 : 0 ≤ k ∧ k ≤ 7) : @Go.Ev.VAs (sg2 c k) [evP2] [.agg (Go.Ev.evRow 15 0 0 0 0 ⟨0, 3, c, 0, k, 0⟩)] := by
  letI : Go.Ev.Sg := sg2 c k
  refine .cons (@Go.Ev.VA.ofList _ _ (Go.Ev.evRow 15 0 0 0 0 ⟨0, 3, c, 0, k, 0⟩) ?_ (show 13 ≤ 4180 by decide)) .nil
  exact (.cons (Go.Ev.VA.mkV _) (.cons (Go.Ev.VA.mkV _) (.cons (Go.Ev.VA.mkV _) (.cons (Go.Ev.VA.mkV _) (.cons (Go.Ev.VA.mkV _) (.cons (Go.Ev.VA.mkV _) (.cons (Go.Ev.VA.mkV _) (.cons (Go.Ev.VA.mkV _) (.cons (Go.Ev.VA.symV (i := 0) (n := c) rfl (by omega) (by omega) (by decide) (fun m hm => by cases hm)) (.cons (Go.Ev.VA.mkV _) (.cons (Go.Ev.VA.symV (i := 1) (n := k) rfl (by omega) (by omega) (by decide) (fun m hm => by cases hm)) (.cons (Go.Ev.VA.mkV _) (.cons (Go.Ev.VA.mkV _) .nil)))))))))))))
theorem orcOk : Go.Ev.OrcOk Tryz.prog orc := by
  refine Go.Ev.orc4_ok (Go.Ev.works_kcon mixed sbaTurnsWorks) (fun p hp => ?_) (fun c k h1 h2 => ?_) (fun a h => ?_) (fun c k h1 h2 => ?_)
  · exact @Go.Ev.fast_kcon (sg2 (p : Int) 0) _ mixed _ _ _ _ _ (evTV p ⟨by omega, by omega⟩) trivial runT
  · exact @Go.Ev.fast_kcon (sg2 c k) _ mixed _ _ _ _ _ (evWV c k h1 h2) trivial runW
  · exact @Go.Ev.fast_kcon (sg2 a 0) _ mixed _ _ _ _ _ (evUV a h) trivial runU
  · exact @Go.Ev.fast_kcon (sg2 c k) _ mixed _ _ _ _ _ (evPV c k h1 h2) trivial runP2
theorem trn : Go.Ev.Trn Tryz.prog orc (fun n => n) (fun n => n) 4 Tryz.f4 (Tryz.f4.body.getD .skip) (Go.Ev.ruleS 17 201) 1000 where
  mixed := mixed
  orc := orcOk
  base := baseAll
  says := Go.Ev.says4 (by decide)
  rule := fun S => @Go.Ev.ruleS_ok S _ _ _ (fun H => Go.Ev.orc4_w (by decide) H) fun f args H h1 h2 => Go.Ev.orc4_none h1 h2 args H
  func := Tryz.func4
  body := by kernel_rfl
  nt := by kernel_rfl
  res := by kernel_rfl
  name := by kernel_rfl
  rest := by kernel_rfl
  free := fun args H => Go.Ev.orc4_none (by decide) (by decide) args H
  runQ := runQ
  runP := runP
theorem okWide_block {P : Program} {w : World} {r : Reach} {base : Nat} {t e : TypeId} {a : Addr} {len cap : Nat} (ht : P.underlying t = some (.slice e)) (h : Value.okWide P w r base t (.slice (some a) len cap)) : a.block < w.heap.size := by
  unfold Value.okWide at h
  rw [ht] at h
  have h : Cell.okWide P w r base t (.slice (some a) len cap) := h
  unfold Cell.okWide at h
  rw [ht] at h
  have h : Cell.ok P w r base t (.slice (some a) len cap) := h
  unfold Cell.ok at h
  rw [ht] at h
  obtain ⟨_, _, _, _, row, cells, hs, _⟩ := h
  unfold World.shape? at hs
  split at hs
  · rename_i hb
    exact (Array.getElem?_eq_some_iff.1 hb).1
  · cases hs
set_option maxRecDepth 100000 in
theorem lifted (os : Os) (started : os.Started) (H : Type) (enc : TypeId × Value → H) :
    ReturnsInHanded {} Tryz.checked os 4 .any (Rows.sbaTurnsSpec.pre6 enc Tryz.prog Tryz.f4 Rows.sbaTurnsRow.domain false) (Rows.sbaTurnsSpec.post enc Tryz.prog Tryz.f4 false true false false) := by
  refine returnsInHanded_of_change (C := Tryz.checked) own started (by kernel_rfl) Tryz.func4
    (ChangeSpec.witness6 (enc := enc) (C := Tryz.checked) false ⟨#[], #[.slice none 0 0, .int .u8 0], []⟩ 8 (by kernel_rfl) (by kernel_rfl) (by kernel_rfl) (by kernel_rfl)) ?_
  intro W base args ds gs before hval0 hW hcnd _
  have hW' := hW
  have hlt := hW.lt
  obtain ⟨p, q, hA0, hV, rfl, hfz, hnd⟩ := hW
  have hA : DataW.TrodAll enc Tryz.prog W 0 (fun _ => true) true Tryz.f4.params.toList args.toList ds p := hA0
  rw [Tryz.params4] at hA
  obtain ⟨v1, v2, d1, d2, p1, p2, rfl, rfl, rfl, hd1, hd2⟩ := trodAll_two hA
  obtain ⟨rfl, rfl⟩ := trodVars_none hV
  obtain ⟨wh, rfl, rfl, rfl, w2⟩ := open_int Tryz.underlying5 (hval0 1 _ _ rfl rfl) hd2
  have bw := Go.bounds_u8 w2
  obtain ⟨a, len, cap, rfl⟩ := okWide_slice Tryz.underlying22 (hval0 0 _ _ rfl rfl)
  simp only [List.append_nil] at hW' hlt
  have fin : Calls Tryz.prog 4 #[.slice a len cap, .int .u8 wh] W (fun e w' => e = .returned (.bool true) ∧ W.keptBut w' (fun _ => False)) →
      (∀ W' : World, W.keptBut W' (fun _ => False) → ∃ pa, DataW.Trod enc Tryz.prog W' 0 (fun b => decide (b < W.heap.size)) true 22 (.slice a len cap) d1 pa) →
      Calls Tryz.prog 4 #[.slice a len cap, .int .u8 wh] W fun e W' => ∃ v, e = .returned v ∧ Rows.sbaTurnsSpec.post enc Tryz.prog Tryz.f4 false true false false W #[.slice a len cap, .int .u8 wh] v W' := by
    intro hcall hback
    refine hcall.mono fun e W' ⟨he, hg⟩ => ?_
    subst he
    obtain ⟨pa, hpa⟩ := hback W' hg
    exact ⟨_, rfl, ⟨_, [], _, [], _, [], hW', trodAll_cons_mk (shut_bool Tryz.underlying4 _) trodAll_mk0, trodAll_mk2 hpa (shut_int Tryz.underlying5 w2), rfl, World.keptBut_mono (fun _ hp => hp.elim) hg, fun h => absurd h (by decide)⟩⟩
  obtain ⟨fuel, hf⟩ := hd1
  rcases open_ints Tryz.underlying22 Tryz.underlying5 cellsI hf with ⟨h1, h2⟩ | ⟨a', len', cap', zs, h1, hb0, hl, hm, hzl, h2, hcell, hwf⟩
  · have h1 : [Value.slice a len cap] = [.slice none 0 0] := h1
    simp only [List.cons.injEq, Value.slice.injEq, and_true] at h1
    obtain ⟨rfl, rfl, rfl⟩ := h1
    have hd : d1 = .nil := congrArg Prod.fst h2
    subst hd
    refine fin (Go.Ev.trn_none trn bw (lv := .slice none 0 0 false 0) rfl Go.Ev.Opq.slice ⟨rfl, rfl⟩ W) fun W' hg => ⟨[], 1, ?_⟩
    show DataW.trod enc Tryz.prog W' 0 _ true 1 22 [.slice none 0 0] = _
    simp [DataW.trod, Tryz.underlying22]
  · have h1 : [Value.slice a len cap] = [.slice (some a') len' cap'] := h1
    simp only [List.cons.injEq, Value.slice.injEq, and_true] at h1
    obtain ⟨rfl, rfl, rfl⟩ := h1
    have hzl : zs.length = cap := by simpa using hzl
    have hd : d1 = .slice (lits .u8 (zs.take len)) (lits .u8 (zs.drop len)) := congrArg Prod.fst h2
    have hp1 : p1 = MemPlace.row a' zs.length := congrArg Prod.snd h2
    have hshape := hval0 0 _ _ rfl rfl
    have hblk : a'.block < W.heap.size := okWide_block Tryz.underlying22 hshape
    refine fin ?_ fun W' hg => ⟨MemPlace.row a' zs.length, fuel + 2, ?_⟩
    · by_cases h0 : len = 0
      · subst h0
        exact Go.Ev.trn_none trn bw (lv := .empty) rfl Go.Ev.Opq.empty ⟨_, _, rfl⟩ W
      · obtain ⟨ab, ao, sp⟩ := a'
        have hsp : sp = none := by
          have := World.cell?_spot (hcell 0 (by omega))
          simpa [Addr.add] using this
        subst hsp
        have hcell : ∀ i, i < zs.length → W.cell? ⟨ab, ao + i, none⟩ = some (.int .u8 (zs.getD i 0)) := fun i hi => by rw [← add_plain]; exact hcell i hi
        have hc0 := hcell 0 (by omega)
        unfold World.cell? at hc0
        split at hc0
        · rename_i c el fz hc
          have hc : W.heap[ab]? = some (.cells c el fz) := hc
          have hget : ∀ i, i < zs.length → c[ao + i]? = some (.int .u8 (zs.getD i 0)) := fun i hi => by
            have := hcell i hi
            unfold World.cell? at this
            simpa [hc] using this
          have hb8 : ∀ i, 0 ≤ zs.getD i 0 ∧ zs.getD i 0 ≤ 255 := fun i => by
            by_cases hi : i < zs.length
            · have : zs.getD i 0 = zs[i] := by simp [List.getD, hi]
              rw [this]
              exact Go.bounds_u8 (hwf _ (List.getElem_mem hi))
            · have : zs.getD i 0 = 0 := by simp [List.getD, hi]
              rw [this]; omega
          have hfit : ao + len ≤ c.size := by
            have := (Array.getElem?_eq_some_iff.1 (hget (len - 1) (by omega))).1
            omega
          exact Go.Ev.trn_some trn bw hb8 (by omega) hc hfit (fun i hi => hget i (by omega))
        · cases hc0
    · rw [hd]
      refine shut_ints fuel Tryz.underlying22 Tryz.underlying5 cellsI (Nat.zero_le _) hl hm (by rw [hzl]; simp [hblk]) (fun i hi => ?_) hwf
      have hci := hcell i hi
      obtain ⟨ab, ao, sp⟩ := a'
      have hsp : sp = none := by
        have := World.cell?_spot (hcell 0 (by omega))
        simpa [Addr.add] using this
      subst hsp
      rw [add_plain] at hci ⊢
      rw [World.keptBut.cell hg hblk (fun h => h.elim)]
      exact hci

theorem isNamed : Tryz.pinned.checked.prog.funcNamed Rows.sbaTurnsRow.func = some 4 := by kernel_rfl
theorem isWrapped : Tryz.f4.isWrapper Tryz.pinned.checked.prog Rows.sbaTurnsRow.wrapper Rows.sbaTurnsRow.mainSum := by
  unfold Func.isWrapper
  first | (rw [if_pos (by decide +kernel)]; kernel_rfl) | (rw [if_neg (by decide +kernel)]; exact ⟨rfl, rfl⟩)

theorem over : Rows.sbaTurnsRow.holds Tryz.pinned (OpenSpec.ofChange Rows.sbaTurnsSpec) :=
  OpenClaim.holds_of_wide 4 Tryz.f4 rfl rfl rfl rfl rfl rfl rfl ⟨rfl, rfl, rfl, rfl, rfl⟩ rfl rfl rfl rfl rfl isNamed Tryz.func4 facts
    (of_decide_eq_true (by kernel_rfl)) isWrapped
    (fun os started H enc _ => lifted os started H enc)

theorem proved : Rows.SbaTurnsSaid := over
#print axioms proved
end Go.Proofs.YtcmplhmbmmclaaaGreat.sbaTurns
