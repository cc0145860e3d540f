/- Proved here: the law ActPays, as the given statement says it. Conditions: none. -/
import Derived.Test.YtbgjkfbeofbngaaGreatKWActPays
import Derived.Test.YtbgjkfbeofbngaaGreatKActPays
import Derived.Test.YtbgjkfbeofbngaaGreatKCActPays
import Derived.Test.YtbgjkfbeofbngaaGreatBActPays
import Derived.Test.YtbgjkfbeofbngaaGreatFActPays
import Derived.Test.YtbgjkfbeofbngaaGreatEvM
import Derived.ProofKit
import Derived.OpenShut
namespace Go.Proofs.YtbgjkfbeofbngaaGreat.actPays
open Go.Ev
open Go.ChangeShapes Go.WideShapes Go.ChangeAt Go.RowKit
set_option linter.unusedVariables false

theorem cellsI : Tryz.prog.cellsOf 5 = 1 := by kernel_rfl
theorem own : ownKnob Tryz.prog.godebug = none := by kernel_rfl
theorem mixed : Tryz.prog.follows .mixedOrders = true := by kernel_rfl
/-- An event with numbers that are not known. -/
@[reducible] noncomputable def sg4 (a b c e : Int) : Sg := mkSg (fun i => match i with | 0 => a | 1 => b | 2 => c | _ => e) (fun _ => .undef) (fun _ => .deferred)
theorem vn {S : Sg} : VAs [] [] := .nil
theorem vm {S : Sg} {l : List V} {r : List AV} {a : AV} (h : VAs l r) : VAs (mkV a :: l) (a :: r) := .cons (.mkV _) h
theorem vs {S : Sg} {l : List V} {r : List AV} {i b c : Nat} {n : Int} (h : VAs l r) (e : Sg.num i = n) (h1 : (b : Int) - 9223372036854775808 ≤ n) (h2 : n ≤ (c : Int) - 9223372036854775808) (h3 : c < 18446744073709551616) : VAs (symV i b c [] :: l) (.int .i64 n :: r) := .cons (VA.symV e h1 h2 h3 (fun m hm => by cases hm)) h
theorem va {S : Sg} {l : List V} {r : List AV} (h : VAs l r := by repeat (first | exact vn | apply vm | refine vs ?_ rfl (by first | omega | (dsimp only; omega)) (by first | omega | (dsimp only; omega)) (by decide))) (hl : r.length = 13 := by rfl) : VAs [vAgg (rowV l) 0 13] [.agg r] := by rw [← hl]; exact .cons (VA.ofList h (by omega)) .nil
theorem rowBel {p : Int} : ∀ (j : Nat) v, [iv p, iv 0][j]? = some v → AV.Bel 1 v
  | 0, _, rfl => trivial
  | 1, _, rfl => trivial
theorem kz {S : Sg} {v : V} {a : AV} (hc : ((callF Tryz.prog noneKnown 1000).call 253 [v] fh0 fun v _ => isA v (iv 0)) = true) (hv : VAs [v] [a]) : KCon Tryz.prog 253 [a] hp0 (iv 0) hp0 := fast_kcon mixed hv trivial hc
theorem kx {f : Nat} {a b r : AV} (hb : AV.Bel 0 r) (h : ((callF Tryz.prog noneKnown 1000).call f [mkV a, mkV b] fh0 fun v _ => isA v r) = true) : KCon Tryz.prog f [a, b] hp0 r hp0 := @fast_kcon (sg4 0 0 0 0) _ mixed _ _ _ _ _ (vm (vm vn)) hb h
theorem kq {S : Sg} {p : Int} {v : V} {a : AV} (hc : ((callF Tryz.prog noneKnown 1000).call 253 [v] (fh1 (rpR (rowA [iv p, iv 0])) 2) (ck1 2 [iv p, iv 0] (iv 0))) = true) (hv : VAs [v] [a]) : KCon Tryz.prog 253 [a] (hp1 [iv p, iv 0] 2) (iv 0) (hp1 [iv p, iv 0] 2) :=
  fast_kcon1 (R1 := rpR (rowA [iv p, iv 0])) (sz := 2) mixed (by rw [at_rpR]; exact rowA_ok (cs := [iv p, iv 0]) (show 2 ≤ 4180 by decide)) hv trivial rowBel hc
theorem orcOk : OrcOk Tryz.prog orc := by
  refine orc14_ok (fun f args v h => ?_) (fun p hp => ?_) (fun p o hp ho => ?_)
  · generalize hf : fF 201 = fc at h
    cases h with
    | w => exact works_kc mixed actPaysWorks
    | new a b h0 h1 => subst hf; exact kz (S := sg4 a b 0 0) chkN va
    | cast0 => subst hf; exact kz (S := sg4 0 0 0 0) chkZ va
    | cast a b c h0 h1 h2 => subst hf; exact kz (S := sg4 a b c 0) chkC va
    | tap a h0 => subst hf; exact kz (S := sg4 a 0 0 0) chkT va
    | mana a h0 => subst hf; exact kz (S := sg4 a 0 0 0) chkM va
    | move a h0 => subst hf; exact kz (S := sg4 a 0 0 0) chkY va
    | push a h0 => subst hf; exact kz (S := sg4 a 0 0 0) chkP va
    | can x w hx =>
      cases w
      · exact kx (f := 165) (b := .agg [iv 0, iv 0, iv 0, iv 1]) trivial (List.all_eq_true.1 canf x (List.mem_range.2 (by omega)))
      · exact kx (f := 165) (b := .agg [iv 1, iv 0, iv 0, iv 0]) trivial (List.all_eq_true.1 cant x (List.mem_range.2 (by omega)))
    | pay x w h1 hx =>
      obtain ⟨y, rfl⟩ : ∃ y, x = y + 1 := ⟨x - 1, by omega⟩
      have e : (.ofNat (y + 1) : Int) - 1 = .ofNat y := by simp only [Int.ofNat_eq_natCast]; omega
      rw [e]
      cases w
      · exact kx (f := 169) (b := .agg [iv 0, iv 0, iv 0, iv 1]) ⟨⟨trivial, trivial, trivial, trivial, trivial⟩, trivial, trivial⟩ (List.all_eq_true.1 payf y (List.mem_range.2 (by omega)))
      · exact kx (f := 169) (b := .agg [iv 1, iv 0, iv 0, iv 0]) ⟨⟨trivial, trivial, trivial, trivial, trivial⟩, trivial, trivial⟩ (List.all_eq_true.1 payt y (List.mem_range.2 (by omega)))
  · rcases (by omega : p = 0 ∨ p = 1) with rfl | rfl
    · exact kq (S := sg4 0 0 0 0) chkCT0 va
    · exact kq (S := sg4 0 0 0 0) chkCT1 va
  · rcases (by omega : p = 0 ∨ p = 1) with rfl | rfl
    · exact kq (S := sg4 o 0 0 0) chkPT0 va
    · exact kq (S := sg4 o 0 0 0) chkPT1 va
theorem trn : Trn14 Tryz.prog orc fF fT 6 Tryz.f6 (Tryz.f6.body.getD .skip) Tryz.f34 (Tryz.f34.body.getD .skip) (ruleH 41 253 165 169) 1000 where
  mixed := mixed
  orc := orcOk
  base := aenv
  hmk := myBaseMk
  t402 := ⟨by kernel_rfl, by kernel_rfl⟩
  rule := fun S => @ruleH_ok S _ _ _ _ _ (fun H => orc14_w neA H) fun f args H h1 h2 h3 h4 => orc14_none h1 h2 h3 h4 args H
  func := Tryz.func6
  body := by kernel_rfl
  nt := by kernel_rfl
  res := by kernel_rfl
  name := by kernel_rfl
  rest := by kernel_rfl
  free := fun args H => orc14_none (by decide) (by decide) (by decide) (by decide) args H
  funcg := Tryz.func34
  bodyg := by kernel_rfl
  ntg := by kernel_rfl
  resg := by kernel_rfl
  nameg := by kernel_rfl
  restg := by kernel_rfl
  freeg := fun args H => orc14_none (by decide) (by decide) (by decide) (by decide) args H
  runQ := runQ
  runP := runP
theorem okWide_block {P : Program} {w : World} {r : Reach} {base : Nat} {t e : TypeId} {a : Addr} {len cap : Nat} (ht : P.underlying t = some (.slice e)) (h : Value.okWide P w r base t (.slice (some a) len cap)) : a.block < w.heap.size := by
  unfold Value.okWide at h
  rw [ht] at h
  have h : Cell.okWide P w r base t (.slice (some a) len cap) := h
  unfold Cell.okWide at h
  rw [ht] at h
  have h : Cell.ok P w r base t (.slice (some a) len cap) := h
  unfold Cell.ok at h
  rw [ht] at h
  obtain ⟨_, _, _, _, row, cells, hs, _⟩ := h
  unfold World.shape? at hs
  split at hs
  · rename_i hb
    exact (Array.getElem?_eq_some_iff.1 hb).1
  · cases hs
set_option maxRecDepth 100000 in
theorem lifted (os : Os) (started : os.Started) (H : Type) (enc : TypeId × Value → H) :
    ReturnsInHanded {} Tryz.checked os 6 .any (Rows.actPaysSpec.pre6 enc Tryz.prog Tryz.f6 Rows.actPaysRow.domain false) (Rows.actPaysSpec.post enc Tryz.prog Tryz.f6 false true false false) := by
  refine returnsInHanded_of_change (C := Tryz.checked) own started (by kernel_rfl) Tryz.func6
    (ChangeSpec.witness6 (enc := enc) (C := Tryz.checked) false ⟨#[], #[.int .u8 0, .int .u8 0, .slice none 0 0], []⟩ 8 (by kernel_rfl) (by kernel_rfl) (by kernel_rfl) (by kernel_rfl)) ?_
  intro W base args ds gs before hval0 hW hcnd _
  have hW' := hW
  have hlt := hW.lt
  obtain ⟨p, q, hA0, hV, rfl, hfz, hnd⟩ := hW
  have hA : DataW.TrodAll enc Tryz.prog W 0 (fun _ => true) true Tryz.f6.params.toList args.toList ds p := hA0
  rw [Tryz.params6] at hA
  obtain ⟨v1, v3, v2, d1, d3, d2, p1, p3, p2, rfl, rfl, rfl, hd1, hd3, hd2⟩ := trodAll_three hA
  obtain ⟨rfl, rfl⟩ := trodVars_none hV
  obtain ⟨wl, rfl, rfl, rfl, w3⟩ := open_int Tryz.underlying5 (hval0 0 _ _ rfl rfl) hd1
  have bl := Go.bounds_u8 w3
  obtain ⟨wh, rfl, rfl, rfl, w2⟩ := open_int Tryz.underlying5 (hval0 1 _ _ rfl rfl) hd3
  have bw := Go.bounds_u8 w2
  obtain ⟨a, len, cap, rfl⟩ := okWide_slice Tryz.underlying23 (hval0 2 _ _ rfl rfl)
  simp only [List.append_nil] at hW' hlt
  have fin : Calls Tryz.prog 6 #[.int .u8 wl, .int .u8 wh, .slice a len cap] W (fun e w' => e = .returned (.bool true) ∧ W.keptBut w' (fun _ => False)) →
      (∀ W' : World, W.keptBut W' (fun _ => False) → ∃ pa, DataW.Trod enc Tryz.prog W' 0 (fun b => decide (b < W.heap.size)) true 23 (.slice a len cap) d2 pa) →
      Calls Tryz.prog 6 #[.int .u8 wl, .int .u8 wh, .slice a len cap] W fun e W' => ∃ v, e = .returned v ∧ Rows.actPaysSpec.post enc Tryz.prog Tryz.f6 false true false false W #[.int .u8 wl, .int .u8 wh, .slice a len cap] v W' := by
    intro hcall hback
    refine hcall.mono fun e W' ⟨he, hg⟩ => ?_
    subst he
    obtain ⟨pa, hpa⟩ := hback W' hg
    exact ⟨_, rfl, ⟨_, [], _, [], _, [], hW', trodAll_cons_mk (shut_bool Tryz.underlying4 _) trodAll_mk0, trodAll_mk3 (shut_int Tryz.underlying5 w3) (shut_int Tryz.underlying5 w2) hpa, rfl, World.keptBut_mono (fun _ hp => hp.elim) hg, fun h => absurd h (by decide)⟩⟩
  obtain ⟨fuel, hf⟩ := hd2
  rcases open_ints Tryz.underlying23 Tryz.underlying5 cellsI hf with ⟨h1, h2⟩ | ⟨a', len', cap', zs, h1, hb0, hl, hm, hzl, h2, hcell, hwf⟩
  · have h1 : [Value.slice a len cap] = [.slice none 0 0] := h1
    simp only [List.cons.injEq, Value.slice.injEq, and_true] at h1
    obtain ⟨rfl, rfl, rfl⟩ := h1
    have hd : d2 = .nil := congrArg Prod.fst h2
    subst hd
    refine fin (trn14_none trn bl bw (lv := .slice none 0 0 false 0) rfl ⟨rfl, rfl⟩ W) fun W' hg => ⟨[], 1, ?_⟩
    show DataW.trod enc Tryz.prog W' 0 _ true 1 23 [.slice none 0 0] = _
    simp [DataW.trod, Tryz.underlying23]
  · have h1 : [Value.slice a len cap] = [.slice (some a') len' cap'] := h1
    simp only [List.cons.injEq, Value.slice.injEq, and_true] at h1
    obtain ⟨rfl, rfl, rfl⟩ := h1
    have hzl : zs.length = cap := by simpa using hzl
    have hd : d2 = .slice (lits .u8 (zs.take len)) (lits .u8 (zs.drop len)) := congrArg Prod.fst h2
    have hp1 : p2 = MemPlace.row a' zs.length := congrArg Prod.snd h2
    have hshape := hval0 2 _ _ rfl rfl
    have hblk : a'.block < W.heap.size := okWide_block Tryz.underlying23 hshape
    refine fin ?_ fun W' hg => ⟨MemPlace.row a' zs.length, fuel + 2, ?_⟩
    · by_cases h0 : len = 0
      · subst h0
        exact trn14_none trn bl bw (lv := .empty) rfl ⟨_, _, rfl⟩ W
      · obtain ⟨ab, ao, sp⟩ := a'
        have hsp : sp = none := by
          have := World.cell?_spot (hcell 0 (by omega))
          simpa [Addr.add] using this
        subst hsp
        have hcell : ∀ i, i < zs.length → W.cell? ⟨ab, ao + i, none⟩ = some (.int .u8 (zs.getD i 0)) := fun i hi => by rw [← add_plain]; exact hcell i hi
        have hc0 := hcell 0 (by omega)
        unfold World.cell? at hc0
        split at hc0
        · rename_i c el fz hc
          have hc : W.heap[ab]? = some (.cells c el fz) := hc
          have hget : ∀ i, i < zs.length → c[ao + i]? = some (.int .u8 (zs.getD i 0)) := fun i hi => by
            have := hcell i hi
            unfold World.cell? at this
            simpa [hc] using this
          have hb8 : ∀ i, 0 ≤ zs.getD i 0 ∧ zs.getD i 0 ≤ 255 := fun i => by
            by_cases hi : i < zs.length
            · have : zs.getD i 0 = zs[i] := by simp [List.getD, hi]
              rw [this]
              exact Go.bounds_u8 (hwf _ (List.getElem_mem hi))
            · have : zs.getD i 0 = 0 := by simp [List.getD, hi]
              rw [this]; omega
          have hfit : ao + len ≤ c.size := by
            have := (Array.getElem?_eq_some_iff.1 (hget (len - 1) (by omega))).1
            omega
          exact trn14_some trn bl bw hb8 (by omega) hc hfit (fun i hi => hget i (by omega))
        · cases hc0
    · rw [hd]
      refine shut_ints fuel Tryz.underlying23 Tryz.underlying5 cellsI (Nat.zero_le _) hl hm (by rw [hzl]; simp [hblk]) (fun i hi => ?_) hwf
      have hci := hcell i hi
      obtain ⟨ab, ao, sp⟩ := a'
      have hsp : sp = none := by
        have := World.cell?_spot (hcell 0 (by omega))
        simpa [Addr.add] using this
      subst hsp
      rw [add_plain] at hci ⊢
      rw [World.keptBut.cell hg hblk (fun h => h.elim)]
      exact hci

theorem isNamed : Tryz.pinned.checked.prog.funcNamed Rows.actPaysRow.func = some 6 := by kernel_rfl
theorem isWrapped : Tryz.f6.isWrapper Tryz.pinned.checked.prog Rows.actPaysRow.wrapper Rows.actPaysRow.mainSum := by
  unfold Func.isWrapper
  first | (rw [if_pos (by decide +kernel)]; kernel_rfl) | (rw [if_neg (by decide +kernel)]; exact ⟨rfl, rfl⟩)

theorem over : Rows.actPaysRow.holds Tryz.pinned (OpenSpec.ofChange Rows.actPaysSpec) :=
  OpenClaim.holds_of_wide 6 Tryz.f6 rfl rfl rfl rfl rfl rfl rfl ⟨rfl, rfl, rfl, rfl, rfl⟩ rfl rfl rfl rfl rfl isNamed Tryz.func6 facts
    (of_decide_eq_true (by kernel_rfl)) isWrapped
    (fun os started H enc _ => lifted os started H enc)

theorem proved : Rows.ActPaysSaid := over
#print axioms proved
end Go.Proofs.YtbgjkfbeofbngaaGreat.actPays
