/- A machine that is proved sound, and walks by it. Conditions: none. -/
import Derived.Test.YtehcpacbinbioaaGreatEvB
import Derived.Laws.Tables
import Derived.Laws.CopyRow
set_option linter.all false
namespace Go.Ev
section
variable {P : Program} {X : Pt} {w0 : World} {g : G} {H H' : Heap} {w : World} {ρ : Operand → Option AV} {ev : Operand → Value} {v : AV}
theorem bnd_run {y n c : Nat} {u : AV} {x : Value} (hb : bnd y u = some n) (hx : VR g u x) (hyc : y ≤ c) (code : BoundsCode) : (Instr.sliceBound x c code).run P w = .ok n w ∧ n ≤ y := by
  unfold bnd at hb
  split at hb
  · split at hb
    · rename_i k m hle
      cases hb
      have hle := Nat.le_of_ble_eq_true hle
      rw [hx.int_inv]
      refine ⟨?_, hle⟩
      have h1 : (0 : Int) ≤ Int.ofNat n ∧ Int.ofNat n ≤ (c : Int) := by simp; omega
      simp only [Instr.sliceBound, asIntOf, Sem.run_bind, Sem.run_pure, Result.andThen_ok, if_pos h1]
      rfl
    · cases hb
  · cases hb
theorem bndO_none {y d n : Nat} (h : bndO ρ y d none = some n) : n = d := by cases h; rfl
theorem bndO_some {y d n : Nat} {x : Operand} (h : bndO ρ y d (some x) = some n) : ∃ u, ρ x = some u ∧ bnd y u = some n := by
  simp only [bndO] at h
  split at h
  · grind
  · cases h
theorem bounds2_run {isS : Bool} {len cap cap' hn ln : Nat} {lo hi : Option Operand} (hρ : RhoOk g ρ ev) (hcap : cap ≤ cap') (hh : bndO ρ cap len hi = some hn) (hl : bndO ρ hn 0 lo = some ln) :
    (Instr.sliceBounds isS len cap' (lo.map ev) (hi.map ev) none).run P w = .ok (ln, hn, cap') w ∧ ln ≤ hn := by
  have h2 : ∀ code, (match lo with | some x => Instr.sliceBound (ev x) hn code | none => pure 0 : Sem Nat).run P w = .ok ln w ∧ ln ≤ hn := by
    intro code
    cases lo with
    | none => have := bndO_none hl; subst this; exact ⟨rfl, Nat.zero_le _⟩
    | some x => obtain ⟨u, hu, hb⟩ := bndO_some hl; exact bnd_run hb (hρ _ _ hu) (Nat.le_refl _) code
  have h1 : ∀ code, (match hi with | some x => Instr.sliceBound (ev x) cap' code | none => pure len : Sem Nat).run P w = .ok hn w := by
    intro code
    cases hi with
    | none => have := bndO_none hh; subst this; rfl
    | some x => obtain ⟨u, hu, hb⟩ := bndO_some hh; exact (bnd_run hb (hρ _ _ hu) hcap code).1
  refine ⟨?_, (h2 .sliceB).2⟩
  unfold Instr.sliceBounds
  cases lo <;> cases hi <;> simp only [Option.map_none, Option.map_some, Sem.run_bind, Sem.run_pure, Result.andThen_ok, Option.isSome_none, Bool.false_eq_true, if_false] <;>
    first
      | grind
      | simp_all
theorem slc_gives {t : TypeId} {x : Operand} {lo hi mx : Option Operand} {op : AOp} (hρ : RhoOk g ρ ev) (hc : cOp P (.slice t x lo hi mx) = some op) (h : aval P H ρ op = some (v, H')) :
    H' = H ∧ Gives P g w (Instr.sliceAt t (ev x) (lo.map ev) (hi.map ev) (mx.map ev)) v := by
  unfold cOp at hc
  simp only at hc
  split at hc
  · -- of a slice
    rename_i e hu
    split at hc
    · rename_i k hsz
      cases hc
      simp only [aval] at h
      split at h
      · rename_i a len cap slack rw hx
        have hv := hρ _ _ hx
        split at h
        · -- two indexes
          split at h
          · rename_i hn hhn
            split at h
            · rename_i ln hln
              rw [force_eq, force_eq] at h
              have run : ∀ (A : Option Addr) (cap' : Nat), ev x = .slice A len cap' → cap ≤ cap' →
                  (Instr.sliceAt t (ev x) (lo.map ev) (hi.map ev) none).run P w = .ok (.slice (if cap' = ln then A else A.map (·.add (ln * (k + 1)))) (hn - ln) (cap' - ln)) w ∧ ln ≤ hn := by
                intro A cap' hA hle
                obtain ⟨hb, hl⟩ := bounds2_run (P := P) (w := w) (isS := true) (len := len) (cap' := cap') hρ hle hhn hln
                refine ⟨?_, hl⟩
                unfold Instr.sliceAt
                simp only [Sem.run_bind, run_underlying hu, Result.andThen_ok, Instr.slice, hA, hb, run_size w hsz]
                rfl
              simp only [Option.map_none]
              split at h
              · rename_i h0
                have h0 : ln = 0 := Nat.eq_of_beq_eq_true h0
                subst h0
                cases h
                refine ⟨rfl, ?_⟩
                cases a with
                | none =>
                  obtain ⟨rfl, he⟩ := hv
                  refine ⟨_, (run none cap he (Nat.le_refl _)).1, rfl, ?_⟩
                  simp
                | some p =>
                  obtain ⟨d, hd, hrw, he⟩ := hv
                  refine ⟨_, (run _ _ he (by split <;> omega)).1, d, hd, hrw, ?_⟩
                  simp [add_none, adr]
              · rename_i h0
                have h0 : ln ≠ 0 := fun e => by rw [e] at h0; cases h0
                split at h
                · cases h
                · rename_i p
                  obtain ⟨d, hd, hrw, he⟩ := hv
                  have hrun := run _ _ he (by split <;> omega)
                  split at h
                  · rename_i hlt
                    have hlt : ln < cap := by simpa [Nat.blt_eq] using hlt
                    split at h
                    · rename_i q hq
                      cases h
                      obtain ⟨hqb, hqa⟩ := elemAt_adr hq hd hrw
                      refine ⟨rfl, _, hrun.1, d, by rw [hqb]; exact hd, fun hr => ⟨(hrw hr).1, ?_⟩, ?_⟩
                      · unfold elemAt at hq
                        split at hq
                        · exact absurd rfl hr
                        · split at hq
                          · split at hq
                            · cases hq; rfl
                            · cases hq
                          · cases hq
                      · have hne : ¬ ((if slack = true then cap + d.xi else cap) = ln) := by split <;> omega
                        rw [if_neg hne]
                        simp only [Option.map_some, adr_add, hqa]
                        congr 1
                        have e1 : Nat.sub cap ln = cap - ln := rfl
                        rw [e1]
                        split <;> omega
                    · cases h
                  · split at h
                    · rename_i hnl heq
                      have heq : ln = cap := Nat.eq_of_beq_eq_true heq
                      subst heq
                      split at h
                      · cases h
                        refine ⟨rfl, _, hrun.1, d, hd, hrw, ?_⟩
                        simp
                      · split at h
                        · rename_i hz
                          have hz : hn - ln = 0 := Nat.eq_of_beq_eq_true hz
                          cases h
                          refine ⟨rfl, _, hrun.1, ?_⟩
                          rw [hz]
                          have hA : ∀ c', ∃ A, (if c' = ln then some (adr d p) else (some (adr d p)).map (·.add (ln * (k + 1)))) = some A := fun c' => by
                            split
                            · exact ⟨_, rfl⟩
                            · exact ⟨_, rfl⟩
                          obtain ⟨A, hA⟩ := hA (if true = true then ln + d.xi else ln)
                          rw [hA]
                          exact ⟨A, _, rfl⟩
                        · cases h
                    · cases h
            · cases h
          · cases h
        · -- three indexes
          rename_i m
          split at h
          · rename_i m' hm
            split at h
            · cases h
            · rename_i hop
              split at h
              · rename_i hn hhn
                split at h
                · rename_i ln hln
                  rw [force_eq, force_eq] at h
                  obtain ⟨um, hum, hbm⟩ := bndO_some hm
                  obtain ⟨uh, huh, hbh⟩ := bndO_some hhn
                  have run : ∀ (A : Option Addr) (cap' : Nat), ev x = .slice A len cap' → cap ≤ cap' →
                      (Instr.sliceAt t (ev x) (lo.map ev) (some (ev hop)) (some (ev m))).run P w = .ok (.slice (if m' = ln then A else A.map (·.add (ln * (k + 1)))) (hn - ln) (m' - ln)) w ∧ ln ≤ hn ∧ hn ≤ m' := by
                    intro A cap' hA hle
                    obtain ⟨r1, l1⟩ := bnd_run (P := P) (w := w) hbm (hρ _ _ hum) hle .slice3Acap
                    obtain ⟨r2, l2⟩ := bnd_run (P := P) (w := w) hbh (hρ _ _ huh) (Nat.le_refl _) .slice3B
                    have r3 : (match lo.map ev with | some v => Instr.sliceBound v hn .slice3C | none => pure 0 : Sem Nat).run P w = .ok ln w ∧ ln ≤ hn := by
                      cases lo with
                      | none => have := bndO_none hln; subst this; exact ⟨rfl, Nat.zero_le _⟩
                      | some y => obtain ⟨u, hu', hb⟩ := bndO_some hln; exact bnd_run hb (hρ _ _ hu') (Nat.le_refl _) _
                    refine ⟨?_, r3.2, l2⟩
                    unfold Instr.sliceAt
                    simp only [Sem.run_bind, run_underlying hu, Result.andThen_ok, Instr.slice, hA, Instr.sliceBounds, if_true, r1, r2, Option.isSome_some]
                    cases lo with
                    | none => have := bndO_none hln; subst this; simp [run_size w hsz]
                    | some y => have r3 := r3.1; simp only [Option.map_some] at r3 ⊢; simp [r3, run_size w hsz]
                  simp only [Option.map_some]
                  split at h
                  · rename_i h0
                    cases h
                    have h0 : ln = 0 ∨ ln = m' := by
                      simp only [Bool.or_eq_true] at h0
                      exact h0.imp Nat.eq_of_beq_eq_true Nat.eq_of_beq_eq_true
                    refine ⟨rfl, ?_⟩
                    cases a with
                    | none =>
                      obtain ⟨rfl, he⟩ := hv
                      refine ⟨_, (run none cap he (Nat.le_refl _)).1, rfl, ?_⟩
                      simp
                    | some p =>
                      obtain ⟨d, hd, hrw, he⟩ := hv
                      refine ⟨_, (run _ _ he (by split <;> omega)).1, d, hd, hrw, ?_⟩
                      rcases h0 with h0 | h0
                      · subst h0; simp [add_none, adr]
                      · subst h0; simp
                  · rename_i h0
                    split at h
                    · cases h
                    · rename_i p
                      obtain ⟨d, hd, hrw, he⟩ := hv
                      split at h
                      · rename_i q hq
                        cases h
                        obtain ⟨hqb, hqa⟩ := elemAt_adr hq hd hrw
                        have hne : ¬ m' = ln := fun e => by
                          subst e
                          simp at h0
                        refine ⟨rfl, _, (run _ _ he (by split <;> omega)).1, d, by rw [hqb]; exact hd, fun hr => ⟨(hrw hr).1, ?_⟩, ?_⟩
                        · unfold elemAt at hq
                          split at hq
                          · exact absurd rfl hr
                          · split at hq
                            · split at hq
                              · cases hq; rfl
                              · cases hq
                            · cases hq
                        · rw [if_neg hne]
                          simp only [Option.map_some, adr_add, hqa]
                          rfl
                      · cases h
                · cases h
              · cases h
          · cases h
      · -- an empty one
        rename_i hx
        obtain ⟨A, c, he⟩ := hρ _ _ hx
        split at h
        · split at h
          · rename_i hn hhn
            split at h
            · rename_i ln hln
              cases h
              refine ⟨rfl, ?_⟩
              have hh0 : hn = 0 := by
                cases hi with
                | none => exact bndO_none hhn
                | some y => obtain ⟨u, hu', hb⟩ := bndO_some hhn; have := (bnd_run (P := P) (w := w) hb (hρ _ _ hu') (Nat.le_refl _) .index).2; omega
              subst hh0
              obtain ⟨hb, hl⟩ := bounds2_run (P := P) (w := w) (isS := true) (len := 0) (cap' := c) hρ (Nat.zero_le _) hhn hln
              have hl0 : ln = 0 := by omega
              subst hl0
              refine ⟨.slice (some A) 0 c, ?_, A, c, rfl⟩
              unfold Instr.sliceAt
              simp only [Option.map_none, Sem.run_bind, run_underlying hu, Result.andThen_ok, Instr.slice, he, hb, run_size w hsz]
              simp [Addr.add]
            · cases h
          · cases h
        · cases h
      · cases h
    · cases hc
  · -- of an array
    rename_i n e hu
    split at hc
    · rename_i k hsz
      cases hc
      simp only [aval] at h
      split at h
      · rename_i p hx
        obtain ⟨d, hd, he⟩ := hρ _ _ hx
        split at h
        · cases h
        · split at h
          · rename_i hn hhn
            split at h
            · rename_i ln hln
              obtain ⟨hb, hl⟩ := bounds2_run (P := P) (w := w) (isS := false) (len := n) (cap' := n) hρ (Nat.le_refl _) hhn hln
              have run : (Instr.sliceAt t (ev x) (lo.map ev) (hi.map ev) none).run P w = .ok (.slice (some (if n = ln then adr d p else (adr d p).add (ln * (k + 1)))) (hn - ln) (n - ln)) w := by
                unfold Instr.sliceAt
                simp only [Sem.run_bind, run_underlying hu, Result.andThen_ok, Instr.sureAddr, he, Sem.run_pure, hb, run_size w hsz]
              simp only [Option.map_none]
              split at h
              · rename_i heq
                have heq : ln = n := Nat.eq_of_beq_eq_true heq
                subst heq
                cases h
                refine ⟨rfl, _, run, d, hd, fun e => absurd rfl e, ?_⟩
                simp
              · rename_i hne
                split at h
                · rename_i q hq
                  cases h
                  obtain ⟨hqb, hqa⟩ := elemAt_adr hq hd (fun e => absurd rfl e)
                  have hne : ¬ n = ln := fun e => by subst e; simp at hne
                  refine ⟨rfl, _, run, d, by rw [hqb]; exact hd, fun e => absurd rfl e, ?_⟩
                  rw [if_neg hne]
                  simp [adr_add, hqa]
                · cases h
            · cases h
          · cases h
      · cases h
    · cases hc
  · -- of a text
    rename_i hu
    split at hc
    · cases hc
      simp only [aval] at h
      split at h
      · rename_i s hx
        have he := (hρ _ _ hx).str_inv
        split at h
        · rename_i hn hhn
          split at h
          · rename_i ln hln
            cases h
            obtain ⟨hb, hl⟩ := bounds2_run (P := P) (w := w) (isS := false) (len := s.size) (cap' := s.size) hρ (Nat.le_refl _) hhn hln
            refine ⟨rfl, _, ?_, rfl⟩
            unfold Instr.sliceAt
            simp only [Option.map_none, Sem.run_bind, run_underlying hu, Result.andThen_ok, Instr.slice, he, Option.isSome_none, Bool.false_eq_true, if_false, Sem.run_pure, hb]
          · cases h
        · cases h
      · cases h
    · cases hc
  · cases hc
theorem primEq_keyV {p : EqP} {a b : AV} {r : Bool} (h : primEq p a b = some r) : ∃ x y, keyV a = some x ∧ keyV b = some y ∧ (r = true ↔ x = y) := by
  unfold primEq at h
  split at h
  · split at h
    · split at h
      · cases h; exact ⟨_, _, rfl, rfl, by simp⟩
      · cases h
    · cases h
  · split at h
    · split at h
      · split at h
        · rename_i hk
          cases h
          rw [keq_eq] at hk
          have hk := of_decide_eq_true hk
          subst hk
          exact ⟨_, _, rfl, rfl, by rw [ieq_eq]; simp⟩
        · cases h
      · cases h
    · cases h
  · split at h
    · split at h
      · rename_i a _ b
        cases h
        refine ⟨_, _, rfl, rfl, ?_⟩
        rw [beq_iff_eq, ByteArray.toList_eq, ByteArray.toList_eq, Value.string.injEq]
        exact ⟨fun h => by cases a; cases b; congr 1; exact Array.ext' h, fun h => by rw [h]⟩
      · cases h
    · cases h
  · cases h
theorem keyV_VR {a : AV} {x y : Value} (h : keyV a = some x) (hv : VR g a y) : y = x := by
  cases a <;> simp [keyV] at h <;> subst h <;> exact hv
theorem lookIn_spec {p : EqP} {k : AV} : ∀ (es : List (AV × AV)) (r0 r : Option AV), lfold (fun (r : Option AV) (e : AV × AV) => match primEq p k e.1 with | some true => some (some e.2) | some false => some r | none => none) es r0 = some r →
    (∀ e ∈ es, ∃ b, primEq p k e.1 = some b) ∧ ((∀ e ∈ es, primEq p k e.1 = some false) ∧ r = r0 ∨ ∃ (i : Nat) (k' v : AV), es[i]? = some (k', v) ∧ primEq p k k' = some true ∧ r = some v) := by
  intro es
  induction es with
  | nil => intro r0 r h; cases h; grind
  | cons e es ih =>
    intro r0 r h
    obtain ⟨b', hb, hr⟩ := (lfold_cons _ _ _ _ _).1 h
    split at hb
    · rename_i he
      cases hb
      obtain ⟨h1, h2⟩ := ih _ _ hr
      refine ⟨fun x hx => by grind, .inr ?_⟩
      rcases h2 with ⟨_, rfl⟩ | ⟨i, k', v, hi, hk, rfl⟩
      · exact ⟨0, e.1, e.2, rfl, he, rfl⟩
      · exact ⟨i + 1, k', v, by simpa using hi, hk, rfl⟩
    · rename_i he
      obtain ⟨h1, h2⟩ := ih _ _ hr
      refine ⟨fun x hx => by grind, ?_⟩
      rcases h2 with ⟨hf, rfl⟩ | ⟨i, k', v, hi, hk, rfl⟩
      · grind
      · exact .inr ⟨i + 1, k', v, by simpa using hi, hk, rfl⟩
    · cases hb
theorem findNow_none {d : TypeDesc} {kx : Value} : ∀ (cs : List MapEntry) (i : Nat), (∀ c ∈ cs, Instr.sameNow d kx c.key = some false) → Instr.findNow d kx cs i = some none := by
  intro cs
  induction cs with
  | nil => intro i _; rfl
  | cons c cs ih => intro i h; simp [Instr.findNow, h c (by simp), ih (i + 1) (fun c hc => h c (by simp [hc]))]
theorem findNow_some {d : TypeDesc} {kx : Value} : ∀ (cs : List MapEntry) (i : Nat), (∀ c ∈ cs, ∃ b, Instr.sameNow d kx c.key = some b) → (∃ c ∈ cs, Instr.sameNow d kx c.key = some true) →
    ∃ (j : Nat) (c : MapEntry), cs[j]? = some c ∧ Instr.sameNow d kx c.key = some true ∧ Instr.findNow d kx cs i = some (some (i + j, c.val)) := by
  intro cs
  induction cs with
  | nil => grind
  | cons c cs ih =>
    intro i h he
    obtain ⟨b, hb⟩ := h c (by simp)
    cases b with
    | true => exact ⟨0, c, rfl, hb, by simp [Instr.findNow, hb]⟩
    | false =>
      obtain ⟨x, hx, hxt⟩ := he
      rcases List.mem_cons.1 hx with rfl | hx
      · grind
      · obtain ⟨j, c', h1, h2, h3⟩ := ih (i + 1) (fun c hc => h c (by simp [hc])) ⟨x, hx, hxt⟩
        exact ⟨j + 1, c', by simpa using h1, h2, by simp only [Instr.findNow, hb, h3]; congr 3; omega⟩
theorem sameNow_of_primEq {kt : TypeId} {p : EqP} (hp : keyOk P kt = some p) {k k' : AV} {b : Bool} {x y : Value} (h : primEq p k k' = some b) (hx : keyV k = some x) (hy : keyV k' = some y) :
    ∃ d, P.underlying kt = some d ∧ Instr.sameNow d x y = some b := by
  unfold keyOk at hp
  split at hp <;> cases hp <;> rename_i ht <;> refine ⟨_, ht, ?_⟩ <;> unfold primEq at h <;> simp only at h
  · split at h
    · split at h
      · split at h
        · rename_i hk
          cases h; cases hx; cases hy
          rw [keq_eq] at hk
          have hk := of_decide_eq_true hk
          subst hk
          simp [Instr.sameNow, ieq_eq]
        · cases h
      · cases h
    · cases h
  · split at h
    · split at h
      · cases h; cases hx; cases hy
        simp [Instr.sameNow, beq_toListBytes]
      · cases h
    · cases h
  · split at h
    · split at h
      · cases h; cases hx; cases hy
        simp [Instr.sameNow]
      · cases h
    · cases h
theorem checkKey_run {kt : TypeId} {p : EqP} (hp : keyOk P kt = some p) (b : Bool) (n : Nat) (x : Value) : (Instr.checkKey b (n + 1) kt x).run P w = .ok () w := by
  unfold keyOk at hp
  split at hp <;> cases hp <;> rename_i ht <;> simp [Instr.checkKey, run_underlying ht]
theorem findKey_run {kt : TypeId} {p : EqP} (hp : keyOk P kt = some p) {k : AV} {kx : Value} (hk : VR g k kx) {es : List (AV × AV)} {cs : List MapEntry} (hm : MR g es cs) {r : Option AV} (h : lookIn p k es = some r) :
    match r with
    | none => (Instr.findKey kt kx cs).run P w = .ok none w ∧ (∀ (i : Nat) (k' v : AV), es[i]? = some (k', v) → primEq p k k' = some false)
    | some v => ∃ (j : Nat) (c : MapEntry) (i : Nat) (k' : AV), cs[j]? = some c ∧ c.key = kx ∧ VR g v c.val ∧ (Instr.findKey kt kx cs).run P w = .ok (some (j, c.val)) w ∧ es[i]? = some (k', v) ∧ primEq p k k' = some true ∧ keyV k' = some kx := by
  obtain ⟨hall, hr⟩ := lookIn_spec es none r h
  have hud : ∃ d, P.underlying kt = some d := by unfold keyOk at hp; grind
  obtain ⟨d, hd⟩ := hud
  have hsame : ∀ c ∈ cs, ∃ (b : Bool) (i : Nat) (k' v : AV), es[i]? = some (k', v) ∧ keyV k' = some c.key ∧ primEq p k k' = some b ∧ Instr.sameNow d kx c.key = some b ∧ (b = true ↔ c.key = kx) := by
    intro c hc
    obtain ⟨j, hj⟩ := List.getElem?_of_mem hc
    obtain ⟨i, k', v, h1, h2, h3⟩ := hm.back j c hj
    obtain ⟨b, hb⟩ := hall _ (List.mem_of_getElem? h1)
    obtain ⟨x, y, hx, hy, hxy⟩ := primEq_keyV hb
    have hxk := keyV_VR hx hk
    obtain ⟨d', hd', hs⟩ := sameNow_of_primEq hp hb hx h2
    grind
  have hfk : ∀ q, Instr.findNow d kx cs 0 = some q → (Instr.findKey kt kx cs).run P w = .ok q w := by
    intro q hq
    simp [Instr.findKey, run_underlying hd, hq]
  rcases hr with ⟨hf, rfl⟩ | ⟨i, k', v, hi, hkk, rfl⟩
  · refine ⟨hfk _ (findNow_none cs 0 fun c hc => ?_), fun i k' v hi => hf _ (List.mem_of_getElem? hi)⟩
    grind
  · obtain ⟨x, y, hx, hy, hxy⟩ := primEq_keyV hkk
    have hxk := keyV_VR hx hk
    subst hxk
    have hy' : y = kx := (hxy.1 rfl).symm
    subst hy'
    obtain ⟨j0, c0, hj0, hk0, hv0⟩ := hm.get i k' v hi
    obtain ⟨j, c, h1, h2, h3⟩ := findNow_some (d := d) cs 0 (fun c hc => let ⟨b, _, _, _, _, _, _, hs, _⟩ := hsame c hc; ⟨b, hs⟩)
      ⟨c0, List.mem_of_getElem? hj0, by
        obtain ⟨b, _, _, _, _, _, _, hs, hb⟩ := hsame c0 (List.mem_of_getElem? hj0)
        grind⟩
    obtain ⟨b, i2, k2, v2, he2, hk2, _, hs, hb⟩ := hsame c (List.mem_of_getElem? h1)
    rw [h2] at hs; cases hs
    have hck := hb.1 rfl
    have hii : i = i2 := by
      by_cases hne : i = i2
      · exact hne
      · exact absurd (hy.trans (by rw [hk2, hck])) (hm.keys i i2 k' k2 v v2 hi he2 hne)
    obtain ⟨i4, k4, v4, he4, hk4, hv4⟩ := hm.back j c h1
    have hii : i = i4 := by
      by_cases hne : i = i4
      · exact hne
      · exact absurd (hy.trans (by rw [hk4, hck])) (hm.keys i i4 k' k4 v v4 hi he4 hne)
    grind
end
end Go.Ev
namespace Go.Ev
section
variable {P : Program} {X : Pt} {w0 : World} {g : G} {H H' : Heap} {w : World} {ρ : Operand → Option AV} {ev : Operand → Value} {v : AV}
theorem zero_run {t : TypeId} {z : AV} (h : zero? P t = some z) : ∃ zv, (zeroValue t).run P w = .ok zv w ∧ VR g z zv ∧ ∃ i, P.info? t = some i ∧ i.zero = some zv := by
  unfold zero? at h
  split at h
  · rename_i i hi
    split at h
    · rename_i zv hz
      exact ⟨zv, by simp [zeroValue, run_tinfo w hi, hz], ofVal_VR g h, i, hi, hz⟩
    · cases h
  · cases h
theorem lookup_gives {t : TypeId} {m k : Operand} {ok : Bool} {op : AOp} (hρ : RhoOk g ρ ev) (hH : HR X w0 g H w) (hc : cOp P (.lookup t m k ok) = some op) (h : aval P H ρ op = some (v, H')) :
    H' = H ∧ Gives P g w (Instr.lookup t (ev m) (ev k) ok) v := by
  unfold cOp at hc
  simp only at hc
  split at hc
  · rename_i kt e hu
    split at hc
    · rename_i kk z hk hz
      cases hc
      simp only [aval] at h
      split at h
      · rename_i r hm
        split at h
        · rename_i kv hkv
          obtain ⟨zv, hzr, hzv, _⟩ := zero_run (P := P) (g := g) (w := w) hz
          have main : ∀ (es : List (AV × AV)) (cs : Array MapEntry), MR g es cs.toList →
              (∀ q zz, (Instr.findKey kt (ev k) cs.toList).run P w = .ok q w → (zeroValue e).run P w = .ok zz w →
                (Instr.lookup t (ev m) (ev k) ok).run P w = .ok (match q with
                  | some (_, x) => if ok then .tuple #[x, .bool true] else x
                  | none => if ok then .tuple #[zz, .bool false] else zz) w) →
              (match lookIn kk kv es with
                | some (some v) => some (withOk ok v true, H)
                | some none => some (withOk ok z false, H)
                | none => none) = some (v, H') → H' = H ∧ Gives P g w (Instr.lookup t (ev m) (ev k) ok) v := by
            intro es cs hmr hrun h
            split at h
            · rename_i v' hl
              cases h
              obtain ⟨j, c, i, k', _, _, hvc, hf, _⟩ := findKey_run (P := P) (w := w) hk (hρ _ _ hkv) hmr hl
              refine ⟨rfl, _, hrun _ _ hf hzr, ?_⟩
              cases ok with
              | true => exact ⟨[c.val, .bool true], VRs.cons hvc (VRs.cons (show VR g (.bool true) _ from rfl) rfl), rfl⟩
              | false => exact hvc
            · rename_i hl
              cases h
              obtain ⟨hf, _⟩ := findKey_run (P := P) (w := w) hk (hρ _ _ hkv) hmr hl
              refine ⟨rfl, _, hrun _ _ hf hzr, ?_⟩
              cases ok with
              | true => exact ⟨[zv, .bool false], VRs.cons hzv (VRs.cons (show VR g (.bool false) _ from rfl) rfl), rfl⟩
              | false => exact hzv
            · cases h
          cases r with
          | none =>
            have he : ev m = .map none := hρ _ _ hm
            simp only at h
            refine main [] #[] ⟨rfl, by simp, by simp, by simp, by simp⟩ (fun q zz hq hzz => ?_) h
            have hck := checkKey_run (P := P) (w := w) hk (#[] : Array MapEntry).isEmpty 9999 (ev k)
            cases q with
            | none => simp only [Instr.lookup, Sem.run_bind, run_underlying hu, Result.andThen_ok, he, Sem.run_pure, hck, hq, hzz]
            | some q => simp only [Instr.lookup, Sem.run_bind, run_underlying hu, Result.andThen_ok, he, Sem.run_pure, hck, hq]
          | some b =>
            obtain ⟨d, hd, he⟩ := hρ _ _ hm
            simp only at h
            split at h
            · rename_i es hes
              split at hes
              · rename_i es' hb
                cases hes
                obtain ⟨d', hd', cs, clock, hob, hmr⟩ := hH.obj _ _ hb
                rw [hd] at hd'; cases hd'
                have hg : (getObj d.b).run P w = .ok (.map cs clock) w := by simp only [getObj, Sem.run, hob]
                have hck := checkKey_run (P := P) (w := w) hk cs.isEmpty 9999 (ev k)
                refine main es cs hmr (fun q zz hq hzz => ?_) h
                cases q with
                | none => simp only [Instr.lookup, Sem.run_bind, run_underlying hu, Result.andThen_ok, he, Sem.run_pure, hg, hck, hq, hzz]
                | some q => simp only [Instr.lookup, Sem.run_bind, run_underlying hu, Result.andThen_ok, he, Sem.run_pure, hg, hck, hq]
              · cases hes
            · cases h
        · cases h
      · cases h
    · cases hc
  · cases hc
end
end Go.Ev
namespace Go.Ev
section
variable {P : Program} {X : Pt} {w0 : World} {g : G} {H H' : Heap} {w : World} {ρ : Operand → Option AV} {ev : Operand → Value} {v : AV}
theorem nilchk_gives {o : Oper} {x : Operand} (ho : o.op = .nilCheck x) (hρ : RhoOk g ρ ev) (h : aval P H ρ (.nilchk x) = some (v, H')) :
    H' = H ∧ ∃ y, (execOp ev o).run P w = .ok (.value y) w ∧ VR g v y := by
  simp only [aval] at h
  unfold execOp
  simp only [ho]
  split at h
  · cases h
  · cases h
  · cases h
  · rename_i name r hx
    split at h
    · rename_i t v' 
      split at h
      · rename_i f hf
        cases h
        obtain ⟨y, hy, he⟩ := hρ _ _ hx
        obtain ⟨z, hz, rfl⟩ := hy
        refine ⟨rfl, ev x, ?_, hρ _ _ hx⟩
        unfold meth at hf
        split at hf
        · rename_i i hi
          split at hf
          · rename_i mt hmt
            split at hf
            · rename_i f' pe hp hfu hpt
              have hne : (nilAhead (P.types.size + Made.depth) t z name).run P w = .ok (some false) w := by
                obtain ⟨k, hk⟩ : ∃ k, P.types.size + Made.depth = k + 1 := ⟨P.types.size + (Made.depth - 1), by unfold Made.depth; omega⟩
                rw [hk]
                simp only [nilAhead, Sem.run_bind, run_tinfo w hi, Result.andThen_ok, hmt, hp, followBlind, Sem.run_pure, hfu]
              simp_all
            · cases hf
          · cases hf
        · cases hf
      · cases h
    · cases h
  · rename_i v' h1 h2 h3 h4 hx
    cases h
    refine ⟨rfl, ev x, ?_, hρ _ _ hx⟩
    have hv := hρ _ _ hx
    generalize ev x = y at *
    cases v with
    | ptr a =>
      cases a with
      | none => grind
      | some p => obtain ⟨d, _, rfl⟩ := hv; rfl
    | nilIface => grind
    | nilFunc => grind
    | mfunc n r => grind
    | bool b => have := hv.bool_inv; subst this; rfl
    | int k n => have := hv.int_inv; subst this; rfl
    | str s => have := hv.str_inv; subst this; rfl
    | slice a l c s r => cases a with
      | none => obtain ⟨_, rfl⟩ := hv; rfl
      | some p => obtain ⟨d, _, _, rfl⟩ := hv; rfl
    | empty => obtain ⟨a, c, rfl⟩ := hv; rfl
    | map a => cases a with
      | none => have hv : y = .map none := hv
                subst hv; rfl
      | some p => obtain ⟨d, _, rfl⟩ := hv; rfl
    | func f a b => obtain ⟨_, _, _, _, rfl⟩ := hv; rfl
    | yield l => obtain ⟨d, _, rfl⟩ := hv; rfl
    | iface t v' => obtain ⟨_, _, rfl⟩ := hv; rfl
    | agg cs => obtain ⟨_, _, _, rfl⟩ := hv; rfl
    | tuple cs => obtain ⟨_, _, rfl⟩ := hv; rfl
  · cases h
theorem exec_builtin {o : Oper} {c : Call} {b : Builtin} (ho : o.op = .call c) (hb : c.callee = .builtin b) :
    ∃ cs, (execOp ev o).run P w = (builtin b c.argTypes o.type cs (c.args.map ev)).run P w := by
  refine ⟨c.args.map fun | .const _ => true | _ => false, ?_⟩
  unfold execOp
  simp only [ho, resolve, hb, Sem.run_bind, Sem.run_pure, Result.andThen_ok, invoke]
  rfl
theorem arr1 {α : Type} {a : Array α} {x : α} (h : a.toList = [x]) : a = #[x] := by grind
theorem arr2 {α : Type} {a : Array α} {x y : α} (h : a.toList = [x, y]) : a = #[x, y] := by grind
theorem len_gives {t : TypeId} {x : Operand} {op : AOp} (ty : TypeId) (hρ : RhoOk g ρ ev) (hH : HR X w0 g H w) (hc : cBuiltin P .len [t] [x] = some op) (h : aval P H ρ op = some (v, H')) :
    H' = H ∧ Gives P g w (Builtin.len_ #[t] ty #[ev x]) v := by
  simp only [cBuiltin] at hc
  split at hc
  · rename_i hu
    cases hc
    simp only [aval] at h
    split at h
    · rename_i s hx
      cases h
      have he := (hρ _ _ hx).str_inv
      exact ⟨rfl, _, by simp [Builtin.len_, run_underlying hu, he, goInt], rfl⟩
    · cases h
  · rename_i e hu
    cases hc
    simp only [aval] at h
    split at h
    · rename_i a n c s r hx
      cases h
      cases a with
      | none => obtain ⟨_, he⟩ := hρ _ _ hx; exact ⟨rfl, _, by simp [Builtin.len_, run_underlying hu, he, goInt], rfl⟩
      | some p => obtain ⟨d, _, _, he⟩ := hρ _ _ hx; exact ⟨rfl, _, by simp [Builtin.len_, run_underlying hu, he, goInt], rfl⟩
    · rename_i hx
      cases h
      obtain ⟨a, c, he⟩ := hρ _ _ hx
      exact ⟨rfl, _, by simp [Builtin.len_, run_underlying hu, he, goInt], rfl⟩
    · cases h
  · rename_i k e hu
    cases hc
    simp only [aval] at h
    split at h
    · rename_i hx
      cases h
      have he : ev x = .map none := hρ _ _ hx
      exact ⟨rfl, _, by simp [Builtin.len_, run_underlying hu, he, goInt], rfl⟩
    · rename_i b hx
      obtain ⟨d, hd, he⟩ := hρ _ _ hx
      split at h
      · rename_i es hb
        cases h
        obtain ⟨d', hd', cs, clock, hob, hmr⟩ := hH.obj _ _ hb
        rw [hd] at hd'; cases hd'
        have hg : (getObj d.b).run P w = .ok (.map cs clock) w := by simp only [getObj, Sem.run, hob]
        refine ⟨rfl, goInt cs.size, by simp [Builtin.len_, run_underlying hu, he, hg], ?_⟩
        have := hmr.len
        simp only [Array.length_toList] at this
        rw [llen_eq, ← this]
        rfl
      · cases h
    · cases h
  · rename_i n e hu
    cases hc
    simp only [aval] at h
    cases h
    refine ⟨rfl, goInt n, ?_, rfl⟩
    simp only [Builtin.len_]
    generalize ev x = y
    cases y <;> simp [run_underlying hu]
  · rename_i a hu
    split at hc
    · rename_i n e hu2
      cases hc
      simp only [aval] at h
      cases h
      refine ⟨rfl, goInt n, ?_, rfl⟩
      simp only [Builtin.len_]
      generalize ev x = y
      cases y <;> simp [run_underlying hu, run_underlying hu2]
    · cases hc
  · cases hc
theorem cap_gives {t : TypeId} {x : Operand} {op : AOp} (ty : TypeId) (hρ : RhoOk g ρ ev) (hc : cBuiltin P .cap [t] [x] = some op) (h : aval P H ρ op = some (v, H')) :
    H' = H ∧ Gives P g w (Builtin.cap_ #[t] ty #[ev x]) v := by
  simp only [cBuiltin] at hc
  split at hc
  · rename_i e hu
    cases hc
    simp only [aval] at h
    split at h
    · rename_i a n c r hx
      cases h
      cases a with
      | none => obtain ⟨_, he⟩ := hρ _ _ hx; exact ⟨rfl, _, by simp [Builtin.cap_, run_underlying hu, he, goInt], rfl⟩
      | some p => obtain ⟨d, _, _, he⟩ := hρ _ _ hx; exact ⟨rfl, _, by simp [Builtin.cap_, run_underlying hu, he, goInt], rfl⟩
    · cases h
  · cases hc
theorem mm_run {mx : Bool} {u u' r : AV} {x y : Value} (hx : VR g u x) (hy : VR g u' y) (h : mm mx u u' = some r) : Gives P g w (match mx with | true => Builtin.max2 x y | false => Builtin.min2 x y) r := by
  unfold mm at h
  split at h
  · rename_i k a k' b
    rw [hx.int_inv, hy.int_inv]
    cases mx with
    | true =>
      cases h
      refine ⟨_, rfl, ?_⟩
      simp only [VR, ilt_eq]
      grind
    | false =>
      cases h
      refine ⟨_, rfl, ?_⟩
      simp only [VR, ilt_eq]
      grind
  · cases h
theorem mms_run {mx : Bool} : ∀ (vs : List AV) (xs : List Value) (u r : AV) (x : Value), VRs g vs xs → VR g u x → lfold (mm mx) vs u = some r → Gives P g w (xs.foldlM (match mx with | true => Builtin.max2 | false => Builtin.min2) x) r := by
  intro vs
  induction vs with
  | nil => intro xs u r x hxs hx h; cases hxs; cases h; exact ⟨x, rfl, hx⟩
  | cons a vs ih =>
    intro xs u r x ⟨y, ys, hy, hys, e⟩ hx h
    subst e
    obtain ⟨b', hb, hr⟩ := (lfold_cons _ _ _ _ _).1 h
    obtain ⟨z, hz, hvz⟩ := mm_run (P := P) (w := w) hx hy hb
    obtain ⟨q, hq, hvq⟩ := ih ys b' r z hys hvz hr
    refine ⟨q, ?_, hvq⟩
    rw [List.foldlM_cons, Sem.run_bind]
    cases mx <;> simp only at hz hq ⊢ <;> rw [hz, Result.andThen_ok, hq]
theorem minmax_gives {mx : Bool} {args : List Operand} (ty : TypeId) (ts : Array TypeId) (hρ : RhoOk g ρ ev) (h : aval P H ρ (.minmax mx args) = some (v, H')) :
    H' = H ∧ Gives P g w (match mx with | true => Builtin.max_ ts ty (args.map ev).toArray | false => Builtin.min_ ts ty (args.map ev).toArray) v := by
  simp only [aval] at h
  split at h
  · rename_i u vs ha
    split at h
    · rename_i r hr
      cases h
      have hl := hρ.list ha
      obtain ⟨y, ys, hy, hys, e⟩ := hl
      refine ⟨rfl, ?_⟩
      have := mms_run (P := P) (w := w) vs ys u v y hys hy hr
      cases mx <;> simpa [Builtin.max_, Builtin.min_, e] using this
    · cases h
  · cases h
end
end Go.Ev
namespace Go.Ev
section
variable {P : Program} {X : Pt} {w0 : World} {g : G} {H H' : Heap} {w : World} {ρ : Operand → Option AV} {ev : Operand → Value} {v : AV}
theorem fold_set (off : Nat) : ∀ (xs : List Value) (k : Nat) (cells : Array Value), off + k + xs.length ≤ cells.size →
    (xs.zipIdx k).foldl (fun (cs : Array Value) (p : Value × Nat) => cs.setIfInBounds (off + p.2) p.1) cells = (cells.toList.take (off + k) ++ xs ++ cells.toList.drop (off + k + xs.length)).toArray := by
  intro xs
  induction xs with
  | nil => intro k cells _; simp
  | cons x xs ih =>
    intro k cells h
    simp only [List.zipIdx_cons, List.foldl_cons]
    rw [ih (k + 1) (cells.setIfInBounds (off + k) x) (by grind)]
    have e := list_seg_step cells.toList (off + k) x xs (by grind)
    congr 1
    have e1 : off + (k + 1) = off + k + 1 := by omega
    simpa [List.length_cons, Nat.add_assoc] using e
theorem fill_run {place : Nat → Option (Nat × Nat)} : ∀ (l : List (Nat × List AV)) (parts : List (Nat × Value)) (zc out : List AV) (zx : List Value), parts.length = l.length →
    (∀ (i : Nat) (off : Nat) (cs : List AV), l[i]? = some (off, cs) → ∃ (idx : Nat) (x : Value) (xs : List Value) (n : Nat), parts[i]? = some (idx, x) ∧ place idx = some (off, n) ∧ x.cells = xs.toArray ∧ xs.length = n ∧ VRs g cs xs ∧ ∀ y ∈ xs, y.oneCell' = true) →
    VRs g zc zx → (∀ y ∈ zx, y.oneCell' = true) → fillC zc l = some out → ∃ ox, Instr.fill place zx.toArray parts = some ox.toArray ∧ VRs g out ox ∧ ∀ y ∈ ox, y.oneCell' = true := by
  intro l
  induction l with
  | nil =>
    intro parts zc out zx hl _ hz h1 h
    have : parts = [] := List.eq_nil_of_length_eq_zero (by simpa using hl)
    subst this
    cases h
    exact ⟨zx, rfl, hz, h1⟩
  | cons a l ih =>
    intro parts zc out zx hl hp hz h1 h
    cases parts with
    | nil => simp at hl
    | cons q parts =>
      unfold fillC at h
      obtain ⟨b', hb, hr⟩ := (lfold_cons _ _ _ _ _).1 h
      obtain ⟨off, cs⟩ := a
      obtain ⟨idx, x, xs, n, hq, hpl, hxc, hxl, hxv, hx1⟩ := hp 0 off cs rfl
      simp at hq
      subst hq
      simp only at hb
      obtain ⟨rfl, hfit⟩ := lput_eq hb
      have hlen := hz.length
      have hcl := hxv.length
      have hz2 : VRs g (zc.take off ++ cs ++ zc.drop (off + cs.length)) (zx.take off ++ xs ++ zx.drop (off + xs.length)) := by
        rw [← hcl]
        exact VRs.append (VRs.append (VRs.take off hz) hxv) (VRs.drop _ hz)
      obtain ⟨ox, ho, hov, ho1⟩ := ih parts _ out _ (by simpa using hl) (fun i off cs hi => by simpa using hp (i + 1) off cs (by simpa using hi)) hz2
        (fun y hy => by
          rcases List.mem_append.1 hy with hy | hy
          · rcases List.mem_append.1 hy with hy | hy
            · exact h1 y (List.mem_of_mem_take hy)
            · exact hx1 y hy
          · exact h1 y (List.mem_of_mem_drop hy)) hr
      refine ⟨ox, ?_, hov, ho1⟩
      simp only [Instr.fill, hpl, hxc, List.size_toArray, hxl]
      rw [if_neg (by simp; omega)]
      rw [← ho]
      congr 1
      have := fold_set off xs 0 zx.toArray (by simp; omega)
      simp only [Nat.add_zero] at this
      rw [← this]
      rw [← Array.foldl_toList, Array.toList_zipIdx]
theorem places_of (fs : List Field) (h : lall (fun f : Field => (size? P f.type).isSome) fs = true) : ∃ places : List (Nat × Nat), fs.mapM (fun f => (P.info? f.type).map fun i => (f.offset, i.size)) = some places ∧
    ∀ (i : Nat) (f : Field) (n : Nat), fs[i]? = some f → size? P f.type = some n → places[i]? = some (f.offset, n) := by
  induction fs with
  | nil => exact ⟨[], rfl, by simp⟩
  | cons f fs ih =>
    obtain ⟨h1, h2⟩ := (lall_cons _ _ _).1 h
    obtain ⟨ps, hp, hi⟩ := ih h2
    cases hf : size? P f.type with
    | none => grind
    | some n =>
      obtain ⟨i, hinf, rfl⟩ := size?_iff.1 hf
      refine ⟨(f.offset, i.size) :: ps, by grind, fun j f' n' hj hs => ?_⟩
      grind
theorem parts_of {A : Type} (off : A → Option (Nat × Nat × Operand)) (idx : A → Nat) (opd : A → Operand) (hoff : ∀ a q, off a = some q → q.2.2 = opd a) (hρ : RhoOk g ρ ev) :
    ∀ (ps : List A) (l : List (Nat × Nat × Operand)) (l2 : List (Nat × List AV)), lmapO off ps = some l →
      lmapO (fun p : Nat × Nat × Operand => match ρ p.2.2 with
        | some v => match partCells p.2.1 v with | some cs => some (p.1, cs) | none => none
        | none => none) l = some l2 →
      l2.length = ps.length ∧ ∀ (i : Nat) (o : Nat) (cs : List AV), l2[i]? = some (o, cs) → ∃ (a : A) (q : Nat × Nat × Operand) (xs : List Value), ps[i]? = some a ∧ off a = some q ∧ q.1 = o ∧ (ev (opd a)).cells = xs.toArray ∧ xs.length = q.2.1 ∧ VRs g cs xs ∧ ∀ y ∈ xs, y.oneCell' = true := by
  intro ps
  induction ps with
  | nil => intro l l2 h h2; cases h; cases h2; grind
  | cons a ps ih =>
    intro l l2 h h2
    obtain ⟨q, qs, hq, hqs, rfl⟩ := (lmapO_cons _ _ _ _).1 h
    obtain ⟨b, bs, hb, hbs, rfl⟩ := (lmapO_cons _ _ _ _).1 h2
    obtain ⟨h1, h2⟩ := ih qs bs hqs hbs
    refine ⟨by simp [h1], fun i o cs hi => ?_⟩
    cases i with
    | zero =>
      simp at hi
      subst hi
      split at hb
      · rename_i v hv
        split at hb
        · rename_i cs' hc
          cases hb
          obtain ⟨xs, hx1, hx2, hx3, hx4, _⟩ := partCells_VR hc (hρ _ _ hv)
          exact ⟨a, q, xs, rfl, hq, rfl, by rw [← hoff a q hq]; exact hx3, hx4, hx1, hx2⟩
        · cases hb
      · cases hb
    | succ i => simpa using h2 i o cs (by simpa using hi)
theorem build_gives {t : TypeId} {parts : Array (Nat × Operand)} {op : AOp} (hρ : RhoOk g ρ ev) (hc : cOp P (.build t parts) = some op) (h : aval P H ρ op = some (v, H')) :
    H' = H ∧ Gives P g w (Instr.build t (parts.map fun (i, x) => (i, ev x))) v := by
  have hc : cBuild P t parts.toList = some op := hc
  unfold cBuild at hc
  split at hc
  · rename_i fs z hu hz
    obtain ⟨zv, _, hzv, it, hit, hitz⟩ := zero_run (P := P) (g := g) (w := w) hz
    obtain ⟨zx, hz1, hz2, rfl⟩ := hzv
    split at hc
    · rename_i l hl
      split at hc
      · rename_i hall
        cases hc
        simp only [aval] at h
        split at h
        · rename_i l2 hl2
          split at h
          · rename_i cs hcs
            cases h
            obtain ⟨places, hpl, hpi⟩ := places_of (P := P) fs.toList hall
            obtain ⟨hlen, hpt⟩ := parts_of (g := g) (ρ := ρ) (ev := ev) _ (fun p : Nat × Operand => p.1) (fun p : Nat × Operand => p.2) (fun a q hq => by
              grind) hρ parts.toList l l2 hl hl2
            obtain ⟨ox, ho, hov, ho1⟩ := fill_run (g := g) (place := (places.toArray[·]?)) l2 (parts.toList.map fun p => (p.1, ev p.2)) z cs zx (by simp [hlen])
              (fun i off cs hi => by
                obtain ⟨a, q, xs, ha, hq, hqo, hx1, hx2, hx3, hx4⟩ := hpt i off cs hi
                split at hq
                · rename_i f hf
                  split at hq
                  · rename_i n hn
                    cases hq
                    refine ⟨a.1, ev a.2, xs, n, by simp [ha], ?_, hx1, hx2, hx3, hx4⟩
                    grind
                  · cases hq
                · cases hq) hz1 hz2 hcs
            refine ⟨rfl, .agg ox.toArray, ?_, ox, hov, ho1, rfl⟩
            refine run_build w t _ _ ?_
            simp only [Program.built, hit, hu, hitz, hpl]
            have e : (parts.map fun (i, x) => (i, ev x)).toList = parts.toList.map fun p => (p.1, ev p.2) := by simp
            rw [e]
            exact ho
          · cases h
        · cases h
      · cases hc
    · cases hc
  · rename_i len e z hu hz
    obtain ⟨zv, _, hzv, it, hit, hitz⟩ := zero_run (P := P) (g := g) (w := w) hz
    obtain ⟨zx, hz1, hz2, rfl⟩ := hzv
    split at hc
    · rename_i n hn
      cases hc
      obtain ⟨ie, hie, rfl⟩ := size?_iff.1 hn
      simp only [aval] at h
      split at h
      · rename_i l2 hl2
        split at h
        · rename_i cs hcs
          cases h
          have hl : lmapO (fun p : Nat × Operand => some (p.1 * ie.size, ie.size, p.2)) parts.toList = some (parts.toList.map fun p => (p.1 * ie.size, ie.size, p.2)) := by
            generalize parts.toList = L
            induction L with
            | nil => rfl
            | cons a L ih => exact (lmapO_cons _ _ _ _).2 ⟨_, _, rfl, ih, rfl⟩
          obtain ⟨hlen, hpt⟩ := parts_of (g := g) (ρ := ρ) (ev := ev) _ (fun p : Nat × Operand => p.1) (fun p : Nat × Operand => p.2) (fun a q hq => by cases hq; rfl) hρ parts.toList _ l2 hl hl2
          obtain ⟨ox, ho, hov, ho1⟩ := fill_run (g := g) (place := fun i => some (i * ie.size, ie.size)) l2 (parts.toList.map fun p => (p.1, ev p.2)) z cs zx (by simp [hlen])
            (fun i off cs hi => by
              obtain ⟨a, q, xs, ha, hq, hqo, hx1, hx2, hx3, hx4⟩ := hpt i off cs hi
              cases hq
              exact ⟨a.1, ev a.2, xs, ie.size, by simp [ha], by rw [← hqo], hx1, hx2, hx3, hx4⟩) hz1 hz2 hcs
          refine ⟨rfl, .agg ox.toArray, ?_, ox, hov, ho1, rfl⟩
          refine run_build w t _ _ ?_
          simp only [Program.built, hit, hu, hitz, hie]
          have e : (parts.map fun (i, x) => (i, ev x)).toList = parts.toList.map fun p => (p.1, ev p.2) := by simp
          rw [e]
          exact ho
        · cases h
      · cases h
    · cases hc
  · cases hc
theorem convert_gives {s d : TypeId} {x : Operand} {op : AOp} (hρ : RhoOk g ρ ev) (hH : HR X w0 g H w) (hc : cOp P (.convert s d x) = some op) (h : aval P H ρ op = some (v, H')) :
    H' = H ∧ Gives P g w (Go.convert s d (ev x)) v := by
  unfold cOp at hc
  simp only at hc
  split at hc
  · rename_i k1 k hs hd
    cases hc
    simp only [aval] at h
    split at h
    · rename_i k0 n hx
      rw [mkI_eq] at h
      cases h
      have he := (hρ _ _ hx).int_inv
      refine ⟨rfl, _, ?_, rfl⟩
      simp only [Go.convert, Sem.run_bind, run_underlying hs, run_underlying hd, Result.andThen_ok, he, Conv.intToInt]
      rfl
    · cases h
  · rename_i hs hd
    cases hc
    simp only [aval] at h
    split at h
    · rename_i t hx
      cases h
      have he := (hρ _ _ hx).str_inv
      refine ⟨rfl, _, ?_, rfl⟩
      simp only [Go.convert, Sem.run_bind, run_underlying hs, run_underlying hd, Result.andThen_ok, he]
      rfl
    · cases h
  · rename_i e hs hd
    split at hc
    · rename_i he8 hsz
      cases hc
      simp only [aval] at h
      have run : (Go.convert s d (ev x)).run P w = (Conv.bytesToString (ev x)).run P w ∨ (∀ a n c, ev x ≠ .slice a n c) := by
        cases hx : ev x with
        | slice a n c =>
          left
          simp only [Go.convert, Sem.run_bind, run_underlying hs, run_underlying hd, Result.andThen_ok, run_underlying he8]
        | _ => right; intro a n c hh; cases hh
      split at h
      · rename_i l c s' r hx
        cases h
        obtain ⟨_, he⟩ := hρ _ _ hx
        have run := run.resolve_right (fun hn => hn _ _ _ he)
        exact ⟨rfl, .string .empty, by rw [run, he]; rfl, rfl⟩
      · rename_i hx
        cases h
        obtain ⟨a, c, he⟩ := hρ _ _ hx
        have run := run.resolve_right (fun hn => hn _ _ _ he)
        refine ⟨rfl, .string .empty, ?_, rfl⟩
        rw [run, he]
        simp [Conv.bytesToString, loadCells, loadCellsFrom]
      · rename_i p n c s' rw hx
        obtain ⟨dd, hdd, hrw, he⟩ := hρ _ _ hx
        have run := run.resolve_right (fun hn => hn _ _ _ he)
        split at h
        · rename_i rows hg
          split at h
          · rename_i st hst
            cases h
            obtain ⟨hrl, xss, hxl, hxs, hone, hcl⟩ := hH.gather hdd hrw hg
            have hfl : xss.flatten.length = n := by
              rw [← hxl, List.length_flatten]
              have : ∀ (L : List (List Value)), (∀ xs ∈ L, xs.length = 1) → (L.map List.length).sum = L.length := by
                intro L hL
                induction L with
                | nil => rfl
                | cons a L ih => simp [hL a (by simp), ih (fun xs hx => hL xs (by simp [hx]))]; omega
              exact this xss (fun xs hx => (hone xs hx).1)
            have hld := hcl.load (P := P)
            rw [hfl] at hld
            refine ⟨rfl, .string st, ?_, rfl⟩
            rw [run, he]
            simp only [Conv.bytesToString, Sem.run_bind, hld, Result.andThen_ok]
            rw [← Array.forIn_toList]
            generalize hf : (fun (c : Value) (s : ByteArray) => (match c with
              | .int .u8 n => pure (ForInStep.yield (s.push (UInt8.ofNat n.toNat)))
              | x => do
                stuck "bytesToString: byte expected"
                pure (ForInStep.yield s) : Sem (ForInStep ByteArray))) = f
            have hstep : ∀ (b : Nat) (s : ByteArray), (f (.int .u8 (Int.ofNat b)) s).run P w = .ok (ForInStep.yield (s.push (UInt8.ofNat b))) w := by
              intro b s
              rw [← hf]
              rfl
            have key : ∀ (rows : List (List AV)) (xss : List (List Value)) (s0 st : ByteArray), rows.length = xss.length → (∀ (i : Nat) r, rows[i]? = some r → ∃ xs, xss[i]? = some xs ∧ VRs g r xs) →
                lfold (fun (s : ByteArray) (r : List AV) => match r with
                  | [.int .u8 (.ofNat b)] => some (s.push (UInt8.ofNat b))
                  | _ => none) rows s0 = some st → (forIn xss.flatten s0 f).run P w = .ok st w := by
              intro rows
              induction rows with
              | nil =>
                intro xss s0 st hl _ h
                have : xss = [] := List.eq_nil_of_length_eq_zero (by simpa using hl.symm)
                subst this
                cases h
                rfl
              | cons r rows ih =>
                intro xss s0 st hl hv h
                cases xss with
                | nil => simp at hl
                | cons xs xss =>
                  obtain ⟨b', hb, hr⟩ := (lfold_cons _ _ _ _ _).1 h
                  split at hb
                  · rename_i b
                    cases hb
                    obtain ⟨ys, hy1, hy2⟩ := hv 0 _ rfl
                    simp at hy1; subst hy1
                    obtain ⟨y, ys, hy, hys, rfl⟩ := hy2
                    have hys : ys = [] := hys
                    subst hys
                    have hy := hy.int_inv
                    subst hy
                    simp only [List.flatten_cons, List.singleton_append, List.forIn_cons, Sem.run_bind, hstep, Result.andThen_ok]
                    exact ih xss _ st (by simpa using hl) (fun i r hi => by simpa using hv (i + 1) r (by simpa using hi)) hr
                  · cases hb
            have := key rows xss _ st (by rw [hrl, hxl]) hxs hst
            subst hf
            exact congrArg (fun r : Result ByteArray => r.andThen fun a w' => Sem.run P (pure (Value.string a)) w') this
          · cases h
        · cases h
      · cases h
    · cases hc
  · cases hc
theorem eqGuard_run {op : BinOp} {t : TypeId} {x y : Operand} {p : EqP} {u u' : AV} {b : Bool} {m : Nat} (hx : VR g u (ev x)) (hy : VR g u' (ev y)) (hp : eqPlan P (isConst x || isConst y) 20 t = some p) (hb : eqBy (m + 1) p u u' = some b)
    (hg : P.eqGuardType P.depth t = false ∨ ∃ ms, P.underlying t = some (.interface ms)) : (eqGuard op t x y (ev x) (ev y)).run P w = .ok () w := by
  have hagg : ∀ cs ds, u = .agg cs → u' = .agg ds → P.eqGuardType P.depth t = false := by
    intro cs ds e1 e2
    subst e1; subst e2
    rcases hg with hg | ⟨ms, hu⟩
    · exact hg
    · simp only [eqPlan, hu] at hp
      cases hp
      cases hb
  have hnil : u = .nilIface → u' = .nilIface → (isConst x || isConst y) = true := by
    intro e1 e2
    subst e1; subst e2
    cases hc : (isConst x || isConst y) with
    | true => rfl
    | false =>
      rw [hc] at hp
      cases p with
      | iface cst =>
        unfold eqPlan at hp
        repeat' split at hp
        all_goals first | (cases hp; done) | skip
        all_goals (cases hp; first | (cases hb; done) | skip)
      | _ => cases hb
  unfold eqGuard
  cases op
  all_goals first | rfl | skip
  all_goals
    simp only [Bool.not_true, Bool.false_eq_true, if_false]
    generalize hxe : ev x = a at *
    generalize hye : ev y = c at *
    cases u with
    | nilIface =>
      have hx : a = .nilIface := hx
      subst hx
      cases u' with
      | nilIface =>
        have hy : c = .nilIface := hy
        subst hy
        have hc := hnil rfl rfl
        simp only
        rw [if_pos]
        · rfl
        · cases x <;> cases y <;> simp_all [isConst]
      | iface t' v' => obtain ⟨_, _, rfl⟩ := hy; rfl
      | _ => cases p <;> cases hb
    | agg cs =>
      obtain ⟨xs, _, _, rfl⟩ := hx
      cases u' with
      | agg ds =>
        obtain ⟨ys, _, _, rfl⟩ := hy
        simp [hagg cs ds rfl rfl]
      | _ => cases p <;> cases hb
    | bool b' => have hx := hx.bool_inv; subst hx; rfl
    | int k n => have hx := hx.int_inv; subst hx; rfl
    | str s => have hx := hx.str_inv; subst hx; rfl
    | ptr q => cases q with
      | none => have hx : a = .pointer none := hx
                subst hx; rfl
      | some q => obtain ⟨_, _, rfl⟩ := hx; rfl
    | slice q l c' s r => cases q with
      | none => obtain ⟨_, rfl⟩ := hx; rfl
      | some q => obtain ⟨_, _, _, rfl⟩ := hx; rfl
    | empty => obtain ⟨_, _, rfl⟩ := hx; rfl
    | map q => cases q with
      | none => have hx : a = .map none := hx
                subst hx; rfl
      | some q => obtain ⟨_, _, rfl⟩ := hx; rfl
    | func f l m => obtain ⟨_, _, _, _, rfl⟩ := hx; rfl
    | mfunc n r => obtain ⟨_, _, rfl⟩ := hx; rfl
    | yield l => obtain ⟨_, _, rfl⟩ := hx; rfl
    | nilFunc => have hx : a = .nilFunc := hx
                 subst hx; rfl
    | iface t' v' => obtain ⟨_, _, rfl⟩ := hx; rfl
    | tuple vs => obtain ⟨_, _, rfl⟩ := hx; rfl
end
end Go.Ev
namespace Go.Ev
section
variable {P : Program} {X : Pt} {w0 : World} {g : G} {H H' : Heap} {w : World} {ρ : Operand → Option AV} {ev : Operand → Value} {v : AV}
theorem eql_run {t : TypeId} {cst : Bool} {p : EqP} {u u' : AV} {x y : Value} {b : Bool} (hp : eqPlan P cst 20 t = some p) (hx : VR g u x) (hy : VR g u' y) (hb : eqBy 20 p u u' = some b) :
    (binOp .eql t x y).run P w = .ok (.bool b) w ∧ (binOp .neq t x y).run P w = .ok (.bool (!b)) w := by
  have hgen := eqBy_run (P := P) (g := g) w 20 cst t p hp 20 10000 u u' x y b (by omega) hx hy hb
  have hfall : (∀ k n, x ≠ .int k n) → (∀ s, x ≠ .string s) → (∀ k n, x ≠ .float k n) → (∀ k a c, x ≠ .complex k a c) → (binOp .eql t x y).run P w = .ok (.bool b) w ∧ (binOp .neq t x y).run P w = .ok (.bool (!b)) w := by
    intro h1 h2 h3 h4
    cases x <;> first | grind | exact absurd rfl (h2 _) | exact absurd rfl (h3 _ _) | exact absurd rfl (h4 _ _ _) | (simp only [binOp, Op.equal, Op.maxDepth, Sem.run_bind, hgen, Result.andThen_ok]; exact ⟨rfl, rfl⟩)
  cases u with
  | int k n =>
    have hx := hx.int_inv
    subst hx
    cases p with
    | pi =>
      simp only [eqBy, primEq] at hb
      split at hb
      · rename_i k' n'
        have hy := hy.int_inv
        subst hy
        split at hb
        · rename_i hk
          rw [keq_eq] at hk
          have hk := of_decide_eq_true hk
          subst hk
          cases hb
          rw [ieq_eq]
          simp [binOp, Op.intCmp, bne]
        · cases hb
      · cases hb
    | _ => cases hb
  | str s =>
    have hx := hx.str_inv
    subst hx
    cases p with
    | ps =>
      simp only [eqBy, primEq] at hb
      split at hb
      · rename_i s'
        have hy := hy.str_inv
        subst hy
        cases hb
        simp [binOp, Op.stringOp]
      · cases hb
    | _ => cases hb
  | bool b' => have hx := hx.bool_inv; grind
  | ptr q => cases q with
    | none => have hx : x = .pointer none := hx
              subst hx; exact hfall (by simp) (by simp) (by simp) (by simp)
    | some q => obtain ⟨_, _, rfl⟩ := hx; exact hfall (by simp) (by simp) (by simp) (by simp)
  | slice q l c' s r => cases q with
    | none => obtain ⟨_, rfl⟩ := hx; exact hfall (by simp) (by simp) (by simp) (by simp)
    | some q => obtain ⟨_, _, _, rfl⟩ := hx; exact hfall (by simp) (by simp) (by simp) (by simp)
  | empty => obtain ⟨_, _, rfl⟩ := hx; exact hfall (by simp) (by simp) (by simp) (by simp)
  | map q => cases q with
    | none => have hx : x = .map none := hx
              subst hx; exact hfall (by simp) (by simp) (by simp) (by simp)
    | some q => obtain ⟨_, _, rfl⟩ := hx; exact hfall (by simp) (by simp) (by simp) (by simp)
  | func f l m => obtain ⟨_, _, _, _, rfl⟩ := hx; exact hfall (by simp) (by simp) (by simp) (by simp)
  | mfunc n r => obtain ⟨_, _, rfl⟩ := hx; exact hfall (by simp) (by simp) (by simp) (by simp)
  | yield l => obtain ⟨_, _, rfl⟩ := hx; exact hfall (by simp) (by simp) (by simp) (by simp)
  | nilFunc => have hx : x = .nilFunc := hx
               subst hx; exact hfall (by simp) (by simp) (by simp) (by simp)
  | iface t' v' => obtain ⟨_, _, rfl⟩ := hx; exact hfall (by simp) (by simp) (by simp) (by simp)
  | nilIface => have hx : x = .nilIface := hx
                subst hx; exact hfall (by simp) (by simp) (by simp) (by simp)
  | agg cs => obtain ⟨_, _, _, rfl⟩ := hx; exact hfall (by simp) (by simp) (by simp) (by simp)
  | tuple vs => obtain ⟨_, _, rfl⟩ := hx; exact hfall (by simp) (by simp) (by simp) (by simp)
theorem bin_gives {bop : BinOp} {t : TypeId} {x y : Operand} {op : AOp} (hρ : RhoOk g ρ ev) (hc : cBin P bop t x y = some op) (h : aval P H ρ op = some (v, H')) :
    H' = H ∧ Gives P g w (do eqGuard bop t x y (ev x) (ev y); binOp bop t (ev x) (ev y)) v := by
  have heq : ∀ neg p, (bop = if neg then .neq else .eql) → eqPlan P (isConst x || isConst y) 20 t = some p → (P.eqGuardType P.depth t = false ∨ ∃ ms, P.underlying t = some (.interface ms)) →
      aval P H ρ (.eql neg p x y) = some (v, H') → H' = H ∧ Gives P g w (do eqGuard bop t x y (ev x) (ev y); binOp bop t (ev x) (ev y)) v := by
    intro neg p hop hp hg h
    simp only [aval] at h
    split at h
    · rename_i u hu
      split at h
      · rename_i u' hu'
        split at h
        · rename_i b hb
          cases h
          have h1 := eqGuard_run (P := P) (w := w) (op := bop) (hρ _ _ hu) (hρ _ _ hu') hp hb hg
          have h2 := eql_run (P := P) (w := w) hp (hρ _ _ hu) (hρ _ _ hu') hb
          refine ⟨rfl, ?_⟩
          unfold Gives
          simp only [Sem.run_bind, h1, Result.andThen_ok]
          subst hop
          cases neg with
          | true => exact ⟨_, h2.2, rfl⟩
          | false => exact ⟨_, h2.1, rfl⟩
        · cases h
      · cases h
    · cases h
  unfold cBin at hc
  split at hc
  · grind
  · grind
  · rename_i h1 h2
    cases hc
    simp only [aval] at h
    split at h
    · rename_i u hu
      split at h
      · rename_i u' hu'
        split at h
        · rename_i r hr
          cases h
          refine ⟨rfl, ?_⟩
          obtain ⟨z, hz, hvz⟩ := binV_run (P := P) (w := w) (t := t) ⟨h1, h2⟩ (hρ _ _ hu) (hρ _ _ hu') hr
          refine ⟨z, ?_, hvz⟩
          have hgd : (eqGuard bop t x y (ev x) (ev y)).run P w = .ok () w := by
            unfold eqGuard
            simp_all
          simp only [Sem.run_bind, hgd, Result.andThen_ok, hz]
        · cases h
      · cases h
    · cases h
def Cls.quiet : Cls → Bool
  | .pure => true
  | .read => true
  | _ => false
theorem Gives.to {s : Sem Value} {o : Oper} (h : H' = H ∧ Gives P g w s v) (he : execOp ev o = (do pure (Next.value (← s)))) : H' = H ∧ ∃ x, (execOp ev o).run P w = .ok (.value x) w ∧ VR g v x := by
  refine ⟨h.1, ?_⟩
  rw [he]
  exact h.2.exec
theorem quiet_sound {o : Oper} {op : AOp} (hρ : RhoOk g ρ ev) (hH : HR X w0 g H w) (hc : cOp P o.op = some op) (hq : (clsOf op).quiet = true) (h : aval P H ρ op = some (v, H')) :
    H' = H ∧ ∃ x, (execOp ev o).run P w = .ok (.value x) w ∧ VR g v x := by
  cases ho : o.op with
  | move x =>
    rw [ho] at hc; cases hc
    simp only [aval] at h
    split at h
    · rename_i hv; cases h; exact ⟨rfl, ev x, by simp [execOp, ho], hρ _ _ hv⟩
    · cases h
  | assign x =>
    rw [ho] at hc; cases hc
    simp only [aval] at h
    split at h
    · rename_i hv; cases h; exact ⟨rfl, ev x, by simp [execOp, ho], hρ _ _ hv⟩
    · cases h
  | pick c a b =>
    rw [ho] at hc; cases hc
    obtain ⟨h1, y, hy, hv⟩ := pick_gives (P := P) (w := w) hρ h
    refine ⟨h1, y, ?_, hv⟩
    simp only [execOp, ho]
    simp only [Sem.run_bind, Sem.run_pure] at hy ⊢
    cases hb : (asBool (ev c)).run P w with
    | ok b' w' => rw [hb] at hy; simp only [Result.andThen_ok] at hy ⊢; cases hy; rfl
    | halt e w' => rw [hb] at hy; cases hy
  | build t parts => rw [ho] at hc; exact Gives.to (build_gives hρ hc h) (by simp only [execOp, ho])
  | load t x => rw [ho] at hc; exact Gives.to (load_gives hρ hH hc h) (by simp only [execOp, ho])
  | nilCheck x => rw [ho] at hc; cases hc; exact nilchk_gives ho hρ h
  | binOp bop t x y yt =>
    rw [ho] at hc
    refine Gives.to (s := (do eqGuard bop t x y (ev x) (ev y); binOp bop t (ev x) (ev y))) (bin_gives hρ hc h) ?_
    simp only [execOp, ho]
  | unOp uop t x =>
    rw [ho] at hc; cases hc
    simp only [aval] at h
    split at h
    · rename_i u hu
      split at h
      · rename_i r hr
        cases h
        exact Gives.to ⟨rfl, unV_run (hρ _ _ hu) hr⟩ (by simp only [execOp, ho])
      · cases h
    · cases h
  | convert s d x => rw [ho] at hc; exact Gives.to (convert_gives hρ hH hc h) (by simp only [execOp, ho])
  | makeInterface t x => rw [ho] at hc; exact Gives.to (mkif_gives hρ hc h) (by simp only [execOp, ho])
  | makeFunc fn a b => rw [ho] at hc; exact Gives.to (mkfn_gives hρ hc h) (by simp only [execOp, ho])
  | slice t x lo hi mx => rw [ho] at hc; exact Gives.to (slc_gives hρ hc h) (by simp only [execOp, ho])
  | fieldAddr t x i => rw [ho] at hc; exact Gives.to (faddr_gives hρ hc h) (by simp only [execOp, ho])
  | field t x i => rw [ho] at hc; exact Gives.to (field_gives hρ hc h) (by simp only [execOp, ho])
  | indexAddr t x i => rw [ho] at hc; exact Gives.to (iaddr_gives hρ hc h) (by simp only [execOp, ho])
  | index t x i => rw [ho] at hc; exact Gives.to (index_gives hρ hc h) (by simp only [execOp, ho])
  | lookup t m k ok => rw [ho] at hc; exact Gives.to (lookup_gives hρ hH hc h) (by simp only [execOp, ho])
  | extract x i => rw [ho] at hc; cases hc; exact Gives.to (extract_gives hρ h) (by simp only [execOp, ho])
  | call c =>
    rw [ho] at hc
    unfold cOp at hc
    simp only at hc
    split at hc
    · cases hc; cases hq
    · cases hc; cases hq
    · rename_i b hb
      obtain ⟨cs, he⟩ := exec_builtin (P := P) (w := w) (ev := ev) ho hb
      have fin : ∀ {s : Sem Value}, H' = H ∧ Gives P g w s v → (builtin b c.argTypes o.type cs (c.args.map ev)) = (do pure (Next.value (← s))) → H' = H ∧ ∃ x, (execOp ev o).run P w = .ok (.value x) w ∧ VR g v x := by
        intro s hs hbe
        refine ⟨hs.1, ?_⟩
        rw [he, hbe]
        exact hs.2.exec
      have hargs : c.args.map ev = (c.args.toList.map ev).toArray := by apply Array.ext'; simp
      unfold cBuiltin at hc
      split at hc
      · rename_i t x ht hx
        have hc : cBuiltin P .len [t] [x] = some op := hc
        refine fin (s := Builtin.len_ c.argTypes o.type (c.args.map ev)) ?_ rfl
        rw [arr1 ht, arr1 hx]
        simpa using len_gives o.type hρ hH hc h
      · rename_i t x ht hx
        have hc : cBuiltin P .cap [t] [x] = some op := hc
        refine fin (s := Builtin.cap_ c.argTypes o.type (c.args.map ev)) ?_ rfl
        rw [arr1 ht, arr1 hx]
        simpa using cap_gives o.type hρ hc h
      · cases hc
        refine fin (s := Builtin.min_ c.argTypes o.type (c.args.map ev)) ?_ rfl
        have := minmax_gives (P := P) (w := w) (mx := false) o.type c.argTypes hρ h
        rw [← hargs] at this
        exact this
      · cases hc
        refine fin (s := Builtin.max_ c.argTypes o.type (c.args.map ev)) ?_ rfl
        have := minmax_gives (P := P) (w := w) (mx := true) o.type c.argTypes hρ h
        rw [← hargs] at this
        exact this
      all_goals ((repeat' split at hc) <;> first | (cases hc; done) | (cases hc; cases hq))
  | makeMap t r => cases r <;> (rw [ho] at hc; first | (cases hc; done) | (cases hc; cases hq))
  | _ => rw [ho] at hc; simp only [cOp, reduceCtorEq] at hc <;> (repeat' split at hc) <;> first | (cases hc; done) | (cases hc; cases hq)
end
end Go.Ev
namespace Go.Ev
section
variable {P : Program} {X : Pt} {w0 : World} {g : G} {H H' : Heap} {w : World} {ρ : Operand → Option AV} {ev : Operand → Value} {v : AV}
theorem zcells_run {t : TypeId} {n : Nat} {cs : List AV} (h : zcells P t n = some cs) :
    ∃ zv xs, (∀ w, (zeroValue t).run P w = .ok zv w) ∧ zv.cells = xs.toArray ∧ (∀ g, VRs g cs xs) ∧ (∀ y ∈ xs, y.oneCell' = true) ∧ xs.length = n ∧ cs.length = n := by
  unfold zcells at h
  split at h
  · rename_i z hz
    unfold zero? at hz
    split at hz
    · rename_i i hi
      split at hz
      · rename_i zv hzv
        obtain ⟨xs, h1, h2, h3, h4, h5⟩ := partCells_VR h (ofVal_VR (fun _ => none) hz)
        refine ⟨zv, xs, fun w => by simp [zeroValue, run_tinfo w hi, hzv], h3, fun g => ?_, h2, h4, h5⟩
        obtain ⟨xs', h1', _, h3', _, _⟩ := partCells_VR h (ofVal_VR g hz)
        grind
      · cases hz
    · cases hz
  · cases h
def RI (g : G) (len sz : Nat) (t : Tr (List AV)) (zx : List Value) : Prop := zx.length = len * sz ∧
  ∀ i row, i < len → t.get i = some row → row.length = sz ∧ ∀ (j : Nat) v, row[j]? = some v → ∃ x, zx[i * sz + j]? = some x ∧ VR g v x ∧ x.oneCell' = true
theorem RI.mono {g g' : G} (hg : G.le g g') {len sz : Nat} {t : Tr (List AV)} {zx : List Value} (h : RI g len sz t zx) : RI g' len sz t zx :=
  ⟨h.1, fun i row hi ht => ⟨(h.2 i row hi ht).1, fun j v hj => let ⟨x, a, b, c⟩ := (h.2 i row hi ht).2 j v hj; ⟨x, a, VR.mono hg _ _ b, c⟩⟩⟩
theorem RI.br {g : G} {len sz : Nat} {t : Tr (List AV)} {zx : List Value} (h : RI g len sz t zx) (el : TypeId) (b : Nat) : BR g (some (.cells zx.toArray el (0, 0))) (.rows t len sz false) ⟨b, 0, 0, sz, none⟩ := by
  refine ⟨rfl, zx.toArray, el, _, rfl, rfl, by simp [h.1], fun i row hi ht => ⟨(h.2 i row hi ht).1, fun j v hj => ?_⟩⟩
  obtain ⟨x, hx⟩ := (h.2 i row hi ht).2 j v hj
  grind
theorem RI.one {g : G} {sz : Nat} {cs : List AV} {xs : List Value} (hl : xs.length = sz) (hv : VRs g cs xs) (h1 : ∀ y ∈ xs, y.oneCell' = true) : RI g 1 sz (Tr.lf.put 0 cs) xs := by
  refine ⟨by omega, fun i row hi ht => ?_⟩
  have : i = 0 := by omega
  subst this
  cases ht
  refine ⟨by rw [← hv.length, hl], fun j v hj => ?_⟩
  obtain ⟨x, hx, hvx⟩ := hv.get hj
  grind
theorem RI.ofRows {g : G} {sz : Nat} : ∀ (rows : List (List AV)) (xss : List (List Value)) (t : Tr (List AV)), (∀ i, t.get i = rows[i]?) → xss.length = rows.length →
    (∀ (i : Nat) r, rows[i]? = some r → ∃ xs, xss[i]? = some xs ∧ VRs g r xs) → (∀ xs ∈ xss, xs.length = sz ∧ ∀ x ∈ xs, x.oneCell' = true) → RI g rows.length sz t xss.flatten := by
  intro rows xss t ht hl hv hone
  have flat : ∀ (L : List (List Value)), (∀ xs ∈ L, xs.length = sz) → L.flatten.length = L.length * sz ∧ ∀ (i : Nat) xs (j : Nat), L[i]? = some xs → j < sz → L.flatten[i * sz + j]? = xs[j]? := by
    intro L
    induction L with
    | nil => grind
    | cons a L ih =>
      intro h
      obtain ⟨h1, h2⟩ := ih (fun xs hx => h xs (by simp [hx]))
      have ha := h a (by simp)
      refine ⟨by grind, fun i xs j hi hj => ?_⟩
      rw [List.flatten_cons]
      cases i with
      | zero => grind
      | succ i =>
        rw [List.getElem?_append_right (by grind), ← h2 i xs j (by simpa using hi) hj]
        congr 1
        rw [ha, Nat.add_mul]; omega
  obtain ⟨f1, f2⟩ := flat xss (fun xs hx => (hone xs hx).1)
  refine ⟨by rw [f1, hl], fun i row hi hr => ?_⟩
  rw [ht] at hr
  obtain ⟨xs, hx, hvx⟩ := hv i row hr
  obtain ⟨hxl, hx1⟩ := hone xs (List.mem_of_getElem? hx)
  refine ⟨by rw [← hvx.length, hxl], fun j v hj => ?_⟩
  have hjl : j < sz := by rw [← hxl, hvx.length]; grind
  obtain ⟨x, hxj, hvj⟩ := hvx.get hj
  grind
theorem RI.put {g : G} {len sz : Nat} {t : Tr (List AV)} {zx : List Value} (h : RI g len sz t zx) {i : Nat} (hi : i < len) {cs : List AV} {xs : List Value} (hl : xs.length = sz) (hv : VRs g cs xs) (h1 : ∀ y ∈ xs, y.oneCell' = true) :
    RI g len sz (t.put i cs) (zx.take (i * sz) ++ xs ++ zx.drop (i * sz + xs.length)) := by
  have hb : i * sz + xs.length ≤ zx.length := by
    rw [h.1, hl]
    have := Nat.mul_le_mul_right sz (show i + 1 ≤ len from hi)
    grind
  have h0 := h.1
  refine ⟨by grind, fun k row hk ht => ?_⟩
  rw [Tr.get_put] at ht
  split at ht
  · rename_i e
    subst e
    cases ht
    refine ⟨by rw [← hv.length, hl], fun j v hj => ?_⟩
    obtain ⟨x, hx, hvx⟩ := hv.get hj
    have hjl : j < xs.length := (List.getElem?_eq_some_iff.1 hx).1
    refine ⟨x, ?_, hvx, h1 x (List.mem_of_getElem? hx)⟩
    grind
  · rename_i e
    obtain ⟨hl', hc⟩ := h.2 k row hk ht
    refine ⟨hl', fun j v hj => ?_⟩
    have hjl : j < sz := by rw [← hl']; exact (List.getElem?_eq_some_iff.1 hj).1
    have hap := seg_apart (sh := 0) (o := 0) (len := sz) hjl (by omega) (fun e' => e e'.symm : k ≠ i)
    rw [splice_get _ _ _ _ hb]
    by_cases c1 : k * sz + j < i * sz
    · rw [if_pos c1]; exact hc j v hj
    · rw [if_neg c1, if_neg (by omega)]; exact hc j v hj
theorem RI.zeros {g : G} {sz len : Nat} {cs : List AV} {xs : List Value} (hsz : 0 < sz) (hl : xs.length = sz) (hv : VRs g cs xs) (h1 : ∀ y ∈ xs, y.oneCell' = true) {t : Tr (List AV)} (ht : rowsOf (repl len cs) = some t) :
    RI g len sz t ((List.range (len * sz)).map fun k => xs[k % sz]?.getD default) := by
  refine ⟨by simp, fun i row hi hr => ?_⟩
  rw [rowsOf_get ht] at hr
  unfold repl at hr
  rw [List.getElem?_replicate, if_pos hi] at hr
  cases hr
  refine ⟨by rw [← hv.length, hl], fun j v hj => ?_⟩
  obtain ⟨x, hx, hvx⟩ := hv.get hj
  have hjl : j < sz := by grind
  refine ⟨x, ?_, hvx, h1 x (List.mem_of_getElem? hx)⟩
  have hk : i * sz + j < len * sz := by
    have := Nat.mul_le_mul_right sz (show i + 1 ≤ len from hi)
    grind
  have hm : (i * sz + j) % sz = j := by rw [Nat.mul_comm, Nat.mul_add_mod, Nat.mod_eq_of_lt hjl]
  grind
theorem zeros_arr (xs : List Value) (n : Nat) (hx : 0 < xs.length) : (Array.range n).map (fun k => xs.toArray[k % xs.toArray.size]!) = ((List.range n).map fun k => xs[k % xs.length]?.getD default).toArray := by
  grind
theorem lmap_parts {sz len : Nat} (hρ : RhoOk g ρ ev) : ∀ (ps : List (Nat × Operand)) (l : List (Nat × List AV)), lmapO (fun p : Nat × Operand => match ρ p.2 with
        | some v => match partCells sz v with
          | some cs => match Nat.blt p.1 len with | true => some (p.1, cs) | false => none
          | none => none
        | none => none) ps = some l → ∀ {t t' : Tr (List AV)} {zx : List Value}, RI g len sz t zx → lfold (fun (t : Tr (List AV)) (p : Nat × List AV) => some (t.put p.1 p.2)) l t = some t' →
      ∃ zx', Instr.fill (fun i => some (i * sz, sz)) zx.toArray (ps.map fun p => (p.1, ev p.2)) = some zx'.toArray ∧ RI g len sz t' zx' := by
  intro ps
  induction ps with
  | nil => intro l h t t' zx hr ht; cases h; cases ht; exact ⟨zx, rfl, hr⟩
  | cons p ps ih =>
    intro l h t t' zx hr ht
    obtain ⟨b, bs, hb, hbs, rfl⟩ := (lmapO_cons _ _ _ _).1 h
    split at hb
    · rename_i v hv
      split at hb
      · rename_i cs hc
        split at hb
        · rename_i hlt
          cases hb
          have hlt : p.1 < len := by simpa [Nat.blt_eq] using hlt
          obtain ⟨xs, h1, h2, h3, h4, h5⟩ := partCells_VR hc (hρ _ _ hv)
          obtain ⟨c', hc', hrest⟩ := (lfold_cons _ _ _ _ _).1 ht
          cases hc'
          have hri := hr.put hlt h4 h1 h2
          have hfit : p.1 * sz + xs.length ≤ zx.length := by
            rw [hr.1, h4]
            have := Nat.mul_le_mul_right sz (show p.1 + 1 ≤ len from hlt)
            grind
          obtain ⟨zx', hf, hri'⟩ := ih bs hbs hri hrest
          refine ⟨zx', ?_, hri'⟩
          simp only [List.map_cons, Instr.fill, h3, List.size_toArray, h4]
          congr 1
          have := fold_set (p.1 * sz) xs 0 zx.toArray (by omega)
          grind
        · cases hb
      · cases hb
    · cases hb
theorem alloc_sound {o : Oper} {op : AOp} {ob : AObj} {f : Nat → AV} (hρ : RhoOk g ρ ev) (hc : cOp P o.op = some op) (h : allocOf ρ op = some (ob, f)) :
    ∃ (cob : Obj) (x : Value) (d : Gd), (execOp ev o).run P w = .ok (.value x) (w.alloc cob) ∧ d.b = w.heap.size ∧ d.ro = none ∧
      ∀ (g' : G) (id : Nat), G.le g g' → g' id = some d → VR g' (f id) x ∧ BR g' (some cob) ob d := by
  cases ho : o.op with
  | alloc t =>
    rw [ho] at hc
    simp only [cOp] at hc
    split at hc
    · rename_i n hsz
      split at hc
      · rename_i z hz
        cases hc
        cases h
        obtain ⟨zv, xs, h1, h2, h3, h4, h5, h6⟩ := zcells_run hz
        refine ⟨.cells xs.toArray t, .pointer (some ⟨w.heap.size, 0, none⟩), ⟨w.heap.size, 0, 0, n + 1, none⟩, ?_, rfl, rfl, fun g' id hg hid => ⟨⟨_, hid, by simp [adr]⟩, (RI.one h5 (h3 g') h4).br t _⟩⟩
        simp only [execOp, ho, Instr.alloc, Sem.run_bind, h1, Result.andThen_ok, newVar, newRow, h2, run_newObj, Sem.run_pure]
        rfl
      · cases hc
    · cases hc
  | box t x =>
    rw [ho] at hc
    simp only [cOp] at hc
    split at hc
    · rename_i n hsz
      cases hc
      simp only [allocOf] at h
      split at h
      · rename_i v hv
        split at h
        · rename_i cs hcs
          cases h
          obtain ⟨xs, h1, h2, h3, h4, h5⟩ := partCells_VR hcs (hρ _ _ hv)
          refine ⟨.cells xs.toArray t, .pointer (some ⟨w.heap.size, 0, none⟩), ⟨w.heap.size, 0, 0, n + 1, none⟩, ?_, rfl, rfl, fun g' id hg hid => ⟨⟨_, hid, by simp [adr]⟩, (RI.one h4 (VRs.mono hg _ _ h1) h2).br t _⟩⟩
          simp only [execOp, ho, Instr.box, Sem.run_bind, Result.andThen_ok, newVar, newRow, h3, run_newObj, Sem.run_pure]
          rfl
        · cases h
      · cases h
    · cases hc
  | buildSlice t len parts =>
    rw [ho] at hc
    simp only [cOp] at hc
    split at hc
    · rename_i e hu
      split at hc
      · rename_i n hsz
        split at hc
        · rename_i z hz
          split at hc
          · rename_i hle
            cases hc
            have hle := Nat.le_of_ble_eq_true hle
            simp only [allocOf] at h
            split at h
            · rename_i l hl
              split at h
              · rename_i tr htr
                split at h
                · rename_i tr' htr'
                  cases h
                  obtain ⟨zv, xs, h1, h2, h3, h4, h5, h6⟩ := zcells_run hz
                  obtain ⟨zx', hf, hri⟩ := lmap_parts (g := g) hρ parts.toList l hl (RI.zeros (by omega) h5 (h3 g) h4 htr) htr'
                  refine ⟨.cells zx'.toArray e, .slice (some ⟨w.heap.size, 0, none⟩) len len, ⟨w.heap.size, 0, 0, n + 1, none⟩, ?_, rfl, rfl, fun g' id hg hid => ⟨⟨_, hid, fun _ => ⟨rfl, rfl⟩, by simp [adr]⟩, (hri.mono hg).br e _⟩⟩
                  have hparts : (parts.map fun (i, x) => (i, ev x)).toList = parts.toList.map fun p => (p.1, ev p.2) := by simp
                  simp only [execOp, ho, Instr.buildSlice, Sem.run_bind, run_underlying hu, Result.andThen_ok, run_size w hsz]
                  rw [if_neg (by simp; omega)]
                  simp only [Sem.run_pure]
                  by_cases h0 : len * (n + 1) = 0
                  · have hlen : len = 0 := by
                      rcases Nat.mul_eq_zero.1 h0 with h | h
                      · exact h
                      · omega
                    subst hlen
                    simp only [Nat.zero_mul, if_true]
                    simp only [Sem.run_bind, Sem.run_pure, Result.andThen_ok, hparts]
                    simp only [Nat.zero_mul, List.range_zero, List.map_nil] at hf
                    have e0 : (Array.range 0).map (fun k => (#[] : Array Value)[k % (#[] : Array Value).size]!) = ([] : List Value).toArray := by apply Array.ext'; simp
                    rw [e0, hf]
                    simp only [newRow, Sem.run_bind, run_newObj, Result.andThen_ok, Sem.run_pure]
                    rfl
                  · rw [if_neg h0]
                    simp only [Sem.run_bind, h1, Result.andThen_ok, Sem.run_pure, h2, hparts]
                    rw [zeros_arr xs _ (by omega), h5, hf]
                    simp only [newRow, Sem.run_bind, run_newObj, Result.andThen_ok, Sem.run_pure]
                    rfl
                · cases h
              · cases h
            · cases h
          · cases hc
        · cases hc
      · cases hc
    · cases hc
  | makeSlice t l c =>
    rw [ho] at hc
    simp only [cOp] at hc
    split at hc
    · rename_i e hu
      split at hc
      · rename_i n bs hsz hby
        split at hc
        · rename_i z hz
          cases hc
          simp only [allocOf] at h
          split at h
          · rename_i ln hl
            split at h
            · rename_i cn hcn
              split at h
              · rename_i hle
                simp only [Bool.and_eq_true] at hle
                obtain ⟨⟨hle1, hle2⟩, hle3⟩ := hle
                have hle1 := Nat.le_of_ble_eq_true hle1
                have hle2 := Nat.le_of_ble_eq_true hle2
                have hle3 := Nat.le_of_ble_eq_true hle3
                split at h
                · rename_i tr htr
                  cases h
                  obtain ⟨zv, xs, h1, h2, h3, h4, h5, h6⟩ := zcells_run hz
                  obtain ⟨ie, hie, hieb⟩ := bytes?_iff.1 hby
                  refine ⟨.cells ((List.range (cn * (n + 1))).map fun k => xs[k % (n + 1)]?.getD default).toArray e, .slice (some ⟨w.heap.size, 0, none⟩) ln cn, ⟨w.heap.size, 0, 0, n + 1, none⟩, ?_, rfl, rfl,
                    fun g' id hg hid => ⟨⟨_, hid, fun _ => ⟨rfl, rfl⟩, by simp [adr]⟩, (RI.zeros (by omega) h5 (h3 g') h4 htr).br e _⟩⟩
                  have hwl : IntKind.wrap .i64 (Int.ofNat ln) = ln := wrap_i64 (by simp only [Int.ofNat_eq_natCast]; omega) (by simp only [Int.ofNat_eq_natCast]; omega)
                  have hwc : IntKind.wrap .i64 (Int.ofNat cn) = cn := wrap_i64 (by simp only [Int.ofNat_eq_natCast]; omega) (by simp only [Int.ofNat_eq_natCast]; omega)
                  have hbc : ¬ ((bs : Int) * (cn : Int) > 2 ^ 48) := by
                    have : ((bs * cn : Nat) : Int) ≤ ((281474976710656 : Nat) : Int) := Int.ofNat_le.2 hle3
                    rw [Int.natCast_mul] at this
                    have e48 : (2 : Int) ^ 48 = 281474976710656 := rfl
                    rw [e48]
                    omega
                  simp only [execOp, ho, Instr.makeSlice, Sem.run_bind, run_underlying hu, Result.andThen_ok, int_of hρ hl, int_of hρ hcn, asInt, asIntOf, Sem.run_pure, run_tinfo w hie, hieb, hwl, hwc]
                  have c1 : (decide ((cn : Int) < 0) || decide ((bs : Int) * (cn : Int) > 2 ^ 48) || decide ((ln : Int) < 0) || decide ((ln : Int) > (cn : Int))) = false := by
                    simp only [Bool.or_eq_false_iff, decide_eq_false_iff_not]
                    exact ⟨⟨⟨by omega, hbc⟩, by omega⟩, by omega⟩
                  rw [c1]
                  simp only [Bool.false_eq_true, if_false, Sem.run_bind, run_askRoom, Result.andThen_ok, run_size w hsz, Int.toNat_natCast]
                  by_cases h0 : cn * (n + 1) = 0
                  · have hcn0 : cn = 0 := by
                      rcases Nat.mul_eq_zero.1 h0 with h | h
                      · exact h
                      · omega
                    subst hcn0
                    simp only [Nat.zero_mul, if_true]
                    simp only [Sem.run_bind, Sem.run_pure, Result.andThen_ok]
                    have e0 : (Array.range 0).map (fun k => (#[] : Array Value)[k % (#[] : Array Value).size]!) = ([] : List Value).toArray := by apply Array.ext'; simp
                    rw [e0]
                    simp only [newRow, Sem.run_bind, run_newObj, Result.andThen_ok, Sem.run_pure]
                    rfl
                  · rw [if_neg h0]
                    simp only [Sem.run_bind, h1, Result.andThen_ok, Sem.run_pure, h2]
                    rw [zeros_arr xs _ (by omega), h5]
                    simp only [newRow, Sem.run_bind, run_newObj, Result.andThen_ok, Sem.run_pure]
                    rfl
                · cases h
              · cases h
            · cases h
          · cases h
        · cases hc
      · cases hc
    · cases hc
  | makeMap t r =>
    cases r with
    | some r => rw [ho] at hc; cases hc
    | none =>
      rw [ho] at hc
      cases hc
      cases h
      refine ⟨.map #[] 0, .map (some w.heap.size), ⟨w.heap.size, 0, 0, 0, none⟩, ?_, rfl, rfl, fun g' id hg hid => ⟨⟨_, hid, rfl⟩, #[], 0, rfl, ⟨rfl, by simp, by simp, by simp, by simp⟩⟩⟩
      simp only [execOp, ho, Instr.makeMap, Sem.run_bind, Option.map_none, Sem.run_pure, Result.andThen_ok, run_newObj]
      rfl
  | makeFunc fn a b =>
    rw [ho] at hc
    cases fn <;> simp only [cOp, reduceCtorEq] at hc <;> (repeat' split at hc) <;> first | (cases hc; done) | (cases hc; cases h)
  | build t parts =>
    rw [ho] at hc
    have hc : cBuild P t parts.toList = some op := hc
    unfold cBuild at hc
    (repeat' split at hc) <;> first | (cases hc; done) | (cases hc; cases h)
  | binOp bop t x y yt =>
    rw [ho] at hc
    have hc : cBin P bop t x y = some op := hc
    unfold cBin at hc
    (repeat' split at hc) <;> first | (cases hc; done) | (cases hc; cases h)
  | call c =>
    rw [ho] at hc
    simp only [cOp] at hc
    split at hc
    · cases hc; cases h
    · cases hc; cases h
    · unfold cBuiltin at hc
      (repeat' split at hc) <;> first | (cases hc; done) | (cases hc; cases h)
  | _ => rw [ho] at hc; simp only [cOp, reduceCtorEq] at hc <;> (repeat' split at hc) <;> first | (cases hc; done) | (cases hc; cases h)
end
end Go.Ev
namespace Go.Ev
def NV : Next → Option Value
  | .value v => some v
  | .skip => some Go.undef
  | _ => none
section
variable {P : Program} {X : Pt} {w0 : World} {g : G} {H H' : Heap} {w : World} {ρ : Operand → Option AV} {ev : Operand → Value} {v : AV}
def Acts (P : Program) (X : Pt) (w0 : World) (g : G) (w : World) (s : Sem Next) (v : AV) (H' : Heap) : Prop :=
  ∃ g' w' n x, G.le g g' ∧ s.run P w = .ok n w' ∧ NV n = some x ∧ VR g' v x ∧ HR X w0 g' H' w'
theorem undef_VR (g : G) : VR g .undef Go.undef := ⟨[], rfl, rfl⟩
theorem store_acts {o : Oper} {t : TypeId} {a x : Operand} {op : AOp} (ho : o.op = .store t a x) (hρ : RhoOk g ρ ev) (hH : HR X w0 g H w) (hc : cOp P (.store t a x) = some op) (h : aval P H ρ op = some (v, H')) :
    Acts P X w0 g w (execOp ev o) v H' := by
  simp only [cOp] at hc
  split at hc
  · rename_i n hsz
    cases hc
    simp only [aval] at h
    split at h
    · rename_i p hp
      obtain ⟨d, hd, he⟩ := hρ _ _ hp
      split at h
      · rename_i u hu
        split at h
        · rename_i cs hcs
          split at h
          · rename_i H1 hw
            cases h
            obtain ⟨xs, h1, h2, h3, h4, h5⟩ := partCells_VR hcs (hρ _ _ hu)
            obtain ⟨d', hd', w', hst, hr, _⟩ := hH.write hw h1 h2
            rw [hd] at hd'; cases hd'
            refine ⟨g, w', .skip, Go.undef, G.le.refl g, ?_, rfl, undef_VR g, hr⟩
            have hs := hst P 0 (d.sh + p.r * d.sz + p.o) (by omega)
            simp only [execOp, ho, Instr.storeAt, Sem.run_bind, he, Instr.sureAddr, Sem.run_pure, Result.andThen_ok, storeVar, run_size w hsz, h3, List.size_toArray, h4]
            simp only [ne_eq, not_true_eq_false, if_false]
            have ha : adr d p = ⟨d.b, d.sh + p.r * d.sz + p.o, none⟩ := rfl
            simp only [ha, hs, Result.andThen_ok]
          · cases h
        · cases h
      · cases h
    · cases h
  · cases hc
theorem MR.push {es : List (AV × AV)} {cs : List MapEntry} (hm : MR g es cs) {k u : AV} {kx ux : Value} (hk : keyV k = some kx) (hu : VR g u ux) (hnew : ∀ (i : Nat) (k' v : AV), es[i]? = some (k', v) → keyV k' ≠ some kx) (clock : Nat) :
    MR g (es ++ [(k, u)]) (cs ++ [{ key := kx, val := ux, born := clock }]) := by
  refine ⟨by simp [hm.len], ?_, ?_, ?_, ?_⟩
  · intro i k' v' hi
    by_cases hlt : i < es.length
    · rw [List.getElem?_append_left hlt] at hi
      obtain ⟨j, c, hj, h2, h3⟩ := hm.get i k' v' hi
      exact ⟨j, c, by grind, h2, h3⟩
    · rw [List.getElem?_append_right (by omega)] at hi
      have h0 : i - es.length = 0 := by
        grind
      rw [h0] at hi
      cases hi
      exact ⟨cs.length, { key := kx, val := ux, born := clock }, by simp, hk, hu⟩
  · intro j c hj
    by_cases hlt : j < cs.length
    · rw [List.getElem?_append_left hlt] at hj
      obtain ⟨i, k', v', hi, h2, h3⟩ := hm.back j c hj
      exact ⟨i, k', v', by grind, h2, h3⟩
    · rw [List.getElem?_append_right (by omega)] at hj
      have h0 : j - cs.length = 0 := by
        grind
      rw [h0] at hj
      cases hj
      exact ⟨es.length, k, u, by simp, hk, hu⟩
  · have old : ∀ (j : Nat) (c : MapEntry), cs[j]? = some c → c.key ≠ kx := fun j c hj e => by
      obtain ⟨i, k', v', hi, h2, _⟩ := hm.back j c hj
      grind
    have cases : ∀ (j : Nat) (c : MapEntry), (cs ++ [{ key := kx, val := ux, born := clock }])[j]? = some c → (j < cs.length ∧ cs[j]? = some c) ∨ (j = cs.length ∧ c.key = kx) := fun j c hj => by
      grind
    intro j j' c c' hj hj' hne
    rcases cases j c hj with ⟨h1, h2⟩ | ⟨h1, h2⟩ <;> rcases cases j' c' hj' with ⟨h3, h4⟩ | ⟨h3, h4⟩
    · exact hm.ck j j' c c' h2 h4 hne
    · grind
    · grind
    · omega
  · intro i j k1 k2 v1 v2 hi hj hne
    by_cases hi1 : i < es.length
    · rw [List.getElem?_append_left hi1] at hi
      by_cases hj1 : j < es.length
      · rw [List.getElem?_append_left hj1] at hj
        exact hm.keys i j k1 k2 v1 v2 hi hj hne
      · rw [List.getElem?_append_right (by omega)] at hj
        have h0 : j - es.length = 0 := by
          have := (List.getElem?_eq_some_iff.1 hj).1
          simp at this; omega
        rw [h0] at hj
        cases hj
        rw [hk]
        exact hnew i k1 v1 hi
    · rw [List.getElem?_append_right (by omega)] at hi
      have h0 : i - es.length = 0 := by
        have := (List.getElem?_eq_some_iff.1 hi).1
        simp at this; omega
      rw [h0] at hi
      cases hi
      by_cases hj1 : j < es.length
      · rw [List.getElem?_append_left hj1] at hj
        rw [hk]
        exact fun e => hnew j k2 v2 hj e.symm
      · rw [List.getElem?_append_right (by omega)] at hj
        have h1 : j - es.length = 0 := by
          have := (List.getElem?_eq_some_iff.1 hj).1
          simp at this; omega
        omega
theorem putIn_set {p : EqP} {k u : AV} : ∀ (es es' : List (AV × AV)), lmapO (fun e : AV × AV => match primEq p k e.1 with | some true => some (e.1, u) | some false => some e | none => none) es = some es' →
    es'.length = es.length ∧ ∀ (i : Nat) (k1 v1 : AV), es[i]? = some (k1, v1) → (primEq p k k1 = some true ∧ es'[i]? = some (k1, u)) ∨ (primEq p k k1 = some false ∧ es'[i]? = some (k1, v1)) := by
  intro es
  induction es with
  | nil => intro es' h; cases h; grind
  | cons e es ih =>
    intro es' h
    obtain ⟨b, bs, hb, hbs, rfl⟩ := (lmapO_cons _ _ _ _).1 h
    obtain ⟨h1, h2⟩ := ih bs hbs
    refine ⟨by simp [h1], fun i k1 v1 hi => ?_⟩
    cases i with
    | zero =>
      grind
    | succ i => simpa using h2 i k1 v1 (by simpa using hi)
theorem MR.set {es es' : List (AV × AV)} {cs : List MapEntry} (hm : MR g es cs) {p : EqP} {k u : AV} {kx ux : Value} (hk : keyV k = some kx) (hu : VR g u ux)
    (h : lmapO (fun e : AV × AV => match primEq p k e.1 with | some true => some (e.1, u) | some false => some e | none => none) es = some es') {j : Nat} {c : MapEntry} (hj : cs[j]? = some c) (hck : c.key = kx) :
    MR g es' (cs.modify j fun e => { e with key := kx, val := ux }) := by
  obtain ⟨hl, hs⟩ := putIn_set es es' h
  have eqk : ∀ (k1 : AV) (b : Bool), primEq p k k1 = some b → (b = true ↔ keyV k1 = some kx) := by
    intro k1 b hb
    obtain ⟨x, y, hx, hy, hxy⟩ := primEq_keyV hb
    grind
  have getm : ∀ (i : Nat), (cs.modify j fun e => { e with key := kx, val := ux })[i]? = (cs[i]?).map fun e => if j = i then { e with key := kx, val := ux } else e := by
    grind
  have hs' : ∀ (i : Nat) (k1 v1' : AV), es'[i]? = some (k1, v1') → ∃ v1, es[i]? = some (k1, v1) ∧ ((keyV k1 = some kx ∧ v1' = u) ∨ (keyV k1 ≠ some kx ∧ v1' = v1)) := by
    grind
  refine ⟨by rw [List.length_modify, hm.len, hl], ?_, ?_, ?_, ?_⟩
  · intro i k1 v1' hi
    obtain ⟨v1, he, hc⟩ := hs' i k1 v1' hi
    obtain ⟨jj, cc, hjj, hkk, hvv⟩ := hm.get i k1 v1 he
    grind
  · intro jj cc hjj
    rw [getm] at hjj
    cases hcj : cs[jj]? with
    | none => rw [hcj] at hjj; cases hjj
    | some c0 =>
      rw [hcj] at hjj
      simp only [Option.map_some, Option.some.injEq] at hjj
      obtain ⟨i, k1, v1, hi, hk1, hv1⟩ := hm.back jj c0 hcj
      by_cases hjj' : j = jj
      · subst hjj'
        rw [hj] at hcj; cases hcj
        rw [if_pos rfl] at hjj
        subst hjj
        rcases hs i k1 v1 hi with ⟨_, h2⟩ | ⟨h1, _⟩
        · exact ⟨i, k1, u, h2, by rw [hk1, hck], hu⟩
        · have := (eqk _ _ h1).2 (by rw [hk1, hck]); cases this
      · rw [if_neg hjj'] at hjj
        subst hjj
        rcases hs i k1 v1 hi with ⟨h1, _⟩ | ⟨_, h2⟩
        · have := (eqk _ _ h1).1 rfl
          rw [hk1] at this; cases this
          exact absurd hck (hm.ck j jj c c0 hj hcj hjj')
        · exact ⟨i, k1, v1, h2, hk1, hv1⟩
  · intro a b ca cb ha hb hne
    have key : ∀ (a : Nat) (ca : MapEntry), (cs.modify j fun e => { e with key := kx, val := ux })[a]? = some ca → ∃ c0, cs[a]? = some c0 ∧ c0.key = ca.key := by
      intro a ca ha
      rw [getm] at ha
      cases hca : cs[a]? with
      | none => rw [hca] at ha; cases ha
      | some c0 =>
        rw [hca] at ha
        simp only [Option.map_some, Option.some.injEq] at ha
        refine ⟨c0, rfl, ?_⟩
        by_cases haj : j = a
        · subst haj; rw [hj] at hca; cases hca; rw [if_pos rfl] at ha; subst ha; exact hck
        · rw [if_neg haj] at ha; rw [ha]
    obtain ⟨c1, h1, e1⟩ := key a ca ha
    obtain ⟨c2, h2, e2⟩ := key b cb hb
    rw [← e1, ← e2]
    exact hm.ck a b c1 c2 h1 h2 hne
  · intro a b k1 k2 v1 v2 ha hb hne
    obtain ⟨_, h1, _⟩ := hs' a k1 v1 ha
    obtain ⟨_, h2, _⟩ := hs' b k2 v2 hb
    exact hm.keys a b k1 k2 _ _ h1 h2 hne
theorem sameBits_key {k : AV} {x : Value} (hk : keyV k = some x) (n : Nat) : Instr.sameBits (n + 1) x x = true := by
  cases k <;> simp [keyV] at hk <;> subst hk <;> simp only [Instr.sameBits, beq_self_eq_true, Bool.and_self]
  rw [beq_toListBytes]
  simp
theorem ins_acts {o : Oper} {t : TypeId} {m k x : Operand} {lit : Bool} {kk : EqP} {kt e : TypeId} (hex : execOp ev o = (do Instr.mapUpdate t (ev m) (ev k) (ev x); pure .skip)) (hu : P.underlying t = some (.map kt e)) (hkk : keyOk P kt = some kk)
    (hρ : RhoOk g ρ ev) (hH : HR X w0 g H w) (h : aval P H ρ (.ins lit kk m k x) = some (v, H')) : Acts P X w0 g w (execOp ev o) v H' := by
  simp only [aval] at h
  split at h
  · rename_i b hm
    obtain ⟨d, hd, he⟩ := hρ _ _ hm
    split at h
    · rename_i kv hkv
      split at h
      · rename_i vv hvv
        split at h
        · rename_i es hb
          split at h
          · rename_i es' hp
            cases h
            obtain ⟨d', hd', cs, clock, hob, hmr⟩ := hH.obj _ _ hb
            rw [hd] at hd'; cases hd'
            have hg : (getObj d.b).run P w = .ok (.map cs clock) w := by simp only [getObj, Sem.run, hob]
            have hset : ∀ (cs' : Array MapEntry) (cl : Nat), (setObj d.b (.map cs' cl)).run P w = .ok () { w with heap := w.heap.setIfInBounds d.b (.map cs' cl) } := fun cs' cl => by simp only [setObj, Sem.run, hob]
            have hck := checkKey_run (P := P) (w := w) hkk false 9999 (ev k)
            have hlt : d.b < w.heap.size := (Array.getElem?_eq_some_iff.1 hob).1
            have fin : ∀ (cs' : Array MapEntry) (cl : Nat) (es' : List (AV × AV)), MR g es' cs'.toList → HR X w0 g (H.put b (.map es')) { w with heap := w.heap.setIfInBounds d.b (.map cs' cl) } := by
              intro cs' cl es' hmr'
              refine hH.put hb hd rfl rfl (by simp) (fun q hq => ?_) ⟨rfl, rfl⟩ ⟨cs', cl, ?_, hmr'⟩
              · grind
              grind
            unfold putIn at hp
            split at hp
            · rename_i hself
              obtain ⟨kx, y, hkx, _, _⟩ := primEq_keyV hself
              have hkeq := keyV_VR hkx (hρ _ _ hkv)
              split at hp
              · rename_i hl
                cases hp
                obtain ⟨hf, hnone⟩ := findKey_run (P := P) (w := w) hkk (hρ _ _ hkv) hmr hl
                rw [lapp_eq]
                have hmr' : MR g (es ++ [(kv, vv)]) (cs.push { key := kx, val := ev x, born := clock }).toList := by
                  rw [Array.toList_push]
                  refine hmr.push hkx (hρ _ _ hvv) (fun i k' v' hi e => ?_) clock
                  have hpf := hnone i k' v' hi
                  obtain ⟨x1, y1, h1, h2, h3⟩ := primEq_keyV hpf
                  grind
                refine ⟨g, _, .skip, Go.undef, G.le.refl g, ?_, rfl, undef_VR g, fin _ (clock + 1) _ hmr'⟩
                rw [hex]
                simp only [Instr.mapUpdate, Sem.run_bind, run_underlying hu, Result.andThen_ok, he, hg, hck, hf, hset]
                rw [hkeq]
                rfl
              · rename_i v0 hl
                obtain ⟨j, c, i, k', hj, hck', hvc, hf, hi, hpk, hkk'⟩ := findKey_run (P := P) (w := w) hkk (hρ _ _ hkv) hmr hl
                have hmr' : MR g es' (cs.modify j fun e => { e with key := kx, val := ev x }).toList := by
                  rw [Array.toList_modify]
                  exact hmr.set hkx (hρ _ _ hvv) hp hj (by grind)
                refine ⟨g, _, .skip, Go.undef, G.le.refl g, ?_, rfl, undef_VR g, fin _ clock _ hmr'⟩
                have hold : (((cs[j]?).map (·.key)).getD (ev k)) = ev k := by
                  grind
                have hkeep : (Instr.keyThatStays (ev k) (ev k)).run P w = .ok (ev k) w := by
                  unfold Instr.keyThatStays
                  rw [hkeq, if_pos (sameBits_key hkx 9999)]
                  rfl
                rw [hex]
                simp only [Instr.mapUpdate, Sem.run_bind, run_underlying hu, Result.andThen_ok, he, hg, hck, hf, hold, hkeep, hset]
                rw [hkeq]
                rfl
              · cases hp
            · cases hp
          · cases h
        · cases h
      · cases h
    · cases h
  · cases h
end
end Go.Ev
