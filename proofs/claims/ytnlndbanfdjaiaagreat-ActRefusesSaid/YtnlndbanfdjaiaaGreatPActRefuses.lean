/- Proved here: the law ActRefuses, as the given statement says it. Conditions: none. -/
import Derived.Test.YtnlndbanfdjaiaaGreatKActRefusesa
import Derived.Test.YtnlndbanfdjaiaaGreatKActRefusesb
import Derived.Test.YtnlndbanfdjaiaaGreatKActRefusesc
import Derived.Test.YtnlndbanfdjaiaaGreatKActRefusesd
import Derived.Test.YtnlndbanfdjaiaaGreatKActRefusese
import Derived.Test.YtnlndbanfdjaiaaGreatKActRefusesf
import Derived.Test.YtnlndbanfdjaiaaGreatKActRefusesg
import Derived.Test.YtnlndbanfdjaiaaGreatKActRefusesh
import Derived.Test.YtnlndbanfdjaiaaGreatKActRefusesi
import Derived.Test.YtnlndbanfdjaiaaGreatKActRefusesj
import Derived.Test.YtnlndbanfdjaiaaGreatKActRefusesk
import Derived.Test.YtnlndbanfdjaiaaGreatKActRefusesl
import Derived.Test.YtnlndbanfdjaiaaGreatKActRefusesm
import Derived.Test.YtnlndbanfdjaiaaGreatKActRefusesn
import Derived.Test.YtnlndbanfdjaiaaGreatKActRefuseso
import Derived.Test.YtnlndbanfdjaiaaGreatKWActRefuses
import Derived.Test.YtnlndbanfdjaiaaGreatFActRefuses
import Derived.Test.YtnlndbanfdjaiaaGreatEvH
import Derived.ProofKit
import Derived.OpenShut
namespace Go.Proofs.YtnlndbanfdjaiaaGreat.actRefuses
open Go.ChangeShapes Go.WideShapes Go.ChangeAt Go.RowKit
set_option linter.unusedVariables false

theorem cellsI : Tryz.prog.cellsOf 3 = 1 := by kernel_rfl
theorem cellsO : Tryz.prog.cellsOf 47 = 3 := by kernel_rfl
theorem own : ownKnob Tryz.prog.godebug = none := by kernel_rfl
theorem mixed : Tryz.prog.follows .mixedOrders = true := by kernel_rfl
/-- What is not known: the three numbers. -/
@[reducible] noncomputable def sg (K A B : Int) : Go.Ev.Sg := ⟨fun i => match i with | 0 => K | 1 => A | _ => B, fun _ => .undef⟩
theorem known : ∀ f, Go.Ev.oneKnown 27 f = true → Go.Ev.Known Tryz.prog f := Go.Ev.oneKnown_ok (Go.Ev.fast_known mixed (Go.Ev.noneKnown_ok _) actRefusesWorks)
theorem args [Go.Ev.Sg] {k a b : Go.Ev.V} {K A B : Int} (hk : Go.Ev.VA k (.int .i64 K)) (ha : Go.Ev.VA a (.int .i64 A)) (hb : Go.Ev.VA b (.int .i64 B)) :
    Go.Ev.VAs [Go.Ev.vAgg (Go.Ev.rowV [k, a, b]) 0 3] [.agg [.int .i64 K, .int .i64 A, .int .i64 B]] :=
  .cons (@Go.Ev.VA.ofList _ _ [.int .i64 K, .int .i64 A, .int .i64 B] (.cons hk (.cons ha (.cons hb .nil))) (show 3 ≤ 4180 by omega)) .nil
theorem vals (K A B : Int) : Go.Ev.VRs (fun _ => none) [.agg [.int .i64 K, .int .i64 A, .int .i64 B]] [.agg #[.int .i64 K, .int .i64 A, .int .i64 B]] :=
  ⟨_, [], ⟨[.int .i64 K, .int .i64 A, .int .i64 B], ⟨_, _, rfl, ⟨_, _, rfl, ⟨_, _, rfl, rfl, rfl⟩, rfl⟩, rfl⟩, (by intro y hy; simp at hy; rcases hy with rfl | rfl | rfl <;> rfl), rfl⟩, rfl, rfl⟩
theorem class0 (K A B : Int) (lK : -9223372036854775808 ≤ K ∧ K ≤ 9223372036854775807) (hK : K ≠ 5 ∧ K ≠ 6 ∧ K ≠ 7 ∧ K ≠ 8) (lA : -9223372036854775808 ≤ A ∧ A ≤ 9223372036854775807) (lB : -9223372036854775808 ≤ B ∧ B ≤ 9223372036854775807) (w : World) : Calls Tryz.prog 5 #[.agg #[.int .i64 K, .int .i64 A, .int .i64 B]] w fun e w' => e = .returned (.bool true) ∧ w.keptBut w' (fun _ => False) := by
  letI := sg K A B
  exact Go.Ev.fast_call mixed known (args (Go.Ev.VA.symV (n := K) rfl (by omega) (by omega) (by omega) (by intro m hm; simp at hm; try omega)) (Go.Ev.VA.symV (n := A) rfl (by omega) (by omega) (by omega) (by intro m hm; simp at hm; try omega)) (Go.Ev.VA.symV (n := B) rfl (by omega) (by omega) (by omega) (by intro m hm; simp at hm; try omega))) (vals _ _ _) actRefusesRuns0 w
theorem class1 (K A B : Int) (hK : K = 5) (lA : -9223372036854775808 ≤ A ∧ A ≤ 9223372036854775807) (hA : A ≠ 0 ∧ A ≠ 1) (lB : -9223372036854775808 ≤ B ∧ B ≤ 9223372036854775807) (w : World) : Calls Tryz.prog 5 #[.agg #[.int .i64 K, .int .i64 A, .int .i64 B]] w fun e w' => e = .returned (.bool true) ∧ w.keptBut w' (fun _ => False) := by
  letI := sg K A B
  subst hK
  exact Go.Ev.fast_call mixed known (args (Go.Ev.VA.mkInt .i64 5) (Go.Ev.VA.symV (n := A) rfl (by omega) (by omega) (by omega) (by intro m hm; simp at hm; try omega)) (Go.Ev.VA.symV (n := B) rfl (by omega) (by omega) (by omega) (by intro m hm; simp at hm; try omega))) (vals _ _ _) actRefusesRuns1 w
theorem class2 (K A B : Int) (hK : K = 5) (hA : A = 0) (lB : -9223372036854775808 ≤ B ∧ B ≤ 9223372036854775807) (hB : B ≠ 0) (w : World) : Calls Tryz.prog 5 #[.agg #[.int .i64 K, .int .i64 A, .int .i64 B]] w fun e w' => e = .returned (.bool true) ∧ w.keptBut w' (fun _ => False) := by
  letI := sg K A B
  subst hK; subst hA
  exact Go.Ev.fast_call mixed known (args (Go.Ev.VA.mkInt .i64 5) (Go.Ev.VA.mkInt .i64 0) (Go.Ev.VA.symV (n := B) rfl (by omega) (by omega) (by omega) (by intro m hm; simp at hm; try omega))) (vals _ _ _) actRefusesRuns2 w
theorem class3 (K A B : Int) (hK : K = 5) (hA : A = 0) (hB : B = 0) (w : World) : Calls Tryz.prog 5 #[.agg #[.int .i64 K, .int .i64 A, .int .i64 B]] w fun e w' => e = .returned (.bool true) ∧ w.keptBut w' (fun _ => False) := by
  letI := sg K A B
  subst hK; subst hA; subst hB
  exact Go.Ev.fast_call mixed known (args (Go.Ev.VA.mkInt .i64 5) (Go.Ev.VA.mkInt .i64 0) (Go.Ev.VA.mkInt .i64 0)) (vals _ _ _) actRefusesRuns3 w
theorem class4 (K A B : Int) (hK : K = 5) (hA : A = 1) (lB : -9223372036854775808 ≤ B ∧ B ≤ 9223372036854775807) (hB : B ≠ 0) (w : World) : Calls Tryz.prog 5 #[.agg #[.int .i64 K, .int .i64 A, .int .i64 B]] w fun e w' => e = .returned (.bool true) ∧ w.keptBut w' (fun _ => False) := by
  letI := sg K A B
  subst hK; subst hA
  exact Go.Ev.fast_call mixed known (args (Go.Ev.VA.mkInt .i64 5) (Go.Ev.VA.mkInt .i64 1) (Go.Ev.VA.symV (n := B) rfl (by omega) (by omega) (by omega) (by intro m hm; simp at hm; try omega))) (vals _ _ _) actRefusesRuns4 w
theorem class5 (K A B : Int) (hK : K = 5) (hA : A = 1) (hB : B = 0) (w : World) : Calls Tryz.prog 5 #[.agg #[.int .i64 K, .int .i64 A, .int .i64 B]] w fun e w' => e = .returned (.bool true) ∧ w.keptBut w' (fun _ => False) := by
  letI := sg K A B
  subst hK; subst hA; subst hB
  exact Go.Ev.fast_call mixed known (args (Go.Ev.VA.mkInt .i64 5) (Go.Ev.VA.mkInt .i64 1) (Go.Ev.VA.mkInt .i64 0)) (vals _ _ _) actRefusesRuns5 w
theorem class6 (K A B : Int) (hK : K = 6) (lA : -9223372036854775808 ≤ A ∧ A ≤ 9223372036854775807) (hA : A ≠ 0) (lB : -9223372036854775808 ≤ B ∧ B ≤ 9223372036854775807) (w : World) : Calls Tryz.prog 5 #[.agg #[.int .i64 K, .int .i64 A, .int .i64 B]] w fun e w' => e = .returned (.bool true) ∧ w.keptBut w' (fun _ => False) := by
  letI := sg K A B
  subst hK
  exact Go.Ev.fast_call mixed known (args (Go.Ev.VA.mkInt .i64 6) (Go.Ev.VA.symV (n := A) rfl (by omega) (by omega) (by omega) (by intro m hm; simp at hm; try omega)) (Go.Ev.VA.symV (n := B) rfl (by omega) (by omega) (by omega) (by intro m hm; simp at hm; try omega))) (vals _ _ _) actRefusesRuns6 w
theorem class7 (K A B : Int) (hK : K = 6) (hA : A = 0) (lB : -9223372036854775808 ≤ B ∧ B ≤ 9223372036854775807) (hB : B ≠ 0) (w : World) : Calls Tryz.prog 5 #[.agg #[.int .i64 K, .int .i64 A, .int .i64 B]] w fun e w' => e = .returned (.bool true) ∧ w.keptBut w' (fun _ => False) := by
  letI := sg K A B
  subst hK; subst hA
  exact Go.Ev.fast_call mixed known (args (Go.Ev.VA.mkInt .i64 6) (Go.Ev.VA.mkInt .i64 0) (Go.Ev.VA.symV (n := B) rfl (by omega) (by omega) (by omega) (by intro m hm; simp at hm; try omega))) (vals _ _ _) actRefusesRuns7 w
theorem class8 (K A B : Int) (hK : K = 6) (hA : A = 0) (hB : B = 0) (w : World) : Calls Tryz.prog 5 #[.agg #[.int .i64 K, .int .i64 A, .int .i64 B]] w fun e w' => e = .returned (.bool true) ∧ w.keptBut w' (fun _ => False) := by
  letI := sg K A B
  subst hK; subst hA; subst hB
  exact Go.Ev.fast_call mixed known (args (Go.Ev.VA.mkInt .i64 6) (Go.Ev.VA.mkInt .i64 0) (Go.Ev.VA.mkInt .i64 0)) (vals _ _ _) actRefusesRuns8 w
theorem class9 (K A B : Int) (hK : K = 7) (lA : -9223372036854775808 ≤ A ∧ A ≤ 9223372036854775807) (hA : A ≠ 0) (lB : -9223372036854775808 ≤ B ∧ B ≤ 9223372036854775807) (w : World) : Calls Tryz.prog 5 #[.agg #[.int .i64 K, .int .i64 A, .int .i64 B]] w fun e w' => e = .returned (.bool true) ∧ w.keptBut w' (fun _ => False) := by
  letI := sg K A B
  subst hK
  exact Go.Ev.fast_call mixed known (args (Go.Ev.VA.mkInt .i64 7) (Go.Ev.VA.symV (n := A) rfl (by omega) (by omega) (by omega) (by intro m hm; simp at hm; try omega)) (Go.Ev.VA.symV (n := B) rfl (by omega) (by omega) (by omega) (by intro m hm; simp at hm; try omega))) (vals _ _ _) actRefusesRuns9 w
theorem class10 (K A B : Int) (hK : K = 7) (hA : A = 0) (lB : -9223372036854775808 ≤ B ∧ B ≤ 9223372036854775807) (hB : B ≠ 0) (w : World) : Calls Tryz.prog 5 #[.agg #[.int .i64 K, .int .i64 A, .int .i64 B]] w fun e w' => e = .returned (.bool true) ∧ w.keptBut w' (fun _ => False) := by
  letI := sg K A B
  subst hK; subst hA
  exact Go.Ev.fast_call mixed known (args (Go.Ev.VA.mkInt .i64 7) (Go.Ev.VA.mkInt .i64 0) (Go.Ev.VA.symV (n := B) rfl (by omega) (by omega) (by omega) (by intro m hm; simp at hm; try omega))) (vals _ _ _) actRefusesRuns10 w
theorem class11 (K A B : Int) (hK : K = 7) (hA : A = 0) (hB : B = 0) (w : World) : Calls Tryz.prog 5 #[.agg #[.int .i64 K, .int .i64 A, .int .i64 B]] w fun e w' => e = .returned (.bool true) ∧ w.keptBut w' (fun _ => False) := by
  letI := sg K A B
  subst hK; subst hA; subst hB
  exact Go.Ev.fast_call mixed known (args (Go.Ev.VA.mkInt .i64 7) (Go.Ev.VA.mkInt .i64 0) (Go.Ev.VA.mkInt .i64 0)) (vals _ _ _) actRefusesRuns11 w
theorem class12 (K A B : Int) (hK : K = 8) (lA : -9223372036854775808 ≤ A ∧ A ≤ 9223372036854775807) (hA : A ≠ 4) (lB : -9223372036854775808 ≤ B ∧ B ≤ 9223372036854775807) (w : World) : Calls Tryz.prog 5 #[.agg #[.int .i64 K, .int .i64 A, .int .i64 B]] w fun e w' => e = .returned (.bool true) ∧ w.keptBut w' (fun _ => False) := by
  letI := sg K A B
  subst hK
  exact Go.Ev.fast_call mixed known (args (Go.Ev.VA.mkInt .i64 8) (Go.Ev.VA.symV (n := A) rfl (by omega) (by omega) (by omega) (by intro m hm; simp at hm; try omega)) (Go.Ev.VA.symV (n := B) rfl (by omega) (by omega) (by omega) (by intro m hm; simp at hm; try omega))) (vals _ _ _) actRefusesRuns12 w
theorem class13 (K A B : Int) (hK : K = 8) (hA : A = 4) (lB : -9223372036854775808 ≤ B ∧ B ≤ 9223372036854775807) (hB : B ≠ 0) (w : World) : Calls Tryz.prog 5 #[.agg #[.int .i64 K, .int .i64 A, .int .i64 B]] w fun e w' => e = .returned (.bool true) ∧ w.keptBut w' (fun _ => False) := by
  letI := sg K A B
  subst hK; subst hA
  exact Go.Ev.fast_call mixed known (args (Go.Ev.VA.mkInt .i64 8) (Go.Ev.VA.mkInt .i64 4) (Go.Ev.VA.symV (n := B) rfl (by omega) (by omega) (by omega) (by intro m hm; simp at hm; try omega))) (vals _ _ _) actRefusesRuns13 w
theorem class14 (K A B : Int) (hK : K = 8) (hA : A = 4) (hB : B = 0) (w : World) : Calls Tryz.prog 5 #[.agg #[.int .i64 K, .int .i64 A, .int .i64 B]] w fun e w' => e = .returned (.bool true) ∧ w.keptBut w' (fun _ => False) := by
  letI := sg K A B
  subst hK; subst hA; subst hB
  exact Go.Ev.fast_call mixed known (args (Go.Ev.VA.mkInt .i64 8) (Go.Ev.VA.mkInt .i64 4) (Go.Ev.VA.mkInt .i64 0)) (vals _ _ _) actRefusesRuns14 w
theorem walk (K A B : Int) (lK : -9223372036854775808 ≤ K ∧ K ≤ 9223372036854775807) (lA : -9223372036854775808 ≤ A ∧ A ≤ 9223372036854775807) (lB : -9223372036854775808 ≤ B ∧ B ≤ 9223372036854775807) (w : World) :
    Calls Tryz.prog 5 #[.agg #[.int .i64 K, .int .i64 A, .int .i64 B]] w fun e w' => e = .returned (.bool true) ∧ w.keptBut w' (fun _ => False) := by
  by_cases h5 : K = 5
  · by_cases a0 : A = 0
    · by_cases b0 : B = 0
      · exact class3 K A B h5 a0 b0 w
      · exact class2 K A B h5 a0 lB b0 w
    · by_cases a1 : A = 1
      · by_cases b0 : B = 0
        · exact class5 K A B h5 a1 b0 w
        · exact class4 K A B h5 a1 lB b0 w
      · exact class1 K A B h5 lA ⟨a0, a1⟩ lB w
  by_cases h6 : K = 6
  · by_cases a0 : A = 0
    · by_cases b0 : B = 0
      · exact class8 K A B h6 a0 b0 w
      · exact class7 K A B h6 a0 lB b0 w
    · exact class6 K A B h6 lA a0 lB w
  by_cases h7 : K = 7
  · by_cases a0 : A = 0
    · by_cases b0 : B = 0
      · exact class11 K A B h7 a0 b0 w
      · exact class10 K A B h7 a0 lB b0 w
    · exact class9 K A B h7 lA a0 lB w
  by_cases h8 : K = 8
  · by_cases a0 : A = 4
    · by_cases b0 : B = 0
      · exact class14 K A B h8 a0 b0 w
      · exact class13 K A B h8 a0 lB b0 w
    · exact class12 K A B h8 lA a0 lB w
  exact class0 K A B lK ⟨h5, h6, h7, h8⟩ lA lB w

set_option maxRecDepth 100000 in
/-- An option's three numbers. -/
theorem opened {H : Type} {enc : TypeId × Value → H} {W : World} {base : Nat} {spare : Nat → Bool} {held : Bool} {v : Value} {d : DataW H} {p : List MemPlace} (hv : Value.okWide Tryz.prog W .any base 47 v)
    (hd : DataW.Trod enc Tryz.prog W 0 spare held 47 v d p) : ∃ K A B : Int, v = .agg #[.int .i64 K, .int .i64 A, .int .i64 B] ∧ p = [] ∧ ((Lit.int .i64 K).wf = true ∧ (Lit.int .i64 A).wf = true ∧ (Lit.int .i64 B).wf = true) ∧
      ∀ (W' : World) (sp : Nat → Bool) (hd : Bool), DataW.Trod enc Tryz.prog W' 0 sp hd 47 v d [] := by
  obtain ⟨cs, rfl, hs⟩ := okWide_struct Tryz.underlying47 hv
  obtain ⟨fuel, hf⟩ := hd
  have hf : DataW.trod enc Tryz.prog W 0 spare held fuel 47 cs.toList = some (d, p) := hf
  obtain ⟨xs, n, rfl, hx, hl, hxl, hfld⟩ := DataW.trod_struct Tryz.underlying47 hf
  have c3 : Tryz.prog.cellsOf 3 = 1 := cellsI
  have c47 : Tryz.prog.cellsOf 47 = 3 := cellsO
  obtain ⟨l, rfl⟩ : ∃ l : List Value, cs = l.toArray := ⟨cs.toList, by simp⟩
  simp only [List.size_toArray] at hs
  rw [c47] at hs
  match l, hs, xs, hxl with
  | [x0, x1, x2], _, [y0, y1, y2], _ =>
    have h0 := hfld 0 _ rfl
    have h1 := hfld 1 _ rfl
    have h2 := hfld 2 _ rfl
    have h0 : DataW.trod enc Tryz.prog W 0 spare held n 3 (([x0, x1, x2].drop 0).take (Tryz.prog.cellsOf 3)) = some y0 := h0
    have h1 : DataW.trod enc Tryz.prog W 0 spare held n 3 (([x0, x1, x2].drop 1).take (Tryz.prog.cellsOf 3)) = some y1 := h1
    have h2 : DataW.trod enc Tryz.prog W 0 spare held n 3 (([x0, x1, x2].drop 2).take (Tryz.prog.cellsOf 3)) = some y2 := h2
    rw [c3] at h0 h1 h2
    obtain ⟨K, e0, rfl, w0⟩ := DataW.trod_int Tryz.underlying3 h0
    obtain ⟨A, e1, rfl, w1⟩ := DataW.trod_int Tryz.underlying3 h1
    obtain ⟨B, e2, rfl, w2⟩ := DataW.trod_int Tryz.underlying3 h2
    have e0 : [x0] = [.int .i64 K] := e0
    have e1 : [x1] = [.int .i64 A] := e1
    have e2 : [x2] = [.int .i64 B] := e2
    cases e0; cases e1; cases e2
    simp only [Prod.mk.injEq] at hx
    obtain ⟨rfl, rfl⟩ := hx
    refine ⟨K, A, B, rfl, rfl, ⟨w0, w1, w2⟩, fun W' sp hd => ⟨2, ?_⟩⟩
    have t0 : DataW.trod enc Tryz.prog W' 0 sp hd 1 3 (([Value.int .i64 K, .int .i64 A, .int .i64 B].drop 0).take (Tryz.prog.cellsOf 3)) = some (.lit (.int .i64 K), []) := by rw [c3]; exact trod_int_mk 0 Tryz.underlying3 w0
    have t1 : DataW.trod enc Tryz.prog W' 0 sp hd 1 3 (([Value.int .i64 K, .int .i64 A, .int .i64 B].drop 1).take (Tryz.prog.cellsOf 3)) = some (.lit (.int .i64 A), []) := by rw [c3]; exact trod_int_mk 0 Tryz.underlying3 w1
    have t2 : DataW.trod enc Tryz.prog W' 0 sp hd 1 3 (([Value.int .i64 K, .int .i64 A, .int .i64 B].drop 2).take (Tryz.prog.cellsOf 3)) = some (.lit (.int .i64 B), []) := by rw [c3]; exact trod_int_mk 0 Tryz.underlying3 w2
    refine trod_struct_mk (cs := [Value.int .i64 K, .int .i64 A, .int .i64 B]) (xs := [(.lit (.int .i64 K), []), (.lit (.int .i64 A), []), (.lit (.int .i64 B), [])]) Tryz.underlying47 (by rw [c47]; rfl) ?_
    simp only [List.mapM_cons, List.mapM_nil]
    rw [t0, t1, t2]
    rfl
set_option maxRecDepth 100000 in
theorem lifted (os : Os) (started : os.Started) (H : Type) (enc : TypeId × Value → H) :
    ReturnsInHanded {} Tryz.checked os 5 .any (Rows.actRefusesSpec.pre6 enc Tryz.prog Tryz.f5 Rows.actRefusesRow.domain false) (Rows.actRefusesSpec.post enc Tryz.prog Tryz.f5 false true false false) := by
  refine returnsInHanded_of_change (C := Tryz.checked) own started (by kernel_rfl) Tryz.func5
    (ChangeSpec.witness6 (enc := enc) (C := Tryz.checked) false ⟨#[], #[.agg #[.int .i64 0, .int .i64 0, .int .i64 0]], []⟩ 8 (by kernel_rfl) (by kernel_rfl) (by kernel_rfl) (by kernel_rfl)) ?_
  intro W base args ds gs before hval0 hW hcnd _
  have hW' := hW
  obtain ⟨p, q, hA0, hV, rfl, hfz, hnd⟩ := hW
  have hA : DataW.TrodAll enc Tryz.prog W 0 (fun _ => true) true Tryz.f5.params.toList args.toList ds p := hA0
  rw [Tryz.params5] at hA
  obtain ⟨v, d, rfl, rfl, hd⟩ := trodAll_one hA
  obtain ⟨rfl, rfl⟩ := trodVars_none hV
  obtain ⟨K, A, B, rfl, rfl, ⟨w0, w1, w2⟩, hback⟩ := opened (hval0 0 _ _ rfl rfl) hd
  simp only [List.append_nil] at hW'
  refine (walk K A B (Go.bounds_i64 w0) (Go.bounds_i64 w1) (Go.bounds_i64 w2) W).mono fun e W' ⟨he, hg⟩ => ?_
  subst he
  exact ⟨_, rfl, ⟨_, [], [], [], [], [], hW', trodAll_cons_mk (shut_bool Tryz.underlying4 _) trodAll_mk0, trodAll_mk1 (hback _ _ _), rfl, World.keptBut_mono (fun _ hp => hp.elim) hg, fun h => absurd h (by decide)⟩⟩

theorem isNamed : Tryz.pinned.checked.prog.funcNamed Rows.actRefusesRow.func = some 5 := by kernel_rfl
theorem isWrapped : Tryz.f5.isWrapper Tryz.pinned.checked.prog Rows.actRefusesRow.wrapper Rows.actRefusesRow.mainSum := by
  unfold Func.isWrapper
  first | (rw [if_pos (by decide +kernel)]; kernel_rfl) | (rw [if_neg (by decide +kernel)]; exact ⟨rfl, rfl⟩)

theorem over : Rows.actRefusesRow.holds Tryz.pinned (OpenSpec.ofChange Rows.actRefusesSpec) :=
  OpenClaim.holds_of_wide 5 Tryz.f5 rfl rfl rfl rfl rfl rfl rfl ⟨rfl, rfl, rfl, rfl, rfl⟩ rfl rfl rfl rfl rfl isNamed Tryz.func5 facts
    (of_decide_eq_true (by kernel_rfl)) isWrapped
    (fun os started H enc _ => lifted os started H enc)

theorem proved : Rows.ActRefusesSaid := over
#print axioms proved
end Go.Proofs.YtnlndbanfdjaiaaGreat.actRefuses
