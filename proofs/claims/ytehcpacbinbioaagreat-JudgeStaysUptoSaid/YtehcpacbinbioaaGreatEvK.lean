/- A machine that is proved sound, and walks by it. Conditions: none. -/
import Derived.Test.YtehcpacbinbioaaGreatEvI
import Derived.Test.YtehcpacbinbioaaGreatEvJ
set_option linter.all false
set_option maxHeartbeats 8000000
namespace Go.Ev
section
variable {P : Program} {K : Orc} {rd : Option Nat} {nt : Nat} {l : Sl} {ds : List ADef} {s : SH} {Q Qn Qr : Po} {Qe : Nat → Po} {F : Nat → FuncId} {T : Nat → TypeId}
theorem edR_get {R : List ED} {X : List (List AV)} {i : Nat} (h : i < R.length) : (edR R ++ X)[i]? = some (R[i]).row := by
  rw [List.getElem?_append_left (by simpa [edR] using h), edR, List.getElem?_map, List.getElem?_eq_getElem h]; rfl
theorem edR_swap {R : List ED} {X : List (List AV)} {i j : Nat} (hi : i < R.length) (hj : j < R.length) : (((edR R ++ X).set i (R[j]).row).set j (R[i]).row) = edR ((R.set i R[j]).set j R[i]) ++ X := by
  have hl : (edR R).length = R.length := by simp [edR]
  rw [List.set_append_left _ _ (by omega), List.set_append_left _ _ (by rw [List.length_set]; omega)]
  unfold edR
  rw [List.map_set, List.map_set]
theorem subp {p : Nat} (h : p + 1 ≤ 9223372036854775807) : binV .sub (iv (.ofNat (p + 1))) (AV.int .i64 (.ofNat 1)) = some (iv (.ofNat p)) := sub_n (by omega) h
@[reducible] def insC (bq n c : Nat) (sl : Bool) (a b : Nat) (sv : AV) (F : Nat → FuncId) (i : Nat) : Sl := [(0, .slice (some ⟨bq, 0, 0⟩) n c sl 4), (1, iv (.ofNat a)), (2, iv (.ofNat b)), (3, .func (F 175) [sv] []), (8, iv (.ofNat i))]
theorem insert_ok (hC : BaseCh P K F T) (hS : BaseSl P K F T) (hT : TyC P T) {L : List ED} {X : List (List AV)} {bq c a b : Nat} {sl : Bool} {sv : AV} {t : SH} (hb : b ≤ L.length) (hn : L.length ≤ big) (ha : a ≤ big) :
    Tri P K (F 237) [.slice (some ⟨bq, 0, 0⟩) L.length c sl 4, iv (.ofNat a), iv (.ofNat b), .func (F 175) [sv] []] ((bq, .r false (edR L ++ X) 4) :: t) (fun _ s' => ∃ m R, s' = m ++ ((bq, .r false (edR R ++ X) 4) :: t) ∧ R.length = L.length) := by
  refine hS.f237.tri ?_
  unfold a237
  simp only [big] at hn ha
  refine WP.seq (WP.ops (WO.r (.mv rfl) (WO.r (.arith rfl rfl (add_n (by omega))) (WO.r (.mv rfl) (WO.nil (WP.block ?_))))))
  refine WP.loop (fun k l ds s' => ds = [] ∧ ∃ i m R, k = b - i ∧ s' = m ++ ((bq, .r false (edR R ++ X) 4) :: t) ∧ R.length = L.length ∧ ∀ j w, lk (insC bq L.length c sl a b sv F i) j = some w → lk l j = some w) ?_ (n := b - (a + 1)) ⟨rfl, a + 1, [], L, rfl, rfl, rfl, sbs⟩
  rintro k l ds s' ⟨rfl, i, m, R, rfl, rfl, hR, hl⟩
  refine WP.weak hl (fun _ _ h => h) ?_
  refine WP.seq (WP.seq (WP.ops (WO.r (.mv rfl) (WO.r (.mv rfl) (WO.r (.arith rfl rfl rfl) (WO.nil (WP.cond rfl (fun ht => WP.skip ?_) (fun ht => WP.exit (Fin.mk .nil ⟨m, R, rfl, hR⟩)))))))))
  have hib : i < b := blt_iff.1 ht
  refine WP.seq (WP.block (WP.seq (WP.ops (WO.r (.mv rfl) (WO.r (.mv rfl) (WO.nil (WP.block ?_)))))))
  refine WP.loop (fun k l ds s' => ds = [] ∧ ∃ j m R, k = j ∧ j < b ∧ s' = m ++ ((bq, .r false (edR R ++ X) 4) :: t) ∧ R.length = L.length ∧ ∀ q w, lk ((9, iv (.ofNat j)) :: insC bq L.length c sl a b sv F i) q = some w → lk l q = some w) ?_ (n := i) ⟨rfl, i, m, R, rfl, hib, rfl, hR, sbs⟩
  rintro j l ds s' ⟨rfl, _, m, R, rfl, hjb, rfl, hR, hl⟩
  refine WP.weak hl (fun _ _ h => h) ?_
  have hRl : R.length = L.length := hR
  have out : ∀ {l2 : Sl} {m R}, (∀ q w, lk (insC bq L.length c sl a b sv F i) q = some w → lk l2 q = some w) → R.length = L.length → WP P K none 53 (.ops [⟨(some 15), (.mv (.tmp 8)), none⟩, ⟨(some 16), (.arith .add (.tmp 15) (.const (.int .i64 (.ofNat 1)))), none⟩, ⟨(some 8), (.mv (.tmp 16)), none⟩]) l2 [] (m ++ ((bq, .r false (edR R ++ X) 4) :: t)) (fun l ds s => ∃ q, q < b - i ∧ ds = [] ∧ ∃ i m R, q = b - i ∧ s = m ++ ((bq, .r false (edR R ++ X) 4) :: t) ∧ R.length = L.length ∧ ∀ j w, lk (insC bq L.length c sl a b sv F i) j = some w → lk l j = some w) (fun q l ds s => match Nat.beq q 0 with | true => Fin P [] (fun _ s' => ∃ m R, s' = m ++ ((bq, .r false (edR R ++ X) 4) :: t) ∧ R.length = L.length) l ds s | false => False) (Fin P [] (fun _ s' => ∃ m R, s' = m ++ ((bq, .r false (edR R ++ X) 4) :: t) ∧ R.length = L.length)) := by
    intro l2 m R h1 h2
    refine WP.weak h1 (fun _ _ h => h) ?_
    refine WP.ops (WO.r (.mv rfl) (WO.r (.arith rfl rfl (add_n (by omega))) (WO.r (.mv rfl) (WO.nil ?_))))
    exact ⟨b - (i + 1), by omega, rfl, i + 1, m, R, rfl, rfl, h2, sbs⟩
  refine WP.seq (WP.seq (WP.drawn0 (WD.pu (.mv rfl) (WD.pu (.mv rfl) (WD.pu (.arith rfl rfl (gtr_i _ _)) ?_)))))
  by_cases haj : a < j
  · rw [decide_eq_true (show (Int.ofNat a) < (Int.ofNat j) from by show ((a : Nat) : Int) < ((j : Nat) : Int); omega)]
    obtain ⟨p, rfl⟩ : ∃ p, j = p + 1 := ⟨j - 1, by omega⟩
    refine WD.pu (.mv rfl) (WD.yes (WD.pu (.mv rfl) (WD.yes (WD.pu (.mv rfl) (WD.yes (WD.pu (.mv rfl) (WD.yes (WD.pu (.iaddrS rfl rfl (by omega) (by omega)) (WD.yes (WD.ld rfl .nil (.load rfl (.app .here) (r := Nat.add 0 (p + 1)) (by rw [show Nat.add 0 (p + 1) = p + 1 from Nat.zero_add _]; exact edR_get (by omega)) rfl rfl) ?_))))))))))
    refine WD.yes (WD.pu (.mv rfl) (WD.yes (WD.pu (.mv rfl) (WD.yes (WD.pu (.arith rfl rfl (subp (by omega))) (WD.yes (WD.pu (.iaddrS rfl rfl (by omega) (by omega)) (WD.yes (WD.ld rfl .nil (.load rfl (.app .here) (r := Nat.add 0 p) (by rw [show Nat.add 0 p = p from Nat.zero_add _]; exact edR_get (by omega)) rfl rfl) ?_)))))))))
    refine WD.yes (WD.ch .nil (WS.callF (first := [sv]) (vs := [.agg (R[p + 1]).row, .agg (R[p]).row]) (cap := []) rfl rfl (before_ok hC hS hT) ?_))
    rintro w _ ⟨n, rfl, m2, rfl⟩
    refine WD.yes (WD.pu (.arith rfl rfl (lss_i n 0)) (WD.pu (.pick1 rfl rfl) (WD.nil .nil ?_ (fun o h => nomatch h))))
    refine WP.cond rfl (fun _ => WP.skip ?_) (fun _ => ?_)
    · -- they change places
      refine WP.seq (WP.block (WP.drawn0 ?_))
      refine WD.pu (.mv rfl) (WD.pu (.mv rfl) (WD.pu (.mv rfl) (WD.pu (.mv rfl) (WD.pu (.arith rfl rfl (subp (by omega))) (WD.pu (.mv rfl) (WD.pu (.mv rfl) (WD.pu (.arith rfl rfl (subp (by omega))) (WD.pu (.iaddrS rfl rfl (by omega) (by omega)) (WD.ld rfl .nil (.load rfl (.app (.app .here)) (r := Nat.add 0 p) (by rw [show Nat.add 0 p = p from Nat.zero_add _]; exact edR_get (by omega)) rfl rfl) ?_)))))))))
      refine WD.pu (.mv rfl) (WD.pu (.mv rfl) (WD.pu (.iaddrS rfl rfl (by omega) (by omega)) (WD.ld rfl .nil (.load rfl (.app (.app .here)) (r := Nat.add 0 (p + 1)) (by rw [show Nat.add 0 (p + 1) = p + 1 from Nat.zero_add _]; exact edR_get (by omega)) rfl rfl) (WD.pu (.iaddrS rfl rfl (by omega) (by omega)) ?_))))
      refine WD.ch .nil (WS.store (row' := (R[p]).row) rfl rfl rfl (.app (.app .here)) (r := Nat.add 0 (p + 1)) (by rw [show Nat.add 0 (p + 1) = p + 1 from Nat.zero_add _]; exact edR_get (by omega)) rfl (WD.pu (.iaddrS rfl rfl (by omega) (by omega)) ?_))
      refine WD.ch .nil (WS.store (row' := (R[p + 1]).row) rfl rfl rfl (.app (.app .here)) (r := Nat.add 0 p) (by rw [show Nat.add 0 p = p from Nat.zero_add _, show Nat.add 0 (p + 1) = p + 1 from Nat.zero_add _, List.getElem?_set_ne (by omega)]; exact edR_get (by omega)) rfl (WD.nil .nil ?_ (fun o h => nomatch h)))
      have hsw : ((edR R ++ X).set (Nat.add 0 (p + 1)) (R[p]).row).set (Nat.add 0 p) (R[p + 1]).row = edR ((R.set (p + 1) R[p]).set p R[p + 1]) ++ X := by
        rw [show Nat.add 0 p = p from Nat.zero_add _, show Nat.add 0 (p + 1) = p + 1 from Nat.zero_add _]
        exact edR_swap (by omega) (by omega)
      rw [hsw]
      refine WP.ops (WO.r (.mv rfl) (WO.r (.arith rfl rfl (subp (by omega))) (WO.r (.mv rfl) (WO.nil ?_))))
      refine ⟨p, by omega, rfl, p, m2 ++ m, _, rfl, by omega, (List.append_assoc ..).symm, by simp [hR], sbs⟩
    · refine WP.exit ?_
      refine WP.weak (l' := insC bq L.length c sl a b sv F i) (sbs) (fun _ _ h => h) ?_
      have := @out (insC bq L.length c sl a b sv F i) (m2 ++ m) R (fun _ _ h => h) hR
      rw [List.append_assoc] at this
      exact this
  · rw [decide_eq_false (show ¬ (Int.ofNat a) < (Int.ofNat j) from by show ¬ ((a : Nat) : Int) < ((j : Nat) : Int); omega)]
    refine WD.pu (.mv rfl) (WD.skip (WD.skip (WD.skip (WD.skip (WD.skip (WD.skip (WD.skip (WD.skip (WD.skip (WD.skip (WD.skipc rfl rfl (WD.skip (WD.pu (.pick0 rfl rfl) (WD.nil .nil ?_ (fun o h => nomatch h)))))))))))))))
    refine WP.cond rfl (fun h => by cases h) (fun _ => WP.exit ?_)
    exact out (sbs) hR
end
end Go.Ev
set_option maxHeartbeats 8000000
namespace Go.Ev
def a238A (F : Nat → FuncId) (T : Nat → TypeId) : AC := (.seq (.seq (.ops [⟨(some 31), (.mv (.tmp 10)), none⟩, ⟨(some 32), (.mv (.tmp 11)), none⟩, ⟨(some 33), (.arith .lss (.tmp 31) (.tmp 32)), none⟩]) (.cond (.tmp 33) .skip (.exit 0))) (.block 1 (.seq (.ops [⟨(some 34), (.mv (.tmp 10)), none⟩, ⟨(some 35), (.mv (.tmp 11)), none⟩, ⟨(some 36), (.arith .add (.tmp 34) (.tmp 35)), none⟩, ⟨(some 37), (.convI .u64 (.tmp 36)), none⟩, ⟨(some 38), (.arith .shr (.tmp 37) (.const (.int .u64 (.ofNat 1)))), none⟩, ⟨(some 39), (.convI .i64 (.tmp 38)), none⟩, ⟨(some 12), (.mv (.tmp 39)), none⟩]) (.seq (.drawn 0 [⟨⟨(some 40), (.mv (.tmp 4)), none⟩, .pure, 0, 0, 0⟩, ⟨⟨(some 41), (.mv (.tmp 0)), none⟩, .pure, 0, 0, 0⟩, ⟨⟨(some 42), (.mv (.tmp 12)), none⟩, .pure, 0, 0, 0⟩, ⟨⟨(some 43), (.iaddrS 4 (.tmp 41) (.tmp 42)), none⟩, .pure, 0, 0, 6⟩, ⟨⟨(some 44), (.load true 4 (.tmp 43)), none⟩, .read, 0, 0, 14⟩, ⟨⟨(some 45), (.mv (.tmp 0)), none⟩, .pure, 0, 0, 0⟩, ⟨⟨(some 46), (.mv (.tmp 1)), none⟩, .pure, 0, 0, 0⟩, ⟨⟨(some 47), (.iaddrS 4 (.tmp 45) (.tmp 46)), none⟩, .pure, 0, 0, 96⟩, ⟨⟨(some 48), (.load true 4 (.tmp 47)), none⟩, .read, 0, 0, 224⟩, ⟨⟨(some 49), (.call (.tmp 40) [(.tmp 44), (.tmp 48)]), none⟩, .chain, 0, 0, 511⟩, ⟨⟨(some 50), (.arith .lss (.tmp 49) (.const (.int .i64 (.ofNat 0)))), none⟩, .pure, 0, 0, 1023⟩]) (.cond (.tmp 50) (.ops [⟨(some 51), (.mv (.tmp 12)), none⟩, ⟨(some 52), (.arith .add (.tmp 51) (.const (.int .i64 (.ofNat 1)))), none⟩, ⟨(some 10), (.mv (.tmp 52)), none⟩]) (.ops [⟨(some 53), (.mv (.tmp 12)), none⟩, ⟨(some 11), (.mv (.tmp 53)), none⟩]))))))
def a238B (F : Nat → FuncId) (T : Nat → TypeId) : AC := (.seq (.seq (.ops [⟨(some 55), (.mv (.tmp 13)), none⟩, ⟨(some 56), (.mv (.tmp 10)), none⟩, ⟨(some 57), (.arith .sub (.tmp 56) (.const (.int .i64 (.ofNat 1)))), none⟩, ⟨(some 58), (.arith .lss (.tmp 55) (.tmp 57)), none⟩]) (.cond (.tmp 58) .skip (.exit 2))) (.seq (.block 3 (.drawn 0 [⟨⟨(some 61), (.mv (.tmp 0)), none⟩, .pure, 0, 0, 0⟩, ⟨⟨(some 62), (.mv (.tmp 13)), none⟩, .pure, 0, 0, 0⟩, ⟨⟨(some 63), (.mv (.tmp 0)), none⟩, .pure, 0, 0, 0⟩, ⟨⟨(some 64), (.mv (.tmp 13)), none⟩, .pure, 0, 0, 0⟩, ⟨⟨(some 65), (.arith .add (.tmp 64) (.const (.int .i64 (.ofNat 1)))), none⟩, .pure, 0, 0, 8⟩, ⟨⟨(some 66), (.mv (.tmp 0)), none⟩, .pure, 0, 0, 0⟩, ⟨⟨(some 67), (.mv (.tmp 13)), none⟩, .pure, 0, 0, 0⟩, ⟨⟨(some 68), (.arith .add (.tmp 67) (.const (.int .i64 (.ofNat 1)))), none⟩, .pure, 0, 0, 64⟩, ⟨⟨(some 69), (.iaddrS 4 (.tmp 66) (.tmp 68)), none⟩, .pure, 0, 0, 224⟩, ⟨⟨(some 70), (.load true 4 (.tmp 69)), none⟩, .read, 0, 0, 480⟩, ⟨⟨(some 71), (.mv (.tmp 0)), none⟩, .pure, 0, 0, 0⟩, ⟨⟨(some 72), (.mv (.tmp 13)), none⟩, .pure, 0, 0, 0⟩, ⟨⟨(some 73), (.iaddrS 4 (.tmp 71) (.tmp 72)), none⟩, .pure, 0, 0, 3072⟩, ⟨⟨(some 74), (.load true 4 (.tmp 73)), none⟩, .read, 0, 0, 7168⟩, ⟨⟨(some 75), (.iaddrS 4 (.tmp 61) (.tmp 62)), none⟩, .pure, 0, 0, 16355⟩, ⟨⟨none, (.store 4 (.tmp 75) (.tmp 70)), none⟩, .chain, 0, 0, 32739⟩, ⟨⟨(some 76), (.iaddrS 4 (.tmp 63) (.tmp 65)), none⟩, .pure, 0, 0, 65535⟩, ⟨⟨none, (.store 4 (.tmp 76) (.tmp 74)), none⟩, .chain, 0, 0, 131071⟩])) (.ops [⟨(some 59), (.mv (.tmp 13)), none⟩, ⟨(some 60), (.arith .add (.tmp 59) (.const (.int .i64 (.ofNat 1)))), none⟩, ⟨(some 13), (.mv (.tmp 60)), none⟩])))
def a238C (F : Nat → FuncId) (T : Nat → TypeId) : AC := (.seq (.seq (.ops [⟨(some 83), (.mv (.tmp 14)), none⟩, ⟨(some 84), (.mv (.tmp 15)), none⟩, ⟨(some 85), (.arith .lss (.tmp 83) (.tmp 84)), none⟩]) (.cond (.tmp 85) .skip (.exit 4))) (.block 5 (.seq (.ops [⟨(some 86), (.mv (.tmp 14)), none⟩, ⟨(some 87), (.mv (.tmp 15)), none⟩, ⟨(some 88), (.arith .add (.tmp 86) (.tmp 87)), none⟩, ⟨(some 89), (.convI .u64 (.tmp 88)), none⟩, ⟨(some 90), (.arith .shr (.tmp 89) (.const (.int .u64 (.ofNat 1)))), none⟩, ⟨(some 91), (.convI .i64 (.tmp 90)), none⟩, ⟨(some 16), (.mv (.tmp 91)), none⟩]) (.seq (.drawn 0 [⟨⟨(some 92), (.mv (.tmp 4)), none⟩, .pure, 0, 0, 0⟩, ⟨⟨(some 93), (.mv (.tmp 0)), none⟩, .pure, 0, 0, 0⟩, ⟨⟨(some 94), (.mv (.tmp 2)), none⟩, .pure, 0, 0, 0⟩, ⟨⟨(some 95), (.iaddrS 4 (.tmp 93) (.tmp 94)), none⟩, .pure, 0, 0, 6⟩, ⟨⟨(some 96), (.load true 4 (.tmp 95)), none⟩, .read, 0, 0, 14⟩, ⟨⟨(some 97), (.mv (.tmp 0)), none⟩, .pure, 0, 0, 0⟩, ⟨⟨(some 98), (.mv (.tmp 16)), none⟩, .pure, 0, 0, 0⟩, ⟨⟨(some 99), (.iaddrS 4 (.tmp 97) (.tmp 98)), none⟩, .pure, 0, 0, 96⟩, ⟨⟨(some 100), (.load true 4 (.tmp 99)), none⟩, .read, 0, 0, 224⟩, ⟨⟨(some 101), (.call (.tmp 92) [(.tmp 96), (.tmp 100)]), none⟩, .chain, 0, 0, 511⟩, ⟨⟨(some 102), (.arith .lss (.tmp 101) (.const (.int .i64 (.ofNat 0)))), none⟩, .pure, 0, 0, 1023⟩, ⟨⟨(some 103), (.un .not (.tmp 102)), none⟩, .pure, 0, 0, 2047⟩]) (.cond (.tmp 103) (.ops [⟨(some 104), (.mv (.tmp 16)), none⟩, ⟨(some 105), (.arith .add (.tmp 104) (.const (.int .i64 (.ofNat 1)))), none⟩, ⟨(some 14), (.mv (.tmp 105)), none⟩]) (.ops [⟨(some 106), (.mv (.tmp 16)), none⟩, ⟨(some 15), (.mv (.tmp 106)), none⟩]))))))
def a238D (F : Nat → FuncId) (T : Nat → TypeId) : AC := (.seq (.seq (.ops [⟨(some 108), (.mv (.tmp 17)), none⟩, ⟨(some 109), (.mv (.tmp 14)), none⟩, ⟨(some 110), (.arith .gtr (.tmp 108) (.tmp 109)), none⟩]) (.cond (.tmp 110) .skip (.exit 6))) (.seq (.block 7 (.drawn 0 [⟨⟨(some 113), (.mv (.tmp 0)), none⟩, .pure, 0, 0, 0⟩, ⟨⟨(some 114), (.mv (.tmp 17)), none⟩, .pure, 0, 0, 0⟩, ⟨⟨(some 115), (.mv (.tmp 0)), none⟩, .pure, 0, 0, 0⟩, ⟨⟨(some 116), (.mv (.tmp 17)), none⟩, .pure, 0, 0, 0⟩, ⟨⟨(some 117), (.arith .sub (.tmp 116) (.const (.int .i64 (.ofNat 1)))), none⟩, .pure, 0, 0, 8⟩, ⟨⟨(some 118), (.mv (.tmp 0)), none⟩, .pure, 0, 0, 0⟩, ⟨⟨(some 119), (.mv (.tmp 17)), none⟩, .pure, 0, 0, 0⟩, ⟨⟨(some 120), (.arith .sub (.tmp 119) (.const (.int .i64 (.ofNat 1)))), none⟩, .pure, 0, 0, 64⟩, ⟨⟨(some 121), (.iaddrS 4 (.tmp 118) (.tmp 120)), none⟩, .pure, 0, 0, 224⟩, ⟨⟨(some 122), (.load true 4 (.tmp 121)), none⟩, .read, 0, 0, 480⟩, ⟨⟨(some 123), (.mv (.tmp 0)), none⟩, .pure, 0, 0, 0⟩, ⟨⟨(some 124), (.mv (.tmp 17)), none⟩, .pure, 0, 0, 0⟩, ⟨⟨(some 125), (.iaddrS 4 (.tmp 123) (.tmp 124)), none⟩, .pure, 0, 0, 3072⟩, ⟨⟨(some 126), (.load true 4 (.tmp 125)), none⟩, .read, 0, 0, 7168⟩, ⟨⟨(some 127), (.iaddrS 4 (.tmp 113) (.tmp 114)), none⟩, .pure, 0, 0, 16355⟩, ⟨⟨none, (.store 4 (.tmp 127) (.tmp 122)), none⟩, .chain, 0, 0, 32739⟩, ⟨⟨(some 128), (.iaddrS 4 (.tmp 115) (.tmp 117)), none⟩, .pure, 0, 0, 65535⟩, ⟨⟨none, (.store 4 (.tmp 128) (.tmp 126)), none⟩, .chain, 0, 0, 131071⟩])) (.ops [⟨(some 111), (.mv (.tmp 17)), none⟩, ⟨(some 112), (.arith .sub (.tmp 111) (.const (.int .i64 (.ofNat 1)))), none⟩, ⟨(some 17), (.mv (.tmp 112)), none⟩])))
def a238E (F : Nat → FuncId) (T : Nat → TypeId) : AC := (.seq (.seq (.ops [⟨(some 149), (.mv (.tmp 20)), none⟩, ⟨(some 150), (.mv (.tmp 21)), none⟩, ⟨(some 151), (.arith .lss (.tmp 149) (.tmp 150)), none⟩]) (.cond (.tmp 151) .skip (.exit 8))) (.block 9 (.seq (.ops [⟨(some 152), (.mv (.tmp 20)), none⟩, ⟨(some 153), (.mv (.tmp 21)), none⟩, ⟨(some 154), (.arith .add (.tmp 152) (.tmp 153)), none⟩, ⟨(some 155), (.convI .u64 (.tmp 154)), none⟩, ⟨(some 156), (.arith .shr (.tmp 155) (.const (.int .u64 (.ofNat 1)))), none⟩, ⟨(some 157), (.convI .i64 (.tmp 156)), none⟩, ⟨(some 23), (.mv (.tmp 157)), none⟩]) (.seq (.drawn 0 [⟨⟨(some 158), (.mv (.tmp 4)), none⟩, .pure, 0, 0, 0⟩, ⟨⟨(some 159), (.mv (.tmp 0)), none⟩, .pure, 0, 0, 0⟩, ⟨⟨(some 160), (.mv (.tmp 22)), none⟩, .pure, 0, 0, 0⟩, ⟨⟨(some 161), (.mv (.tmp 23)), none⟩, .pure, 0, 0, 0⟩, ⟨⟨(some 162), (.arith .sub (.tmp 160) (.tmp 161)), none⟩, .pure, 0, 0, 12⟩, ⟨⟨(some 163), (.iaddrS 4 (.tmp 159) (.tmp 162)), none⟩, .pure, 0, 0, 30⟩, ⟨⟨(some 164), (.load true 4 (.tmp 163)), none⟩, .read, 0, 0, 62⟩, ⟨⟨(some 165), (.mv (.tmp 0)), none⟩, .pure, 0, 0, 0⟩, ⟨⟨(some 166), (.mv (.tmp 23)), none⟩, .pure, 0, 0, 0⟩, ⟨⟨(some 167), (.iaddrS 4 (.tmp 165) (.tmp 166)), none⟩, .pure, 0, 0, 384⟩, ⟨⟨(some 168), (.load true 4 (.tmp 167)), none⟩, .read, 0, 0, 896⟩, ⟨⟨(some 169), (.call (.tmp 158) [(.tmp 164), (.tmp 168)]), none⟩, .chain, 0, 0, 2047⟩, ⟨⟨(some 170), (.arith .lss (.tmp 169) (.const (.int .i64 (.ofNat 0)))), none⟩, .pure, 0, 0, 4095⟩, ⟨⟨(some 171), (.un .not (.tmp 170)), none⟩, .pure, 0, 0, 8191⟩]) (.cond (.tmp 171) (.ops [⟨(some 172), (.mv (.tmp 23)), none⟩, ⟨(some 173), (.arith .add (.tmp 172) (.const (.int .i64 (.ofNat 1)))), none⟩, ⟨(some 20), (.mv (.tmp 173)), none⟩]) (.ops [⟨(some 174), (.mv (.tmp 23)), none⟩, ⟨(some 21), (.mv (.tmp 174)), none⟩]))))))
def a238X (F : Nat → FuncId) (T : Nat → TypeId) : AC := (.seq (.ops [⟨(some 175), (.mv (.tmp 19)), none⟩, ⟨(some 176), (.mv (.tmp 20)), none⟩, ⟨(some 177), (.arith .sub (.tmp 175) (.tmp 176)), none⟩, ⟨(some 24), (.mv (.tmp 177)), none⟩]) (.seq (.seq (.ops [⟨(some 178), (.mv (.tmp 20)), none⟩, ⟨(some 179), (.mv (.tmp 2)), none⟩, ⟨(some 180), (.arith .lss (.tmp 178) (.tmp 179)), none⟩, ⟨(some 181), (.mv (.tmp 180)), none⟩, ⟨(some 182), (.mv (.tmp 2)), (some ⟨181, true⟩)⟩, ⟨(some 183), (.mv (.tmp 24)), (some ⟨181, true⟩)⟩, ⟨(some 184), (.arith .lss (.tmp 182) (.tmp 183)), (some ⟨181, true⟩)⟩, ⟨(some 185), (.pick (.tmp 181) (.tmp 184) (.const (.bool false))), none⟩]) (.cond (.tmp 185) (.ops [⟨(some 186), (.mv (.tmp 0)), none⟩, ⟨(some 187), (.mv (.tmp 20)), none⟩, ⟨(some 188), (.mv (.tmp 2)), none⟩, ⟨(some 189), (.mv (.tmp 24)), none⟩, ⟨(some 190), (.mv (.tmp 4)), none⟩, ⟨(some 191), (.call (.func (F 286)) [(.tmp 186), (.tmp 187), (.tmp 188), (.tmp 189), (.tmp 190)]), none⟩]) .skip)) (.seq (.seq (.ops [⟨(some 192), (.mv (.tmp 1)), none⟩, ⟨(some 193), (.mv (.tmp 20)), none⟩, ⟨(some 194), (.arith .lss (.tmp 192) (.tmp 193)), none⟩, ⟨(some 195), (.mv (.tmp 194)), none⟩, ⟨(some 196), (.mv (.tmp 20)), (some ⟨195, true⟩)⟩, ⟨(some 197), (.mv (.tmp 18)), (some ⟨195, true⟩)⟩, ⟨(some 198), (.arith .lss (.tmp 196) (.tmp 197)), (some ⟨195, true⟩)⟩, ⟨(some 199), (.pick (.tmp 195) (.tmp 198) (.const (.bool false))), none⟩]) (.cond (.tmp 199) (.ops [⟨(some 200), (.mv (.tmp 0)), none⟩, ⟨(some 201), (.mv (.tmp 1)), none⟩, ⟨(some 202), (.mv (.tmp 20)), none⟩, ⟨(some 203), (.mv (.tmp 18)), none⟩, ⟨(some 204), (.mv (.tmp 4)), none⟩, ⟨(some 205), (.call (.func (F 238)) [(.tmp 200), (.tmp 201), (.tmp 202), (.tmp 203), (.tmp 204)]), none⟩]) .skip)) (.seq (.ops [⟨(some 206), (.mv (.tmp 18)), none⟩, ⟨(some 207), (.mv (.tmp 24)), none⟩, ⟨(some 208), (.arith .lss (.tmp 206) (.tmp 207)), none⟩, ⟨(some 209), (.mv (.tmp 208)), none⟩, ⟨(some 210), (.mv (.tmp 24)), (some ⟨209, true⟩)⟩, ⟨(some 211), (.mv (.tmp 3)), (some ⟨209, true⟩)⟩, ⟨(some 212), (.arith .lss (.tmp 210) (.tmp 211)), (some ⟨209, true⟩)⟩, ⟨(some 213), (.pick (.tmp 209) (.tmp 212) (.const (.bool false))), none⟩]) (.cond (.tmp 213) (.ops [⟨(some 214), (.mv (.tmp 0)), none⟩, ⟨(some 215), (.mv (.tmp 18)), none⟩, ⟨(some 216), (.mv (.tmp 24)), none⟩, ⟨(some 217), (.mv (.tmp 3)), none⟩, ⟨(some 218), (.mv (.tmp 4)), none⟩, ⟨(some 219), (.call (.func (F 238)) [(.tmp 214), (.tmp 215), (.tmp 216), (.tmp 217), (.tmp 218)]), none⟩]) .skip)))))
def a238Y (F : Nat → FuncId) (T : Nat → TypeId) : AC := (.seq (.seq (.ops [⟨(some 192), (.mv (.tmp 1)), none⟩, ⟨(some 193), (.mv (.tmp 20)), none⟩, ⟨(some 194), (.arith .lss (.tmp 192) (.tmp 193)), none⟩, ⟨(some 195), (.mv (.tmp 194)), none⟩, ⟨(some 196), (.mv (.tmp 20)), (some ⟨195, true⟩)⟩, ⟨(some 197), (.mv (.tmp 18)), (some ⟨195, true⟩)⟩, ⟨(some 198), (.arith .lss (.tmp 196) (.tmp 197)), (some ⟨195, true⟩)⟩, ⟨(some 199), (.pick (.tmp 195) (.tmp 198) (.const (.bool false))), none⟩]) (.cond (.tmp 199) (.ops [⟨(some 200), (.mv (.tmp 0)), none⟩, ⟨(some 201), (.mv (.tmp 1)), none⟩, ⟨(some 202), (.mv (.tmp 20)), none⟩, ⟨(some 203), (.mv (.tmp 18)), none⟩, ⟨(some 204), (.mv (.tmp 4)), none⟩, ⟨(some 205), (.call (.func (F 238)) [(.tmp 200), (.tmp 201), (.tmp 202), (.tmp 203), (.tmp 204)]), none⟩]) .skip)) (.seq (.ops [⟨(some 206), (.mv (.tmp 18)), none⟩, ⟨(some 207), (.mv (.tmp 24)), none⟩, ⟨(some 208), (.arith .lss (.tmp 206) (.tmp 207)), none⟩, ⟨(some 209), (.mv (.tmp 208)), none⟩, ⟨(some 210), (.mv (.tmp 24)), (some ⟨209, true⟩)⟩, ⟨(some 211), (.mv (.tmp 3)), (some ⟨209, true⟩)⟩, ⟨(some 212), (.arith .lss (.tmp 210) (.tmp 211)), (some ⟨209, true⟩)⟩, ⟨(some 213), (.pick (.tmp 209) (.tmp 212) (.const (.bool false))), none⟩]) (.cond (.tmp 213) (.ops [⟨(some 214), (.mv (.tmp 0)), none⟩, ⟨(some 215), (.mv (.tmp 18)), none⟩, ⟨(some 216), (.mv (.tmp 24)), none⟩, ⟨(some 217), (.mv (.tmp 3)), none⟩, ⟨(some 218), (.mv (.tmp 4)), none⟩, ⟨(some 219), (.call (.func (F 238)) [(.tmp 214), (.tmp 215), (.tmp 216), (.tmp 217), (.tmp 218)]), none⟩]) .skip)))
def a238Z (F : Nat → FuncId) (T : Nat → TypeId) : AC := (.seq (.ops [⟨(some 206), (.mv (.tmp 18)), none⟩, ⟨(some 207), (.mv (.tmp 24)), none⟩, ⟨(some 208), (.arith .lss (.tmp 206) (.tmp 207)), none⟩, ⟨(some 209), (.mv (.tmp 208)), none⟩, ⟨(some 210), (.mv (.tmp 24)), (some ⟨209, true⟩)⟩, ⟨(some 211), (.mv (.tmp 3)), (some ⟨209, true⟩)⟩, ⟨(some 212), (.arith .lss (.tmp 210) (.tmp 211)), (some ⟨209, true⟩)⟩, ⟨(some 213), (.pick (.tmp 209) (.tmp 212) (.const (.bool false))), none⟩]) (.cond (.tmp 213) (.ops [⟨(some 214), (.mv (.tmp 0)), none⟩, ⟨(some 215), (.mv (.tmp 18)), none⟩, ⟨(some 216), (.mv (.tmp 24)), none⟩, ⟨(some 217), (.mv (.tmp 3)), none⟩, ⟨(some 218), (.mv (.tmp 4)), none⟩, ⟨(some 219), (.call (.func (F 238)) [(.tmp 214), (.tmp 215), (.tmp 216), (.tmp 217), (.tmp 218)]), none⟩]) .skip))
section
variable {P : Program} {K : Orc} {rd : Option Nat} {nt : Nat} {l : Sl} {ds : List ADef} {s : SH} {Q Qn Qr : Po} {Qe : Nat → Po} {F : Nat → FuncId} {T : Nat → TypeId}
theorem leq_i2 (a b : Int) : binV .leq (iv a) (iv b) = some (.bool (!decide (b < a))) := by show some (AV.bool (!ilt b a)) = _; rw [ilt_eq]
theorem lss_t {a b : Nat} (h : a < b) : binV .lss (iv (.ofNat a)) (iv (.ofNat b)) = some (.bool true) := by
  have := lss_i (.ofNat a) (.ofNat b)
  rw [show decide (Int.ofNat a < Int.ofNat b) = true from decide_eq_true (Int.ofNat_lt.2 h)] at this
  exact this
theorem lss_f {a b : Nat} (h : ¬ a < b) : binV .lss (iv (.ofNat a)) (iv (.ofNat b)) = some (.bool false) := by
  have := lss_i (.ofNat a) (.ofNat b)
  rw [show decide (Int.ofNat a < Int.ofNat b) = false from decide_eq_false fun e => h (Int.ofNat_lt.1 e)] at this
  exact this
theorem ed_at {R : List ED} {X : List (List AV)} {i : Nat} {x : ED} (h : R[i]? = some x) : (edR R ++ X)[0 + i]? = some x.row := by
  obtain ⟨h1, rfl⟩ := List.getElem?_eq_some_iff.1 h
  rw [Nat.zero_add]
  exact edR_get h1
theorem ed_at2 {R : List ED} {X : List (List AV)} {r : List AV} {i j : Nat} {y : ED} (h : R[j]? = some y) (hn : i ≠ j) : ((edR R ++ X).set (0 + i) r)[0 + j]? = some y.row := by
  rw [List.getElem?_set_ne (by omega)]
  exact ed_at h
theorem ed_sw {R : List ED} {X : List (List AV)} {i j : Nat} {x y : ED} (hi : R[i]? = some x) (hj : R[j]? = some y) : ((edR R ++ X).set (0 + i) y.row).set (0 + j) x.row = edR ((R.set i y).set j x) ++ X := by
  obtain ⟨h1, rfl⟩ := List.getElem?_eq_some_iff.1 hi
  obtain ⟨h2, rfl⟩ := List.getElem?_eq_some_iff.1 hj
  rw [Nat.zero_add, Nat.zero_add]
  exact edR_swap h1 h2
theorem sw_perm {R : List ED} {i j : Nat} {x y : ED} (hi : R[i]? = some x) (hj : R[j]? = some y) : ((R.set i y).set j x).length = R.length := by simp
theorem mid_u {a : Nat} (h : a ≤ 9223372036854775807) : mkI .u64 (.ofNat a) = some (.int .u64 (.ofNat a)) := by
  show force (Nat.mod a 18446744073709551616) (fun m => some (AV.int .u64 (.ofNat m))) = _
  rw [force_eq, show Nat.mod a 18446744073709551616 = a from Nat.mod_eq_of_lt (by omega)]
theorem mid_h (a : Nat) : binV .shr (.int .u64 (.ofNat a)) (.int .u64 (.ofNat 1)) = some (.int .u64 (.ofNat (a / 2))) := by
  show force (Nat.div a 2) (fun r => some (AV.int .u64 (.ofNat r))) = _
  rw [force_eq]
  rfl
theorem gtr_tn {a b : Nat} (h : b < a) : binV .gtr (iv (.ofNat a)) (iv (.ofNat b)) = some (.bool true) := by rw [gtr_i, decide_eq_true (show Int.ofNat b < Int.ofNat a from Int.ofNat_lt.2 h)]
theorem gtr_fn {a b : Nat} (h : ¬ b < a) : binV .gtr (iv (.ofNat a)) (iv (.ofNat b)) = some (.bool false) := by rw [gtr_i, decide_eq_false (show ¬ Int.ofNat b < Int.ofNat a from fun x => h (Int.ofNat_lt.1 x))]
def Sd (bq : Nat) (X : List (List AV)) (t : SH) (L : List ED) (s : SH) : Prop := ∃ m R, s = m ++ ((bq, .r false (edR R ++ X) 4) :: t) ∧ R.length = L.length
theorem swap299_ok (hC : BaseCh P K F T) (hS : BaseSl P K F T) {L : List ED} {X : List (List AV)} {bq N c a b n : Nat} {sl : Bool} {fv : AV} {t s : SH} (hN : L.length = N) (hn : N ≤ 1099511627776) (hab : a < b) (hb : b + n ≤ N) (hs : Sd bq X t L s) :
    Tri P K (F 299) [.slice (some ⟨bq, 0, 0⟩) N c sl 4, iv (.ofNat a), iv (.ofNat b), iv (.ofNat n), fv] s (fun _ s' => Sd bq X t L s') := by
  refine hS.f299.tri ?_
  unfold a299
  refine WP.seq (WP.ops (WO.r (.mv rfl) (WO.nil (WP.block ?_))))
  refine WP.loop (fun k l ds s' => ds = [] ∧ ∃ i, k = n - i ∧ i ≤ n ∧ Sd bq X t L s' ∧ ∀ q w, lk [(0, .slice (some ⟨bq, 0, 0⟩) N c sl 4), (1, iv (.ofNat a)), (2, iv (.ofNat b)), (3, iv (.ofNat n)), (10, iv (.ofNat i))] q = some w → lk l q = some w) ?_ (n := n - 0) ⟨rfl, 0, rfl, Nat.zero_le _, hs, sbs⟩
  rintro k l ds s' ⟨rfl, i, rfl, hi, ⟨m, R, rfl, hR⟩, hl⟩
  refine WP.weak hl (fun _ _ h => h) ?_
  have hRl := hR
  by_cases hlt : i < n
  rotate_left
  · have e1 := lss_f hlt
    refine WP.seq (WP.seq (WP.ops (WO.r (.mv rfl) (WO.r (.mv rfl) (WO.r (.arith rfl rfl e1) (WO.nil (WP.cond rfl (fun h => Bool.noConfusion (show false = true from h)) (fun _ => WP.exit (Fin.mk .nil ?_)))))))))
    exact ⟨m, R, rfl, hR⟩
  have e1 := lss_t hlt
  have g1 : R[a + i]? = some (R[a + i]'(by omega)) := List.getElem?_eq_getElem _
  have g2 : R[b + i]? = some (R[b + i]'(by omega)) := List.getElem?_eq_getElem _
  generalize R[a + i]'(by omega) = x at g1
  generalize R[b + i]'(by omega) = y at g2
  have e2 : (edR R ++ X)[0 + (b + i)]? = some y.row := ed_at g2
  have e3 : (edR R ++ X)[0 + (a + i)]? = some x.row := ed_at g1
  have e4 : ((edR R ++ X).set (0 + (a + i)) y.row)[0 + (b + i)]? = some y.row := ed_at2 g2 (by omega)
  refine WP.seq (WP.seq (WP.ops (WO.r (.mv rfl) (WO.r (.mv rfl) (WO.r (.arith rfl rfl e1) (WO.nil (WP.cond rfl (fun _ => WP.skip ?_) (fun h => Bool.noConfusion (show true = false from h)))))))))
  refine WP.seq (WP.block (WP.drawn0 (WD.pu (.mv rfl) (WD.pu (.mv rfl) (WD.pu (.mv rfl) (WD.pu (.arith rfl rfl (add_n (by omega))) (WD.pu (.mv rfl) (WD.pu (.mv rfl) (WD.pu (.mv rfl) (WD.pu (.arith rfl rfl (add_n (by omega))) (WD.pu (.mv rfl) (WD.pu (.mv rfl) (WD.pu (.mv rfl) (WD.pu (.arith rfl rfl (add_n (by omega))) (WD.pu (.iaddrS rfl rfl (by omega) (by decide)) (WD.ld rfl .nil (.load (cs := ED.row y) rfl (.app .here) e2 rfl rfl) (WD.pu (.mv rfl) (WD.pu (.mv rfl) (WD.pu (.mv rfl) (WD.pu (.arith rfl rfl (add_n (by omega))) (WD.pu (.iaddrS rfl rfl (by omega) (by decide)) (WD.ld rfl .nil (.load (cs := ED.row x) rfl (.app .here) e3 rfl rfl) (WD.pu (.iaddrS rfl rfl (by omega) (by decide)) (WD.ch .nil (WS.store (row' := ED.row y) rfl rfl rfl (.app .here) e3 rfl (WD.pu (.iaddrS rfl rfl (by omega) (by decide)) (WD.ch .nil (WS.store (row' := ED.row x) rfl rfl rfl (.app .here) e4 rfl (WD.nil .nil (WP.ops (WO.r (.mv rfl) (WO.r (.arith rfl rfl (add_n (by omega))) (WO.r (.mv rfl) (WO.nil ?_))))) (fun o h => nomatch h))))))))))))))))))))))))))))))
  exact ⟨n - (i + 1), by omega, rfl, i + 1, rfl, hlt, ⟨m, (R.set (a + i) y).set (b + i) x, by rw [← ed_sw g1 g2]; rfl, (sw_perm g1 g2).trans hR⟩, sbs⟩
theorem rotate286_ok (hC : BaseCh P K F T) (hS : BaseSl P K F T) {L : List ED} {X : List (List AV)} {bq N c a m b : Nat} {sl : Bool} {fv : AV} {t s : SH} (hN : L.length = N) (hn : N ≤ 1099511627776) (ham : a < m) (hmb : m < b) (hb : b ≤ N) (hs : Sd bq X t L s) :
    Tri P K (F 286) [.slice (some ⟨bq, 0, 0⟩) N c sl 4, iv (.ofNat a), iv (.ofNat m), iv (.ofNat b), fv] s (fun _ s' => Sd bq X t L s') := by
  refine hS.f286.tri ?_
  unfold a286
  have s1 := sub_n (a := m) (b := a) (by omega) (by omega)
  have s2 := sub_n (a := b) (b := m) (by omega) (by omega)
  refine WP.seq (WP.ops (WO.r (.mv rfl) (WO.r (.mv rfl) (WO.r (.arith rfl rfl s1) (WO.r (.mv rfl) (WO.nil ?_))))))
  refine WP.seq (WP.ops (WO.r (.mv rfl) (WO.r (.mv rfl) (WO.r (.arith rfl rfl s2) (WO.r (.mv rfl) (WO.nil ?_))))))
  refine WP.seq (WP.block ?_)
  refine WP.loop (fun k l ds s' => ds = [] ∧ ∃ i j, k = i + j ∧ 0 < i ∧ i ≤ m ∧ 0 < j ∧ m + j ≤ N ∧ Sd bq X t L s' ∧ ∀ q w, lk [(0, .slice (some ⟨bq, 0, 0⟩) N c sl 4), (2, iv (.ofNat m)), (4, fv), (10, iv (.ofNat i)), (11, iv (.ofNat j))] q = some w → lk l q = some w) ?_ (n := (m - a) + (b - m)) ⟨rfl, m - a, b - m, rfl, by omega, by omega, by omega, by omega, hs, sbs⟩
  rintro k l ds s' ⟨rfl, i, j, rfl, hi0, hi, hj0, hj, hs, hl⟩
  refine WP.weak hl (fun _ _ h => h) ?_
  have s3 := sub_n (a := m) (b := i) (by omega) (by omega)
  by_cases he : i = j
  · subst he
    have e1 : eqBy 20 .pi (iv (.ofNat i)) (iv (.ofNat i)) = some true := by rw [eqB_i, decide_eq_true rfl]
    refine WP.seq (WP.seq (WP.ops (WO.r (.mv rfl) (WO.r (.mv rfl) (WO.r (.eql rfl rfl e1) (WO.nil (WP.cond rfl (fun h => Bool.noConfusion (show false = true from h)) (fun _ => WP.exit (WP.ops (WO.r (.mv rfl) (WO.r (.mv rfl) (WO.r (.mv rfl) (WO.r (.arith rfl rfl s3) (WO.r (.mv rfl) (WO.r (.mv rfl) (WO.r (.mv rfl) ?_))))))))))))))))
    refine WO.w (WS.callF (first := []) (vs := [AV.slice (some (Pl.mk bq 0 0)) N c sl 4, iv (Int.ofNat (m - i)), iv (Int.ofNat m), iv (Int.ofNat i), fv]) (cap := []) rfl rfl (swap299_ok hC hS hN hn (by omega) (by omega) hs) ?_)
    rintro w s3 hs3
    refine WO.nil (Fin.mk .nil ?_)
    exact hs3
  have e1 : eqBy 20 .pi (iv (.ofNat i)) (iv (.ofNat j)) = some false := by rw [eqB_i, decide_eq_false (fun h => he (Int.ofNat.inj h))]
  by_cases hij : j < i
  · have e2 := gtr_tn hij
    have s4 := sub_n (a := i) (b := j) (by omega) (by omega)
    refine WP.seq (WP.seq (WP.ops (WO.r (.mv rfl) (WO.r (.mv rfl) (WO.r (.eql rfl rfl e1) (WO.nil (WP.cond rfl (fun _ => WP.skip (WP.block ?_)) (fun h => Bool.noConfusion (show true = false from h)))))))))
    refine WP.seq (WP.ops (WO.r (.mv rfl) (WO.r (.mv rfl) (WO.r (.arith rfl rfl e2) (WO.nil (WP.cond rfl (fun _ => ?_) (fun h => Bool.noConfusion (show true = false from h))))))))
    refine WP.seq (WP.ops (WO.r (.mv rfl) (WO.r (.mv rfl) (WO.r (.mv rfl) (WO.r (.arith rfl rfl s3) (WO.r (.mv rfl) (WO.r (.mv rfl) (WO.r (.mv rfl) ?_))))))))
    refine WO.w (WS.callF (first := []) (vs := [AV.slice (some (Pl.mk bq 0 0)) N c sl 4, iv (Int.ofNat (m - i)), iv (Int.ofNat m), iv (Int.ofNat j), fv]) (cap := []) rfl rfl (swap299_ok hC hS hN hn (by omega) (by omega) hs) ?_)
    rintro w s3 hs3
    refine WO.nil (WP.ops (WO.r (.mv rfl) (WO.r (.mv rfl) (WO.r (.arith rfl rfl s4) (WO.r (.mv rfl) (WO.nil ?_))))))
    exact ⟨(i - j) + j, by omega, rfl, i - j, j, rfl, by omega, by omega, hj0, hj, hs3, sbs⟩
  · have e2 := gtr_fn hij
    have s4 := sub_n (a := j) (b := i) (by omega) (by omega)
    have s5 := sub_n (a := m + j) (b := i) (by omega) (by omega)
    refine WP.seq (WP.seq (WP.ops (WO.r (.mv rfl) (WO.r (.mv rfl) (WO.r (.eql rfl rfl e1) (WO.nil (WP.cond rfl (fun _ => WP.skip (WP.block ?_)) (fun h => Bool.noConfusion (show true = false from h)))))))))
    refine WP.seq (WP.ops (WO.r (.mv rfl) (WO.r (.mv rfl) (WO.r (.arith rfl rfl e2) (WO.nil (WP.cond rfl (fun h => Bool.noConfusion (show false = true from h)) (fun _ => ?_)))))))
    refine WP.seq (WP.ops (WO.r (.mv rfl) (WO.r (.mv rfl) (WO.r (.mv rfl) (WO.r (.arith rfl rfl s3) (WO.r (.mv rfl) (WO.r (.mv rfl) (WO.r (.arith rfl rfl (add_n (by omega))) (WO.r (.mv rfl) (WO.r (.arith rfl rfl s5) (WO.r (.mv rfl) (WO.r (.mv rfl) ?_))))))))))))
    refine WO.w (WS.callF (first := []) (vs := [AV.slice (some (Pl.mk bq 0 0)) N c sl 4, iv (Int.ofNat (m - i)), iv (Int.ofNat (m + j - i)), iv (Int.ofNat i), fv]) (cap := []) rfl rfl (swap299_ok hC hS hN hn (by omega) (by omega) hs) ?_)
    rintro w s3 hs3
    refine WO.nil (WP.ops (WO.r (.mv rfl) (WO.r (.mv rfl) (WO.r (.arith rfl rfl s4) (WO.r (.mv rfl) (WO.nil ?_))))))
    exact ⟨i + (j - i), by omega, rfl, i, j - i, rfl, hi0, hi, by omega, by omega, hs3, sbs⟩
@[reducible] def mrgB (F : Nat → FuncId) (bq N c a m b : Nat) (sl : Bool) (sv : AV) : Sl := [(0, .slice (some ⟨bq, 0, 0⟩) N c sl 4), (1, iv (.ofNat a)), (2, iv (.ofNat m)), (3, iv (.ofNat b)), (4, .func (F 175) [sv] [])]
theorem mrgA_ok (hC : BaseCh P K F T) (hS : BaseSl P K F T) (hT : TyC P T) {L : List ED} {X : List (List AV)} {bq N c a m b i0 j0 : Nat} {sl : Bool} {sv : AV} {t s : SH} (hN : L.length = N) (hn : N ≤ 1099511627776) (h0 : i0 ≤ j0) (hj0 : j0 ≤ N) (ha : a < N) (hs : Sd bq X t L s)
    (hl : ∀ q w, lk ((10, iv (.ofNat i0)) :: (11, iv (.ofNat j0)) :: mrgB F bq N c a m b sl sv) q = some w → lk l q = some w)
    (hk : ∀ i l2 s2, i0 ≤ i → i ≤ j0 → Sd bq X t L s2 → (∀ q w, lk ((10, iv (.ofNat i)) :: mrgB F bq N c a m b sl sv) q = some w → lk l2 q = some w) → Qn l2 [] s2) :
    WP P K none 220 (.block 0 (.loop (a238A F T))) l [] s Qn Qe Qr := by
  refine WP.weak hl (fun _ _ h => h) (WP.block ?_)
  unfold a238A
  refine WP.loop (fun k l ds s' => ds = [] ∧ ∃ i j, k = j - i ∧ i0 ≤ i ∧ i ≤ j ∧ j ≤ j0 ∧ Sd bq X t L s' ∧ ∀ q w, lk ((10, iv (.ofNat i)) :: (11, iv (.ofNat j)) :: mrgB F bq N c a m b sl sv) q = some w → lk l q = some w) ?_ (n := j0 - i0) ⟨rfl, i0, j0, rfl, Nat.le_refl _, h0, Nat.le_refl _, hs, sbs⟩
  rintro k l ds s' ⟨rfl, i, j, rfl, hi, hij, hj, ⟨m1, R, rfl, hR⟩, hl⟩
  refine WP.weak hl (fun _ _ h => h) ?_
  have hRl := hR
  by_cases hlt : i < j
  rotate_left
  · have e1 := lss_f hlt
    refine WP.seq (WP.seq (WP.ops (WO.r (.mv rfl) (WO.r (.mv rfl) (WO.r (.arith rfl rfl e1) (WO.nil (WP.cond rfl (fun h => Bool.noConfusion (show false = true from h)) (fun _ => WP.exit ?_))))))))
    exact hk i _ _ hi (by omega) ⟨m1, R, rfl, hR⟩ (sbs)
  have e1 := lss_t hlt
  have c37 : mkI .u64 (.ofNat (i + j)) = some (.int .u64 (.ofNat (i + j))) := mid_u (by omega)
  have c38 := mid_h (i + j)
  have c39 : mkI .i64 (.ofNat ((i + j) / 2)) = some (iv (.ofNat ((i + j) / 2))) := mkI_n (by omega)
  generalize hh : (i + j) / 2 = h at c38 c39
  have g1 : R[h]? = some (R[h]'(by omega)) := List.getElem?_eq_getElem _
  have g2 : R[a]? = some (R[a]'(by omega)) := List.getElem?_eq_getElem _
  generalize R[h]'(by omega) = x at g1
  generalize R[a]'(by omega) = y at g2
  have e2 : (edR R ++ X)[0 + h]? = some x.row := ed_at g1
  have e3 : (edR R ++ X)[0 + a]? = some y.row := ed_at g2
  refine WP.seq (WP.seq (WP.ops (WO.r (.mv rfl) (WO.r (.mv rfl) (WO.r (.arith rfl rfl e1) (WO.nil (WP.cond rfl (fun _ => WP.skip (WP.block ?_)) (fun h => Bool.noConfusion (show true = false from h)))))))))
  refine WP.seq (WP.ops (WO.r (.mv rfl) (WO.r (.mv rfl) (WO.r (.arith rfl rfl (add_n (by omega))) (WO.r (.convI rfl c37) (WO.r (.arith rfl rfl c38) (WO.r (.convI rfl c39) (WO.r (.mv rfl) (WO.nil ?_)))))))))
  refine WP.seq (WP.drawn0 (WD.pu (.mv rfl) (WD.pu (.mv rfl) (WD.pu (.mv rfl) (WD.pu (.iaddrS rfl rfl (by omega) (by decide)) (WD.ld rfl .nil (.load (cs := ED.row x) rfl (.app .here) e2 rfl rfl) (WD.pu (.mv rfl) (WD.pu (.mv rfl) (WD.pu (.iaddrS rfl rfl (by omega) (by decide)) (WD.ld rfl .nil (.load (cs := ED.row y) rfl (.app .here) e3 rfl rfl) ?_))))))))))
  refine WD.ch .nil (WS.callF (first := [sv]) (vs := [AV.agg (ED.row x), AV.agg (ED.row y)]) (cap := []) rfl rfl (before_ok hC hS hT) ?_)
  rintro w _ ⟨n, rfl, m2, rfl⟩
  by_cases hc : n < 0
  · have e4 : binV .lss (iv n) (iv 0) = some (.bool true) := by rw [lss_i, decide_eq_true hc]
    refine WD.pu (.arith rfl rfl e4) (WD.nil .nil (WP.cond rfl (fun _ => WP.ops (WO.r (.mv rfl) (WO.r (.arith rfl rfl (add_n (by omega))) (WO.r (.mv rfl) (WO.nil ?_))))) (fun h => Bool.noConfusion (show true = false from h))) (fun o h => nomatch h))
    exact ⟨j - (h + 1), by omega, rfl, h + 1, j, rfl, by omega, by omega, hj, ⟨m2 ++ m1, R, (List.append_assoc ..).symm, hR⟩, sbs⟩
  · have e4 : binV .lss (iv n) (iv 0) = some (.bool false) := by rw [lss_i, decide_eq_false hc]
    refine WD.pu (.arith rfl rfl e4) (WD.nil .nil (WP.cond rfl (fun h => Bool.noConfusion (show false = true from h)) (fun _ => WP.ops (WO.r (.mv rfl) (WO.r (.mv rfl) (WO.nil ?_))))) (fun o h => nomatch h))
    exact ⟨h - i, by omega, rfl, i, h, rfl, hi, by omega, by omega, ⟨m2 ++ m1, R, (List.append_assoc ..).symm, hR⟩, sbs⟩
theorem mrgC_ok (hC : BaseCh P K F T) (hS : BaseSl P K F T) (hT : TyC P T) {L : List ED} {X : List (List AV)} {bq N c a m b i0 j0 : Nat} {sl : Bool} {sv : AV} {t s : SH} (hN : L.length = N) (hn : N ≤ 1099511627776) (h0 : i0 ≤ j0) (hj0 : j0 ≤ N) (ha : m < N) (hs : Sd bq X t L s)
    (hl : ∀ q w, lk ((14, iv (.ofNat i0)) :: (15, iv (.ofNat j0)) :: mrgB F bq N c a m b sl sv) q = some w → lk l q = some w)
    (hk : ∀ i l2 s2, i0 ≤ i → i ≤ j0 → Sd bq X t L s2 → (∀ q w, lk ((14, iv (.ofNat i)) :: mrgB F bq N c a m b sl sv) q = some w → lk l2 q = some w) → Qn l2 [] s2) :
    WP P K none 220 (.block 4 (.loop (a238C F T))) l [] s Qn Qe Qr := by
  refine WP.weak hl (fun _ _ h => h) (WP.block ?_)
  unfold a238C
  refine WP.loop (fun k l ds s' => ds = [] ∧ ∃ i j, k = j - i ∧ i0 ≤ i ∧ i ≤ j ∧ j ≤ j0 ∧ Sd bq X t L s' ∧ ∀ q w, lk ((14, iv (.ofNat i)) :: (15, iv (.ofNat j)) :: mrgB F bq N c a m b sl sv) q = some w → lk l q = some w) ?_ (n := j0 - i0) ⟨rfl, i0, j0, rfl, Nat.le_refl _, h0, Nat.le_refl _, hs, sbs⟩
  rintro k l ds s' ⟨rfl, i, j, rfl, hi, hij, hj, ⟨m1, R, rfl, hR⟩, hl⟩
  refine WP.weak hl (fun _ _ h => h) ?_
  have hRl := hR
  by_cases hlt : i < j
  rotate_left
  · have e1 := lss_f hlt
    refine WP.seq (WP.seq (WP.ops (WO.r (.mv rfl) (WO.r (.mv rfl) (WO.r (.arith rfl rfl e1) (WO.nil (WP.cond rfl (fun h => Bool.noConfusion (show false = true from h)) (fun _ => WP.exit ?_))))))))
    exact hk i _ _ hi (by omega) ⟨m1, R, rfl, hR⟩ (sbs)
  have e1 := lss_t hlt
  have c37 : mkI .u64 (.ofNat (i + j)) = some (.int .u64 (.ofNat (i + j))) := mid_u (by omega)
  have c38 := mid_h (i + j)
  have c39 : mkI .i64 (.ofNat ((i + j) / 2)) = some (iv (.ofNat ((i + j) / 2))) := mkI_n (by omega)
  generalize hh : (i + j) / 2 = h at c38 c39
  have g1 : R[h]? = some (R[h]'(by omega)) := List.getElem?_eq_getElem _
  have g2 : R[m]? = some (R[m]'(by omega)) := List.getElem?_eq_getElem _
  generalize R[h]'(by omega) = x at g1
  generalize R[m]'(by omega) = y at g2
  have e2 : (edR R ++ X)[0 + h]? = some x.row := ed_at g1
  have e3 : (edR R ++ X)[0 + m]? = some y.row := ed_at g2
  refine WP.seq (WP.seq (WP.ops (WO.r (.mv rfl) (WO.r (.mv rfl) (WO.r (.arith rfl rfl e1) (WO.nil (WP.cond rfl (fun _ => WP.skip (WP.block ?_)) (fun h => Bool.noConfusion (show true = false from h)))))))))
  refine WP.seq (WP.ops (WO.r (.mv rfl) (WO.r (.mv rfl) (WO.r (.arith rfl rfl (add_n (by omega))) (WO.r (.convI rfl c37) (WO.r (.arith rfl rfl c38) (WO.r (.convI rfl c39) (WO.r (.mv rfl) (WO.nil ?_)))))))))
  refine WP.seq (WP.drawn0 (WD.pu (.mv rfl) (WD.pu (.mv rfl) (WD.pu (.mv rfl) (WD.pu (.iaddrS rfl rfl (by omega) (by decide)) (WD.ld rfl .nil (.load (cs := ED.row y) rfl (.app .here) e3 rfl rfl) (WD.pu (.mv rfl) (WD.pu (.mv rfl) (WD.pu (.iaddrS rfl rfl (by omega) (by decide)) (WD.ld rfl .nil (.load (cs := ED.row x) rfl (.app .here) e2 rfl rfl) ?_))))))))))
  refine WD.ch .nil (WS.callF (first := [sv]) (vs := [AV.agg (ED.row y), AV.agg (ED.row x)]) (cap := []) rfl rfl (before_ok hC hS hT) ?_)
  rintro w _ ⟨n, rfl, m2, rfl⟩
  by_cases hc : n < 0
  · have e4 : binV .lss (iv n) (iv 0) = some (.bool true) := by rw [lss_i, decide_eq_true hc]
    refine WD.pu (.arith rfl rfl e4) (WD.pu (.un rfl rfl) (WD.nil .nil (WP.cond rfl (fun h => Bool.noConfusion (show false = true from h)) (fun _ => WP.ops (WO.r (.mv rfl) (WO.r (.mv rfl) (WO.nil ?_))))) (fun o h => nomatch h)))
    exact ⟨h - i, by omega, rfl, i, h, rfl, hi, by omega, by omega, ⟨m2 ++ m1, R, (List.append_assoc ..).symm, hR⟩, sbs⟩
  · have e4 : binV .lss (iv n) (iv 0) = some (.bool false) := by rw [lss_i, decide_eq_false hc]
    refine WD.pu (.arith rfl rfl e4) (WD.pu (.un rfl rfl) (WD.nil .nil (WP.cond rfl (fun _ => WP.ops (WO.r (.mv rfl) (WO.r (.arith rfl rfl (add_n (by omega))) (WO.r (.mv rfl) (WO.nil ?_))))) (fun h => Bool.noConfusion (show true = false from h))) (fun o h => nomatch h)))
    exact ⟨j - (h + 1), by omega, rfl, h + 1, j, rfl, by omega, by omega, hj, ⟨m2 ++ m1, R, (List.append_assoc ..).symm, hR⟩, sbs⟩
theorem mrgE_ok (hC : BaseCh P K F T) (hS : BaseSl P K F T) (hT : TyC P T) {L : List ED} {X : List (List AV)} {bq N c a m b i0 j0 p v18 v19 : Nat} {sl : Bool} {sv : AV} {t s : SH} (hN : L.length = N) (hn : N ≤ 1099511627776) (h0 : i0 ≤ j0) (hj0 : j0 ≤ N) (hp : p ≤ 4398046511104) (hpc : ∀ c, i0 ≤ c → c < j0 → c ≤ p ∧ p - c < N) (hs : Sd bq X t L s)
    (hl : ∀ q w, lk ((18, iv (.ofNat v18)) :: (19, iv (.ofNat v19)) :: (20, iv (.ofNat i0)) :: (21, iv (.ofNat j0)) :: (22, iv (.ofNat p)) :: mrgB F bq N c a m b sl sv) q = some w → lk l q = some w)
    (hk : ∀ i l2 s2, i0 ≤ i → i ≤ j0 → Sd bq X t L s2 → (∀ q w, lk ((18, iv (.ofNat v18)) :: (19, iv (.ofNat v19)) :: (20, iv (.ofNat i)) :: mrgB F bq N c a m b sl sv) q = some w → lk l2 q = some w) → Qn l2 [] s2) :
    WP P K none 220 (.block 8 (.loop (a238E F T))) l [] s Qn Qe Qr := by
  refine WP.weak hl (fun _ _ h => h) (WP.block ?_)
  unfold a238E
  refine WP.loop (fun k l ds s' => ds = [] ∧ ∃ i j, k = j - i ∧ i0 ≤ i ∧ i ≤ j ∧ j ≤ j0 ∧ Sd bq X t L s' ∧ ∀ q w, lk ((18, iv (.ofNat v18)) :: (19, iv (.ofNat v19)) :: (20, iv (.ofNat i)) :: (21, iv (.ofNat j)) :: (22, iv (.ofNat p)) :: mrgB F bq N c a m b sl sv) q = some w → lk l q = some w) ?_ (n := j0 - i0) ⟨rfl, i0, j0, rfl, Nat.le_refl _, h0, Nat.le_refl _, hs, sbs⟩
  rintro k l ds s' ⟨rfl, i, j, rfl, hi, hij, hj, ⟨m1, R, rfl, hR⟩, hl⟩
  refine WP.weak hl (fun _ _ h => h) ?_
  have hRl := hR
  by_cases hlt : i < j
  rotate_left
  · have e1 := lss_f hlt
    refine WP.seq (WP.seq (WP.ops (WO.r (.mv rfl) (WO.r (.mv rfl) (WO.r (.arith rfl rfl e1) (WO.nil (WP.cond rfl (fun h => Bool.noConfusion (show false = true from h)) (fun _ => WP.exit ?_))))))))
    exact hk i _ _ hi (by omega) ⟨m1, R, rfl, hR⟩ (sbs)
  have e1 := lss_t hlt
  have c37 : mkI .u64 (.ofNat (i + j)) = some (.int .u64 (.ofNat (i + j))) := mid_u (by omega)
  have c38 := mid_h (i + j)
  have c39 : mkI .i64 (.ofNat ((i + j) / 2)) = some (iv (.ofNat ((i + j) / 2))) := mkI_n (by omega)
  generalize hh : (i + j) / 2 = h at c38 c39
  obtain ⟨hp1, hp2⟩ := hpc h (by omega) (by omega)
  have s1 := sub_n hp1 (by omega)
  have g1 : R[h]? = some (R[h]'(by omega)) := List.getElem?_eq_getElem _
  have g2 : R[p - h]? = some (R[p - h]'(by omega)) := List.getElem?_eq_getElem _
  generalize R[h]'(by omega) = x at g1
  generalize R[p - h]'(by omega) = y at g2
  have e2 : (edR R ++ X)[0 + h]? = some x.row := ed_at g1
  have e3 : (edR R ++ X)[0 + (p - h)]? = some y.row := ed_at g2
  refine WP.seq (WP.seq (WP.ops (WO.r (.mv rfl) (WO.r (.mv rfl) (WO.r (.arith rfl rfl e1) (WO.nil (WP.cond rfl (fun _ => WP.skip (WP.block ?_)) (fun h => Bool.noConfusion (show true = false from h)))))))))
  refine WP.seq (WP.ops (WO.r (.mv rfl) (WO.r (.mv rfl) (WO.r (.arith rfl rfl (add_n (by omega))) (WO.r (.convI rfl c37) (WO.r (.arith rfl rfl c38) (WO.r (.convI rfl c39) (WO.r (.mv rfl) (WO.nil ?_)))))))))
  refine WP.seq (WP.drawn0 (WD.pu (.mv rfl) (WD.pu (.mv rfl) (WD.pu (.mv rfl) (WD.pu (.mv rfl) (WD.pu (.arith rfl rfl s1) (WD.pu (.iaddrS rfl rfl (by omega) (by decide)) (WD.ld rfl .nil (.load (cs := ED.row y) rfl (.app .here) e3 rfl rfl) (WD.pu (.mv rfl) (WD.pu (.mv rfl) (WD.pu (.iaddrS rfl rfl (by omega) (by decide)) (WD.ld rfl .nil (.load (cs := ED.row x) rfl (.app .here) e2 rfl rfl) ?_))))))))))))
  refine WD.ch .nil (WS.callF (first := [sv]) (vs := [AV.agg (ED.row y), AV.agg (ED.row x)]) (cap := []) rfl rfl (before_ok hC hS hT) ?_)
  rintro w _ ⟨n, rfl, m2, rfl⟩
  by_cases hc : n < 0
  · have e4 : binV .lss (iv n) (iv 0) = some (.bool true) := by rw [lss_i, decide_eq_true hc]
    refine WD.pu (.arith rfl rfl e4) (WD.pu (.un rfl rfl) (WD.nil .nil (WP.cond rfl (fun h => Bool.noConfusion (show false = true from h)) (fun _ => WP.ops (WO.r (.mv rfl) (WO.r (.mv rfl) (WO.nil ?_))))) (fun o h => nomatch h)))
    exact ⟨h - i, by omega, rfl, i, h, rfl, hi, by omega, by omega, ⟨m2 ++ m1, R, (List.append_assoc ..).symm, hR⟩, sbs⟩
  · have e4 : binV .lss (iv n) (iv 0) = some (.bool false) := by rw [lss_i, decide_eq_false hc]
    refine WD.pu (.arith rfl rfl e4) (WD.pu (.un rfl rfl) (WD.nil .nil (WP.cond rfl (fun _ => WP.ops (WO.r (.mv rfl) (WO.r (.arith rfl rfl (add_n (by omega))) (WO.r (.mv rfl) (WO.nil ?_))))) (fun h => Bool.noConfusion (show true = false from h))) (fun o h => nomatch h)))
    exact ⟨j - (h + 1), by omega, rfl, h + 1, j, rfl, by omega, by omega, hj, ⟨m2 ++ m1, R, (List.append_assoc ..).symm, hR⟩, sbs⟩
theorem mrgBl_ok {L : List ED} {X : List (List AV)} {bq N c a m b e : Nat} {sl : Bool} {sv : AV} {t s : SH} (hN : L.length = N) (hn : N ≤ 1099511627776) (ha : a < e) (he : e ≤ N) (hs : Sd bq X t L s)
    (hl : ∀ q w, lk ((13, iv (.ofNat a)) :: (10, iv (.ofNat e)) :: mrgB F bq N c a m b sl sv) q = some w → lk l q = some w)
    (hk : ∀ l2 s2, Sd bq X t L s2 → Qn l2 [] s2) :
    WP P K none 220 (.block 2 (.loop (a238B F T))) l [] s Qn Qe Qr := by
  refine WP.weak hl (fun _ _ h => h) (WP.block ?_)
  unfold a238B
  refine WP.loop (fun k l ds s' => ds = [] ∧ ∃ i, k = e - i ∧ i < e ∧ Sd bq X t L s' ∧ ∀ q w, lk ((13, iv (.ofNat i)) :: (10, iv (.ofNat e)) :: mrgB F bq N c a m b sl sv) q = some w → lk l q = some w) ?_ (n := e - a) ⟨rfl, a, rfl, ha, hs, sbs⟩
  rintro k l ds s' ⟨rfl, i, rfl, hi, ⟨m1, R, rfl, hR⟩, hl⟩
  refine WP.weak hl (fun _ _ h => h) ?_
  have hRl := hR
  have s1 := sub_n (a := e) (b := 1) (by omega) (by omega)
  by_cases hlt : i < e - 1
  rotate_left
  · have e1 := lss_f hlt
    refine WP.seq (WP.seq (WP.ops (WO.r (.mv rfl) (WO.r (.mv rfl) (WO.r (.arith rfl rfl s1) (WO.r (.arith rfl rfl e1) (WO.nil (WP.cond rfl (fun h => Bool.noConfusion (show false = true from h)) (fun _ => WP.exit ?_)))))))))
    exact hk _ _ ⟨m1, R, rfl, hR⟩
  have e1 := lss_t hlt
  have g1 : R[i]? = some (R[i]'(by omega)) := List.getElem?_eq_getElem _
  have g2 : R[i + 1]? = some (R[i + 1]'(by omega)) := List.getElem?_eq_getElem _
  generalize R[i]'(by omega) = x at g1
  generalize R[i + 1]'(by omega) = y at g2
  have e2 : (edR R ++ X)[0 + (i + 1)]? = some y.row := ed_at g2
  have e3 : (edR R ++ X)[0 + i]? = some x.row := ed_at g1
  have e4 : ((edR R ++ X).set (0 + i) y.row)[0 + (i + 1)]? = some y.row := ed_at2 g2 (by omega)
  refine WP.seq (WP.seq (WP.ops (WO.r (.mv rfl) (WO.r (.mv rfl) (WO.r (.arith rfl rfl s1) (WO.r (.arith rfl rfl e1) (WO.nil (WP.cond rfl (fun _ => WP.skip ?_) (fun h => Bool.noConfusion (show true = false from h))))))))))
  refine WP.seq (WP.block (WP.drawn0 (WD.pu (.mv rfl) (WD.pu (.mv rfl) (WD.pu (.mv rfl) (WD.pu (.mv rfl) (WD.pu (.arith rfl rfl (add_n (by omega))) (WD.pu (.mv rfl) (WD.pu (.mv rfl) (WD.pu (.arith rfl rfl (add_n (by omega))) (WD.pu (.iaddrS rfl rfl (by omega) (by decide)) (WD.ld rfl .nil (.load (cs := ED.row y) rfl (.app .here) e2 rfl rfl) (WD.pu (.mv rfl) (WD.pu (.mv rfl) (WD.pu (.iaddrS rfl rfl (by omega) (by decide)) (WD.ld rfl .nil (.load (cs := ED.row x) rfl (.app .here) e3 rfl rfl) (WD.pu (.iaddrS rfl rfl (by omega) (by decide)) (WD.ch .nil (WS.store (row' := ED.row y) rfl rfl rfl (.app .here) e3 rfl (WD.pu (.iaddrS rfl rfl (by omega) (by decide)) (WD.ch .nil (WS.store (row' := ED.row x) rfl rfl rfl (.app .here) e4 rfl (WD.nil .nil (WP.ops (WO.r (.mv rfl) (WO.r (.arith rfl rfl (add_n (by omega))) (WO.r (.mv rfl) (WO.nil ?_))))) (fun o h => nomatch h))))))))))))))))))))))))
  exact ⟨e - (i + 1), by omega, rfl, i + 1, rfl, by omega, ⟨m1, (R.set i y).set (i + 1) x, by rw [← ed_sw g1 g2]; rfl, (sw_perm g1 g2).trans hR⟩, sbs⟩
theorem mrgD_ok {L : List ED} {X : List (List AV)} {bq N c a m b e : Nat} {sl : Bool} {sv : AV} {t s : SH} (hN : L.length = N) (hn : N ≤ 1099511627776) (ha : m < N) (he : e ≤ m) (hs : Sd bq X t L s)
    (hl : ∀ q w, lk ((17, iv (.ofNat m)) :: (14, iv (.ofNat e)) :: mrgB F bq N c a m b sl sv) q = some w → lk l q = some w)
    (hk : ∀ l2 s2, Sd bq X t L s2 → Qn l2 [] s2) :
    WP P K none 220 (.block 6 (.loop (a238D F T))) l [] s Qn Qe Qr := by
  refine WP.weak hl (fun _ _ h => h) (WP.block ?_)
  unfold a238D
  refine WP.loop (fun k l ds s' => ds = [] ∧ ∃ i, k = i - e ∧ i ≤ m ∧ e ≤ i ∧ Sd bq X t L s' ∧ ∀ q w, lk ((17, iv (.ofNat i)) :: (14, iv (.ofNat e)) :: mrgB F bq N c a m b sl sv) q = some w → lk l q = some w) ?_ (n := m - e) ⟨rfl, m, rfl, Nat.le_refl _, he, hs, sbs⟩
  rintro k l ds s' ⟨rfl, i, rfl, hi, hei, ⟨m1, R, rfl, hR⟩, hl⟩
  refine WP.weak hl (fun _ _ h => h) ?_
  have hRl := hR
  by_cases hlt : e < i
  rotate_left
  · have e1 := gtr_fn hlt
    refine WP.seq (WP.seq (WP.ops (WO.r (.mv rfl) (WO.r (.mv rfl) (WO.r (.arith rfl rfl e1) (WO.nil (WP.cond rfl (fun h => Bool.noConfusion (show false = true from h)) (fun _ => WP.exit ?_))))))))
    exact hk _ _ ⟨m1, R, rfl, hR⟩
  have e1 := gtr_tn hlt
  have s1 := sub_n (a := i) (b := 1) (by omega) (by omega)
  have g1 : R[i]? = some (R[i]'(by omega)) := List.getElem?_eq_getElem _
  have g2 : R[i - 1]? = some (R[i - 1]'(by omega)) := List.getElem?_eq_getElem _
  generalize R[i]'(by omega) = x at g1
  generalize R[i - 1]'(by omega) = y at g2
  have e2 : (edR R ++ X)[0 + (i - 1)]? = some y.row := ed_at g2
  have e3 : (edR R ++ X)[0 + i]? = some x.row := ed_at g1
  have e4 : ((edR R ++ X).set (0 + i) y.row)[0 + (i - 1)]? = some y.row := ed_at2 g2 (by omega)
  refine WP.seq (WP.seq (WP.ops (WO.r (.mv rfl) (WO.r (.mv rfl) (WO.r (.arith rfl rfl e1) (WO.nil (WP.cond rfl (fun _ => WP.skip ?_) (fun h => Bool.noConfusion (show true = false from h)))))))))
  refine WP.seq (WP.block (WP.drawn0 (WD.pu (.mv rfl) (WD.pu (.mv rfl) (WD.pu (.mv rfl) (WD.pu (.mv rfl) (WD.pu (.arith rfl rfl s1) (WD.pu (.mv rfl) (WD.pu (.mv rfl) (WD.pu (.arith rfl rfl s1) (WD.pu (.iaddrS rfl rfl (by omega) (by decide)) (WD.ld rfl .nil (.load (cs := ED.row y) rfl (.app .here) e2 rfl rfl) (WD.pu (.mv rfl) (WD.pu (.mv rfl) (WD.pu (.iaddrS rfl rfl (by omega) (by decide)) (WD.ld rfl .nil (.load (cs := ED.row x) rfl (.app .here) e3 rfl rfl) (WD.pu (.iaddrS rfl rfl (by omega) (by decide)) (WD.ch .nil (WS.store (row' := ED.row y) rfl rfl rfl (.app .here) e3 rfl (WD.pu (.iaddrS rfl rfl (by omega) (by decide)) (WD.ch .nil (WS.store (row' := ED.row x) rfl rfl rfl (.app .here) e4 rfl (WD.nil .nil (WP.ops (WO.r (.mv rfl) (WO.r (.arith rfl rfl s1) (WO.r (.mv rfl) (WO.nil ?_))))) (fun o h => nomatch h))))))))))))))))))))))))
  exact ⟨(i - 1) - e, by omega, rfl, i - 1, rfl, by omega, by omega, ⟨m1, (R.set i y).set (i - 1) x, by rw [← ed_sw g1 g2]; rfl, (sw_perm g1 g2).trans hR⟩, sbs⟩
def MrgI (P : Program) (K : Orc) (F : Nat → FuncId) (bq N c : Nat) (sl : Bool) (sv : AV) (X : List (List AV)) (t : SH) (L : List ED) (n : Nat) : Prop := ∀ (a m b : Nat) (s : SH), b - a ≤ n → a < m → m < b → b ≤ N → Sd bq X t L s → Tri P K (F 238) [.slice (some ⟨bq, 0, 0⟩) N c sl 4, iv (.ofNat a), iv (.ofNat m), iv (.ofNat b), .func (F 175) [sv] []] s (fun _ s' => Sd bq X t L s')
theorem mrgZ_ok {L : List ED} {X : List (List AV)} {bq N c a m b h e n : Nat} {sl : Bool} {sv : AV} {t s : SH} (IH : MrgI P K F bq N c sl sv X t L n) (h1 : b - h ≤ n) (hb : b ≤ N) (hs : Sd bq X t L s)
    (hl : ∀ q w, lk ((18, iv (.ofNat h)) :: (24, iv (.ofNat e)) :: mrgB F bq N c a m b sl sv) q = some w → lk l q = some w) (hk : ∀ l2 s2, Sd bq X t L s2 → Qn l2 [] s2) : WP P K none 220 (a238Z F T) l [] s Qn Qe Qr := by
  refine WP.weak hl (fun _ _ h => h) ?_
  unfold a238Z
  by_cases c1 : h < e
  · have e1 := lss_t c1
    by_cases c2 : e < b
    · have e2 := lss_t c2
      refine WP.seq (WP.ops (WO.r (.mv rfl) (WO.r (.mv rfl) (WO.r (.arith rfl rfl e1) (WO.r (.mv rfl) (WO.yes (WO.r (.mv rfl) (WO.yes (WO.r (.mv rfl) (WO.yes (WO.r (.arith rfl rfl e2) (WO.r (.pick1 rfl rfl) (WO.nil (WP.cond rfl (fun _ => WP.ops (WO.r (.mv rfl) (WO.r (.mv rfl) (WO.r (.mv rfl) (WO.r (.mv rfl) (WO.r (.mv rfl) ?_)))))) (fun h => Bool.noConfusion (show true = false from h))))))))))))))))
      refine WO.w (WS.callF (first := []) (vs := [AV.slice (some (Pl.mk bq 0 0)) N c sl 4, iv (Int.ofNat h), iv (Int.ofNat e), iv (Int.ofNat b), AV.func (F 175) [sv] []]) (cap := []) rfl rfl (IH h e b _ h1 c1 c2 hb hs) ?_)
      rintro w s2 hs2
      refine WO.nil ?_
      exact hk _ _ hs2
    · have e2 := lss_f c2
      refine WP.seq (WP.ops (WO.r (.mv rfl) (WO.r (.mv rfl) (WO.r (.arith rfl rfl e1) (WO.r (.mv rfl) (WO.yes (WO.r (.mv rfl) (WO.yes (WO.r (.mv rfl) (WO.yes (WO.r (.arith rfl rfl e2) (WO.r (.pick1 rfl rfl) (WO.nil (WP.cond rfl (fun h => Bool.noConfusion (show false = true from h)) (fun _ => WP.skip ?_)))))))))))))))
      exact hk _ _ hs
  · have e1 := lss_f c1
    refine WP.seq (WP.ops (WO.r (.mv rfl) (WO.r (.mv rfl) (WO.r (.arith rfl rfl e1) (WO.r (.mv rfl) (WO.skip (WO.skip (WO.skip (WO.r (.pick0 rfl rfl) (WO.nil (WP.cond rfl (fun h => Bool.noConfusion (show false = true from h)) (fun _ => WP.skip ?_))))))))))))
    exact hk _ _ hs
theorem mrgY_ok {L : List ED} {X : List (List AV)} {bq N c a m b h e st n : Nat} {sl : Bool} {sv : AV} {t s : SH} (IH : MrgI P K F bq N c sl sv X t L n) (h1 : b - h ≤ n) (h2 : h - a ≤ n) (hhb : h ≤ b) (hb : b ≤ N) (hs : Sd bq X t L s)
    (hl : ∀ q w, lk ((18, iv (.ofNat h)) :: (20, iv (.ofNat st)) :: (24, iv (.ofNat e)) :: mrgB F bq N c a m b sl sv) q = some w → lk l q = some w) (hk : ∀ l2 s2, Sd bq X t L s2 → Qn l2 [] s2) : WP P K none 220 (a238Y F T) l [] s Qn Qe Qr := by
  refine WP.weak hl (fun _ _ h => h) ?_
  unfold a238Y
  by_cases c1 : a < st
  · have e1 := lss_t c1
    by_cases c2 : st < h
    · have e2 := lss_t c2
      refine WP.seq (WP.seq (WP.ops (WO.r (.mv rfl) (WO.r (.mv rfl) (WO.r (.arith rfl rfl e1) (WO.r (.mv rfl) (WO.yes (WO.r (.mv rfl) (WO.yes (WO.r (.mv rfl) (WO.yes (WO.r (.arith rfl rfl e2) (WO.r (.pick1 rfl rfl) (WO.nil (WP.cond rfl (fun _ => WP.ops (WO.r (.mv rfl) (WO.r (.mv rfl) (WO.r (.mv rfl) (WO.r (.mv rfl) (WO.r (.mv rfl) ?_)))))) (fun h => Bool.noConfusion (show true = false from h)))))))))))))))))
      refine WO.w (WS.callF (first := []) (vs := [AV.slice (some (Pl.mk bq 0 0)) N c sl 4, iv (Int.ofNat a), iv (Int.ofNat st), iv (Int.ofNat h), AV.func (F 175) [sv] []]) (cap := []) rfl rfl (IH a st h _ h2 c1 c2 (by omega) hs) ?_)
      rintro w s2 hs2
      refine WO.nil (mrgZ_ok (T := T) IH h1 hb hs2 (sbs) hk)
    · have e2 := lss_f c2
      refine WP.seq (WP.seq (WP.ops (WO.r (.mv rfl) (WO.r (.mv rfl) (WO.r (.arith rfl rfl e1) (WO.r (.mv rfl) (WO.yes (WO.r (.mv rfl) (WO.yes (WO.r (.mv rfl) (WO.yes (WO.r (.arith rfl rfl e2) (WO.r (.pick1 rfl rfl) (WO.nil (WP.cond rfl (fun h => Bool.noConfusion (show false = true from h)) (fun _ => WP.skip ?_))))))))))))))))
      exact mrgZ_ok (T := T) IH h1 hb hs (sbs) hk
  · have e1 := lss_f c1
    refine WP.seq (WP.seq (WP.ops (WO.r (.mv rfl) (WO.r (.mv rfl) (WO.r (.arith rfl rfl e1) (WO.r (.mv rfl) (WO.skip (WO.skip (WO.skip (WO.r (.pick0 rfl rfl) (WO.nil (WP.cond rfl (fun h => Bool.noConfusion (show false = true from h)) (fun _ => WP.skip ?_)))))))))))))
    exact mrgZ_ok (T := T) IH h1 hb hs (sbs) hk
theorem mrgX_ok (hC : BaseCh P K F T) (hS : BaseSl P K F T) {L : List ED} {X : List (List AV)} {bq N c a m b h st n : Nat} {sl : Bool} {sv : AV} {t s : SH} (hN : L.length = N) (hn : N ≤ 1099511627776) (IH : MrgI P K F bq N c sl sv X t L n) (h1 : b - h ≤ n) (h2 : h - a ≤ n) (hhb : h ≤ b) (hb : b ≤ N) (hst : st ≤ h + m) (hmN : m ≤ N) (he : h + m ≤ st + b) (hs : Sd bq X t L s)
    (hl : ∀ q w, lk ((18, iv (.ofNat h)) :: (19, iv (.ofNat (h + m))) :: (20, iv (.ofNat st)) :: mrgB F bq N c a m b sl sv) q = some w → lk l q = some w) (hk : ∀ l2 s2, Sd bq X t L s2 → Qn l2 [] s2) : WP P K none 220 (a238X F T) l [] s Qn Qe Qr := by
  refine WP.weak hl (fun _ _ h => h) ?_
  unfold a238X
  have s1 := sub_n hst (by omega)
  by_cases c1 : st < m
  · have e1 := lss_t c1
    by_cases c2 : m < h + m - st
    · have e2 := lss_t c2
      refine WP.seq (WP.ops (WO.r (.mv rfl) (WO.r (.mv rfl) (WO.r (.arith rfl rfl s1) (WO.r (.mv rfl) (WO.nil ?_))))))
      refine WP.seq (WP.seq (WP.ops (WO.r (.mv rfl) (WO.r (.mv rfl) (WO.r (.arith rfl rfl e1) (WO.r (.mv rfl) (WO.yes (WO.r (.mv rfl) (WO.yes (WO.r (.mv rfl) (WO.yes (WO.r (.arith rfl rfl e2) (WO.r (.pick1 rfl rfl) (WO.nil (WP.cond rfl (fun _ => WP.ops (WO.r (.mv rfl) (WO.r (.mv rfl) (WO.r (.mv rfl) (WO.r (.mv rfl) (WO.r (.mv rfl) ?_)))))) (fun h => Bool.noConfusion (show true = false from h)))))))))))))))))
      refine WO.w (WS.callF (first := []) (vs := [AV.slice (some (Pl.mk bq 0 0)) N c sl 4, iv (Int.ofNat st), iv (Int.ofNat m), iv (Int.ofNat (h + m - st)), AV.func (F 175) [sv] []]) (cap := []) rfl rfl (rotate286_ok hC hS hN hn c1 c2 (by omega) hs) ?_)
      rintro w s2 hs2
      refine WO.nil (mrgY_ok (T := T) IH h1 h2 hhb hb hs2 (sbs) hk)
    · have e2 := lss_f c2
      refine WP.seq (WP.ops (WO.r (.mv rfl) (WO.r (.mv rfl) (WO.r (.arith rfl rfl s1) (WO.r (.mv rfl) (WO.nil ?_))))))
      refine WP.seq (WP.seq (WP.ops (WO.r (.mv rfl) (WO.r (.mv rfl) (WO.r (.arith rfl rfl e1) (WO.r (.mv rfl) (WO.yes (WO.r (.mv rfl) (WO.yes (WO.r (.mv rfl) (WO.yes (WO.r (.arith rfl rfl e2) (WO.r (.pick1 rfl rfl) (WO.nil (WP.cond rfl (fun h => Bool.noConfusion (show false = true from h)) (fun _ => WP.skip ?_))))))))))))))))
      exact mrgY_ok (T := T) IH h1 h2 hhb hb hs (sbs) hk
  · have e1 := lss_f c1
    refine WP.seq (WP.ops (WO.r (.mv rfl) (WO.r (.mv rfl) (WO.r (.arith rfl rfl s1) (WO.r (.mv rfl) (WO.nil ?_))))))
    refine WP.seq (WP.seq (WP.ops (WO.r (.mv rfl) (WO.r (.mv rfl) (WO.r (.arith rfl rfl e1) (WO.r (.mv rfl) (WO.skip (WO.skip (WO.skip (WO.r (.pick0 rfl rfl) (WO.nil (WP.cond rfl (fun h => Bool.noConfusion (show false = true from h)) (fun _ => WP.skip ?_)))))))))))))
    exact mrgY_ok (T := T) IH h1 h2 hhb hb hs (sbs) hk
theorem merge238_ok (hC : BaseCh P K F T) (hS : BaseSl P K F T) (hT : TyC P T) {L : List ED} {X : List (List AV)} {bq N c : Nat} {sl : Bool} {sv : AV} {t : SH} (hN : L.length = N) (hn : N ≤ 1099511627776) : ∀ n, MrgI P K F bq N c sl sv X t L n
  | 0, a, m, b, s, h, h1, h2, _, _ => absurd h (by omega)
  | n + 1, a, m, b, s, h, h1, h2, hb, hs => by
    have IH := merge238_ok hC hS hT (X := X) (bq := bq) (c := c) (sl := sl) (sv := sv) (t := t) hN hn n
    refine hS.f238.tri ?_
    unfold a238
    have s1 := sub_n (a := m) (b := a) (by omega) (by omega)
    have s2 := sub_n (a := b) (b := m) (by omega) (by omega)
    by_cases hm1 : m - a = 1
    · have e1 : eqBy 20 .pi (iv (.ofNat (m - a))) (iv 1) = some true := by rw [hm1]; rfl
      refine WP.seq (WP.seq (WP.ops (WO.r (.mv rfl) (WO.r (.mv rfl) (WO.r (.arith rfl rfl s1) (WO.r (.eql rfl rfl e1) (WO.nil (WP.cond rfl (fun _ => ?_) (fun h => Bool.noConfusion (show true = false from h))))))))))
      refine WP.seq (WP.ops (WO.r (.mv rfl) (WO.r (.mv rfl) (WO.nil ?_))))
      refine WP.seq (WP.ops (WO.r (.mv rfl) (WO.r (.mv rfl) (WO.nil ?_))))
      refine WP.seq (mrgA_ok (T := T) (F := F) hC hS hT hN hn (i0 := m) (j0 := b) (c := c) (a := a) (m := m) (b := b) (sl := sl) (sv := sv) (by omega) hb (by omega) hs (sbs) fun i l2 s3 hi hib hs3 hl2 => WP.weak hl2 (fun _ _ h => h) ?_)
      refine WP.seq (WP.seq (WP.ops (WO.r (.mv rfl) (WO.r (.mv rfl) (WO.nil ?_)))))
      refine mrgBl_ok (T := T) (F := F) hN hn (a := a) (e := i) (c := c) (m := m) (b := b) (sl := sl) (sv := sv) (by omega) (by omega) hs3 (sbs) fun l3 s4 hs4 => ?_
      refine WP.ret (Fin.mk .nil ?_)
      exact hs4
    have e1 : eqBy 20 .pi (iv (.ofNat (m - a))) (iv 1) = some false := by rw [eqB_i, decide_eq_false (show ¬ Int.ofNat (m - a) = 1 from fun hh => hm1 (Int.ofNat.inj hh))]
    by_cases hm2 : b - m = 1
    · have e2 : eqBy 20 .pi (iv (.ofNat (b - m))) (iv 1) = some true := by rw [hm2]; rfl
      refine WP.seq (WP.seq (WP.ops (WO.r (.mv rfl) (WO.r (.mv rfl) (WO.r (.arith rfl rfl s1) (WO.r (.eql rfl rfl e1) (WO.nil (WP.cond rfl (fun h => Bool.noConfusion (show false = true from h)) (fun _ => WP.skip ?_)))))))))
      refine WP.seq (WP.seq (WP.ops (WO.r (.mv rfl) (WO.r (.mv rfl) (WO.r (.arith rfl rfl s2) (WO.r (.eql rfl rfl e2) (WO.nil (WP.cond rfl (fun _ => ?_) (fun h => Bool.noConfusion (show true = false from h))))))))))
      refine WP.seq (WP.ops (WO.r (.mv rfl) (WO.r (.mv rfl) (WO.nil ?_))))
      refine WP.seq (WP.ops (WO.r (.mv rfl) (WO.r (.mv rfl) (WO.nil ?_))))
      refine WP.seq (mrgC_ok (T := T) (F := F) hC hS hT hN hn (i0 := a) (j0 := m) (c := c) (a := a) (m := m) (b := b) (sl := sl) (sv := sv) (by omega) (by omega) (by omega) hs (sbs) fun i l2 s3 hi hib hs3 hl2 => WP.weak hl2 (fun _ _ h => h) ?_)
      refine WP.seq (WP.seq (WP.ops (WO.r (.mv rfl) (WO.r (.mv rfl) (WO.nil ?_)))))
      refine mrgD_ok (T := T) (F := F) hN hn (a := a) (e := i) (c := c) (m := m) (b := b) (sl := sl) (sv := sv) (by omega) (by omega) hs3 (sbs) fun l3 s4 hs4 => ?_
      refine WP.ret (Fin.mk .nil ?_)
      exact hs4
    have e2 : eqBy 20 .pi (iv (.ofNat (b - m))) (iv 1) = some false := by rw [eqB_i, decide_eq_false (show ¬ Int.ofNat (b - m) = 1 from fun hh => hm2 (Int.ofNat.inj hh))]
    have c37 : mkI .u64 (.ofNat (a + b)) = some (.int .u64 (.ofNat (a + b))) := mid_u (by omega)
    have c38 := mid_h (a + b)
    have c39 : mkI .i64 (.ofNat ((a + b) / 2)) = some (iv (.ofNat ((a + b) / 2))) := mkI_n (by omega)
    generalize hh : (a + b) / 2 = h0 at c38 c39
    by_cases hc : h0 < m
    · have e3 := gtr_tn hc
      have s3 := sub_n (a := h0 + m) (b := b) (by omega) (by omega)
      have s4 := sub_n (a := h0 + m) (b := 1) (by omega) (by omega)
      refine WP.seq (WP.seq (WP.ops (WO.r (.mv rfl) (WO.r (.mv rfl) (WO.r (.arith rfl rfl s1) (WO.r (.eql rfl rfl e1) (WO.nil (WP.cond rfl (fun h => Bool.noConfusion (show false = true from h)) (fun _ => WP.skip ?_)))))))))
      refine WP.seq (WP.seq (WP.ops (WO.r (.mv rfl) (WO.r (.mv rfl) (WO.r (.arith rfl rfl s2) (WO.r (.eql rfl rfl e2) (WO.nil (WP.cond rfl (fun h => Bool.noConfusion (show false = true from h)) (fun _ => WP.skip ?_)))))))))
      refine WP.seq (WP.ops (WO.r (.mv rfl) (WO.r (.mv rfl) (WO.r (.arith rfl rfl (add_n (by omega))) (WO.r (.convI rfl c37) (WO.r (.arith rfl rfl c38) (WO.r (.convI rfl c39) (WO.r (.mv rfl) (WO.nil ?_)))))))))
      refine WP.seq (WP.ops (WO.r (.mv rfl) (WO.r (.mv rfl) (WO.r (.arith rfl rfl (add_n (by omega))) (WO.r (.mv rfl) (WO.nil ?_))))))
      refine WP.seq (WP.ops (WO.r (.mv rfl) (WO.r (.mv rfl) (WO.nil ?_))))
      refine WP.seq (WP.seq (WP.ops (WO.r (.mv rfl) (WO.r (.mv rfl) (WO.r (.arith rfl rfl e3) (WO.nil (WP.cond rfl (fun _ => ?_) (fun h => Bool.noConfusion (show true = false from h)))))))))
      refine WP.seq (WP.ops (WO.r (.mv rfl) (WO.r (.mv rfl) (WO.r (.arith rfl rfl s3) (WO.r (.mv rfl) (WO.nil (WP.ops (WO.r (.mv rfl) (WO.r (.mv rfl) (WO.nil ?_))))))))))
      refine WP.seq (WP.ops (WO.r (.mv rfl) (WO.r (.arith rfl rfl s4) (WO.r (.mv rfl) (WO.nil ?_)))))
      refine WP.seq (mrgE_ok (T := T) (F := F) hC hS hT hN hn (i0 := h0 + m - b) (j0 := h0) (p := h0 + m - 1) (v18 := h0) (v19 := h0 + m) (c := c) (a := a) (m := m) (b := b) (sl := sl) (sv := sv) (by omega) (by omega) (by omega) (fun c h1 h2 => by omega) hs (sbs) fun i l2 s3 hi hib hs3 hl2 => ?_)
      exact mrgX_ok (T := T) hC hS hN hn IH (by omega) (by omega) (by omega) hb (by omega) (by omega) (by omega) hs3 hl2 fun l9 s9 h9 => Fin.mk .nil h9
    · have e3 := gtr_fn hc
      have s4 := sub_n (a := h0 + m) (b := 1) (by omega) (by omega)
      refine WP.seq (WP.seq (WP.ops (WO.r (.mv rfl) (WO.r (.mv rfl) (WO.r (.arith rfl rfl s1) (WO.r (.eql rfl rfl e1) (WO.nil (WP.cond rfl (fun h => Bool.noConfusion (show false = true from h)) (fun _ => WP.skip ?_)))))))))
      refine WP.seq (WP.seq (WP.ops (WO.r (.mv rfl) (WO.r (.mv rfl) (WO.r (.arith rfl rfl s2) (WO.r (.eql rfl rfl e2) (WO.nil (WP.cond rfl (fun h => Bool.noConfusion (show false = true from h)) (fun _ => WP.skip ?_)))))))))
      refine WP.seq (WP.ops (WO.r (.mv rfl) (WO.r (.mv rfl) (WO.r (.arith rfl rfl (add_n (by omega))) (WO.r (.convI rfl c37) (WO.r (.arith rfl rfl c38) (WO.r (.convI rfl c39) (WO.r (.mv rfl) (WO.nil ?_)))))))))
      refine WP.seq (WP.ops (WO.r (.mv rfl) (WO.r (.mv rfl) (WO.r (.arith rfl rfl (add_n (by omega))) (WO.r (.mv rfl) (WO.nil ?_))))))
      refine WP.seq (WP.ops (WO.r (.mv rfl) (WO.r (.mv rfl) (WO.nil ?_))))
      refine WP.seq (WP.seq (WP.ops (WO.r (.mv rfl) (WO.r (.mv rfl) (WO.r (.arith rfl rfl e3) (WO.nil (WP.cond rfl (fun h => Bool.noConfusion (show false = true from h)) (fun _ => ?_))))))))
      refine WP.seq (WP.ops (WO.r (.mv rfl) (WO.r (.mv rfl) (WO.nil (WP.ops (WO.r (.mv rfl) (WO.r (.mv rfl) (WO.nil ?_))))))))
      refine WP.seq (WP.ops (WO.r (.mv rfl) (WO.r (.arith rfl rfl s4) (WO.r (.mv rfl) (WO.nil ?_)))))
      refine WP.seq (mrgE_ok (T := T) (F := F) hC hS hT hN hn (i0 := a) (j0 := m) (p := h0 + m - 1) (v18 := h0) (v19 := h0 + m) (c := c) (a := a) (m := m) (b := b) (sl := sl) (sv := sv) (by omega) (by omega) (by omega) (fun c h1 h2 => by omega) hs (sbs) fun i l2 s3 hi hib hs3 hl2 => ?_)
      exact mrgX_ok (T := T) hC hS hN hn IH (by omega) (by omega) (by omega) hb (by omega) (by omega) (by omega) hs3 hl2 fun l9 s9 h9 => Fin.mk .nil h9
end
end Go.Ev
set_option maxHeartbeats 8000000
namespace Go.Ev
section
variable {P : Program} {K : Orc} {rd : Option Nat} {nt : Nat} {l : Sl} {ds : List ADef} {s : SH} {Q Qn Qr : Po} {Qe : Nat → Po} {F : Nat → FuncId} {T : Nat → TypeId}
theorem WP.unroll {b : AC} (h : WP P K rd nt b l ds s (fun l ds s => WP P K rd nt (.loop b) l ds s Qn Qe Qr) Qe Qr) : WP P K rd nt (.loop b) l ds s Qn Qe Qr := by
  intro c0 hc H0 e H he hH
  cases c0 with
  | loop b0 =>
    simp only [cc, AC.loop.injEq] at hc
    obtain ⟨x, e1, ds1, H1, l1, s1, k1, k2, k3, k4⟩ := h b0 hc H0 e H he hH
    cases x with
    | normal =>
      obtain ⟨x, e2, ds2, H2, l2, s2, j1, j2, j3, j4⟩ := k4 (.loop b0) (by simp only [cc, hc]) H0 e1 H1 k2 k3
      exact ⟨_, _, _, _, _, _, Runs.again k1 j1, j2, j3, j4⟩
    | exit i => exact ⟨_, _, _, _, _, _, Runs.out k1 (by intro h; cases h), k2, k3, k4⟩
    | ret => exact ⟨_, _, _, _, _, _, Runs.out k1 (by intro h; cases h), k2, k3, k4⟩
  | region i ops d => exact (cc_region hc).elim
  | _ => simp [cc] at hc
theorem mul_n {a b : Nat} (h : a * b ≤ 9223372036854775807) : binV .mul (iv (.ofNat a)) (iv (.ofNat b)) = some (iv (.ofNat (a * b))) := mkI_n h
theorem leq_t {a b : Nat} (h : a ≤ b) : binV .leq (iv (.ofNat a)) (iv (.ofNat b)) = some (.bool true) := by
  rw [leq_i2, decide_eq_false (show ¬ Int.ofNat b < Int.ofNat a from fun e => absurd (Int.ofNat_lt.1 e) (by omega))]; rfl
theorem leq_f {a b : Nat} (h : ¬ a ≤ b) : binV .leq (iv (.ofNat a)) (iv (.ofNat b)) = some (.bool false) := by
  rw [leq_i2, decide_eq_true (show Int.ofNat b < Int.ofNat a from Int.ofNat_lt.2 (by omega))]; rfl
def SdP (bq : Nat) (X : List (List AV)) (t : SH) (L : List ED) (s : SH) : Prop := ∃ s', s.Perm s' ∧ Sd bq X t L s'
theorem insertS (hC : BaseCh P K F T) (hS : BaseSl P K F T) (hT : TyC P T) {L : List ED} {X : List (List AV)} {bq c a b N : Nat} {sl : Bool} {sv : AV} {t : SH} (hN : L.length = N) (hb : b ≤ N) (hn : N ≤ big) (ha : a ≤ big) (hs : SdP bq X t L s) :
    Tri P K (F 237) [.slice (some ⟨bq, 0, 0⟩) N c sl 4, iv (.ofNat a), iv (.ofNat b), .func (F 175) [sv] []] s (fun _ s' => SdP bq X t L s') := by
  obtain ⟨_, hp, m, R, rfl, hR⟩ := hs
  have hRN : R.length = N := hR.trans hN
  intro H0 H hH
  obtain ⟨v, s', H', h1, h2, m2, R2, rfl, hR2⟩ := insert_ok hC hS hT (L := R) (X := X) (bq := bq) (c := c) (a := a) (b := b) (sl := sl) (sv := sv) (t := m ++ t) (by omega) (by omega) ha H0 H (hH.perm (hp.trans List.perm_middle))
  rw [hRN] at h1
  exact ⟨v, _, H', h1, h2, _, (List.perm_middle.append_left m2).symm.trans (by rw [← List.append_assoc]), m2 ++ m, R2, rfl, hR2.trans hR⟩
theorem mergeS (hC : BaseCh P K F T) (hS : BaseSl P K F T) (hT : TyC P T) {L : List ED} {X : List (List AV)} {bq N c a m b : Nat} {sl : Bool} {sv : AV} {t : SH} (hN : L.length = N) (hn : N ≤ big) (h1 : a < m) (h2 : m < b) (h3 : b ≤ N) (hs : SdP bq X t L s) :
    Tri P K (F 238) [.slice (some ⟨bq, 0, 0⟩) N c sl 4, iv (.ofNat a), iv (.ofNat m), iv (.ofNat b), .func (F 175) [sv] []] s (fun _ s' => SdP bq X t L s') := by
  obtain ⟨s2, hp, hs⟩ := hs
  intro H0 H hH
  obtain ⟨v, s', H', k1, k2, k3⟩ := merge238_ok hC hS hT (L := L) (X := X) (bq := bq) (N := N) (c := c) (sl := sl) (sv := sv) (t := t) hN hn N a m b s2 (by omega) h1 h2 h3 hs H0 H (hH.perm hp)
  exact ⟨v, _, H', k1, k2, _, .refl _, k3⟩
@[reducible] def stC (F : Nat → FuncId) (bq N c : Nat) (sl : Bool) (sv : AV) (q : Nat) : Sl := [(0, .slice (some ⟨bq, 0, 0⟩) N c sl 4), (1, iv (.ofNat N)), (2, .func (F 175) [sv] []), (6, iv (.ofNat q))]
theorem stable207 (hC : BaseCh P K F T) (hS : BaseSl P K F T) (hT : TyC P T) {L : List ED} {X : List (List AV)} {bq c N : Nat} {sl : Bool} {sv : AV} {t : SH} (hN : L.length = N) (hn : N ≤ big) (hs : SdP bq X t L s) :
    Tri P K (F 207) [.slice (some ⟨bq, 0, 0⟩) N c sl 4, iv (.ofNat N), .func (F 175) [sv] []] s (fun _ s' => SdP bq X t L s') := by
  refine hS.f207.tri ?_
  unfold a207
  have hbig : N ≤ 1099511627776 := hn
  refine Vr (k := ?_)
  refine WP.loop (fun k l ds s' => ds = [] ∧ ∃ a, k = N - a ∧ a ≤ N ∧ SdP bq X t L s' ∧ ∀ j w, lk ((7, iv (.ofNat a)) :: (8, iv (.ofNat (a + 20))) :: stC F bq N c sl sv 20) j = some w → lk l j = some w) ?_ (n := N - 0) ⟨rfl, 0, rfl, Nat.zero_le _, hs, sbs⟩
  rintro k l ds s' ⟨rfl, a, rfl, ha, hs, hlk⟩
  refine WP.weak hlk (fun _ _ h => h) ?_
  by_cases hlt : a + 20 ≤ N
  · have e1 := leq_t hlt
    have e2 : binV .add (iv (.ofNat (a + 20))) (AV.int .i64 (.ofNat 20)) = some (iv (.ofNat (a + 20 + 20))) := add_n (by omega)
    refine Vr (k := WO.w (WS.cl (insertS hC hS hT (a := a) (c := c) (sl := sl) (sv := sv) hN hlt hn (show a ≤ 1099511627776 by omega) hs) ?_))
    rintro w s2 hs2
    refine Vr (k := ?_)
    exact ⟨N - (a + 20), by omega, rfl, a + 20, rfl, hlt, hs2, sbs⟩
  have e1 := leq_f hlt
  refine Vr (k := WO.w (WS.cl (insertS hC hS hT (a := a) (c := c) (sl := sl) (sv := sv) hN (Nat.le_refl _) hn (show a ≤ 1099511627776 by omega) hs) ?_))
  rintro w s2 hs2
  refine Vr (k := ?_)
  refine WP.loop (fun k l ds s' => ds = [] ∧ ∃ q, k = N - q ∧ 0 < q ∧ q ≤ 2 * N + 20 ∧ SdP bq X t L s' ∧ ∀ j w, lk (stC F bq N c sl sv q) j = some w → lk l j = some w) ?_ (n := N - 20) ⟨rfl, 20, rfl, by omega, by omega, hs2, sbs⟩
  rintro k l ds s' ⟨rfl, q, rfl, hq0, hq, hs, hlk⟩
  refine WP.weak hlk (fun _ _ h => h) ?_
  by_cases hlt : q < N
  rotate_left
  · have e1 := lss_f hlt
    refine Vr (k := ?_)
    exact Fin.mk .nil hs
  have e1 := lss_t hlt
  have e2 : binV .mul (AV.int .i64 (.ofNat 2)) (iv (.ofNat q)) = some (iv (.ofNat (2 * q))) := mul_n (by omega)
  have e3 : binV .mul (iv (.ofNat q)) (AV.int .i64 (.ofNat 2)) = some (iv (.ofNat (q * 2))) := mul_n (by omega)
  refine Vr (k := ?_)
  refine WP.loop (fun k l ds s' => ds = [] ∧ ∃ a, k = N - a ∧ a ≤ N ∧ SdP bq X t L s' ∧ ∀ j w, lk ((7, iv (.ofNat a)) :: (8, iv (.ofNat (a + 2 * q))) :: stC F bq N c sl sv q) j = some w → lk l j = some w) ?_ (n := N - 0) ⟨rfl, 0, rfl, Nat.zero_le _, hs, by rw [Nat.zero_add]; exact sbs⟩
  rintro k l ds s' ⟨rfl, a, rfl, ha, hs, hlk⟩
  refine WP.weak hlk (fun _ _ h => h) ?_
  have e5 : binV .add (iv (.ofNat a)) (iv (.ofNat q)) = some (iv (.ofNat (a + q))) := add_n (by omega)
  by_cases hl2 : a + 2 * q ≤ N
  · have e4 := leq_t hl2
    have e6 : binV .add (iv (.ofNat (a + 2 * q))) (iv (.ofNat (2 * q))) = some (iv (.ofNat (a + 2 * q + 2 * q))) := add_n (by omega)
    refine Vr (k := WO.w (WS.cl (mergeS hC hS hT (a := a) (m := a + q) (b := a + 2 * q) (c := c) (sl := sl) (sv := sv) hN hn (by omega) (by omega) hl2 hs) ?_))
    rintro w s2 hs2
    refine Vr (k := ?_)
    exact ⟨N - (a + 2 * q), by omega, rfl, a + 2 * q, rfl, hl2, hs2, sbs⟩
  have e4 := leq_f hl2
  by_cases hl3 : a + q < N
  · have e6 := lss_t hl3
    refine Vr (k := WO.w (WS.cl (mergeS hC hS hT (a := a) (m := a + q) (b := N) (c := c) (sl := sl) (sv := sv) hN hn (by omega) hl3 (Nat.le_refl _) hs) ?_))
    rintro w s2 hs2
    refine Vr (k := ?_)
    exact ⟨N - q * 2, by omega, rfl, q * 2, rfl, by omega, by omega, hs2, sbs⟩
  · have e6 := lss_f hl3
    refine Vr (k := ?_)
    exact ⟨N - q * 2, by omega, rfl, q * 2, rfl, by omega, by omega, hs, sbs⟩
theorem insert0_ok (hC : BaseCh P K F T) (hS : BaseSl P K F T) {v f : AV} : Tri P K (F 237) [v, iv (.ofNat 0), iv (.ofNat 0), f] s (fun _ s' => s' = s) := by
  refine hS.f237.tri ?_
  unfold a237
  refine WP.seq (WP.ops (WO.r (.mv rfl) (WO.r (.arith rfl rfl (add_n (a := 0) (b := 1) (by omega))) (WO.r (.mv rfl) (WO.nil (WP.block ?_))))))
  refine WP.unroll (WP.seq (WP.seq (WP.ops (WO.r (.mv rfl) (WO.r (.mv rfl) (WO.r (.arith (v := .bool false) rfl rfl rfl) (WO.nil (WP.cond rfl (fun h => by cases h) (fun _ => WP.exit ?_)))))))))
  exact Fin.mk .nil rfl
theorem stable0_ok (hC : BaseCh P K F T) (hS : BaseSl P K F T) {v f : AV} : Tri P K (F 207) [v, iv (.ofNat 0), f] s (fun _ s' => s' = s) := by
  refine hS.f207.tri ?_
  unfold a207
  refine WP.seq (WP.ops (WO.r (.mv rfl) (WO.nil ?_)))
  refine WP.seq (WP.ops (WO.r (.mv rfl) (WO.r (.mv rfl) (WO.r (.mv rfl) (WO.nil ?_)))))
  refine WP.seq (WP.block ?_)
  refine WP.unroll (WP.seq (WP.seq (WP.ops (WO.r (.mv rfl) (WO.r (.mv rfl) (WO.r (.arith (v := .bool false) rfl rfl rfl) (WO.nil (WP.cond rfl (fun h => by cases h) (fun _ => WP.exit ?_)))))))))
  refine WP.seq (WP.ops (WO.r (.mv rfl) (WO.r (.mv rfl) (WO.r (.mv rfl) (WO.r (.mv rfl) (WO.w (WS.callF (first := []) (vs := [v, iv (.ofNat 0), iv (.ofNat 0), f]) (cap := []) rfl rfl (insert0_ok hC hS) ?_)))))))
  rintro w _ rfl
  refine WO.nil (WP.block ?_)
  refine WP.unroll (WP.seq (WP.seq (WP.ops (WO.r (.mv rfl) (WO.r (.mv rfl) (WO.r (.arith (v := .bool false) rfl rfl rfl) (WO.nil (WP.cond rfl (fun h => by cases h) (fun _ => WP.exit ?_)))))))))
  exact Fin.mk .nil rfl
theorem sort_ok (hC : BaseCh P K F T) (hS : BaseSl P K F T) (hT : TyC P T) {v sv : AV} {L : List ED} {m o t : SH} (h : Gr 4 v (edR L) o) (hn : L.length ≤ big) :
    Tri P K (F 174) [v, .func (F 175) [sv] []] (m ++ (o ++ t)) (fun _ s' => ∃ R o' j, s'.Perm (m ++ (o' ++ (j ++ t))) ∧ Gr 4 v (edR R) o' ∧ R.length = L.length) := by
  refine hC.f174.tri ?_
  unfold a174
  have hl : (edR L).length = L.length := by simp [edR]
  have nil : edR L = [] → ∀ {u : AV}, lenOf u = some 0 → Gr 4 u [] [] → WP P K none 9 (.ops [⟨(some 4), (.mv (.tmp 0)), none⟩, ⟨(some 5), (.mv (.tmp 0)), none⟩, ⟨(some 6), (.lenS (.tmp 5)), none⟩, ⟨(some 7), (.mv (.tmp 1)), none⟩, ⟨(some 8), (.call (.func (F 207)) [(.tmp 4), (.tmp 6), (.tmp 7)]), none⟩]) (sl0 0 [u, .func (F 175) [sv] []]) [] (m ++ ([] ++ t)) (Fin P [] fun _ s' => ∃ R o' j, s'.Perm (m ++ (o' ++ (j ++ t))) ∧ Gr 4 u (edR R) o' ∧ R.length = L.length) (fun _ _ _ _ => False) (Fin P [] fun _ s' => ∃ R o' j, s'.Perm (m ++ (o' ++ (j ++ t))) ∧ Gr 4 u (edR R) o' ∧ R.length = L.length) := by
    intro he u hu hG
    have hL : L = [] := by
      cases L with
      | nil => rfl
      | cons a L => simp [edR] at he
    refine WP.ops (WO.r (.mv rfl) (WO.r (.mv rfl) (WO.r (.lenS rfl hu) (WO.r (.mv rfl) (WO.w (WS.callF (first := []) (vs := [u, iv (.ofNat 0), .func (F 175) [sv] []]) (cap := []) rfl rfl (stable0_ok hC hS) ?_))))))
    rintro w _ rfl
    exact WO.nil (Fin.mk .nil ⟨[], [], [], .refl _, hG, by rw [hL]⟩)
  generalize hE : edR L = E at h
  cases h with
  | nil => exact nil hE rfl .nil
  | zero => exact nil hE rfl .zero
  | @rows b n c _ X hn2 hc hL =>
    subst hE
    rw [hl] at hn2
    subst hn2
    refine WP.pre (s' := (b, .r false (edR L ++ X) 4) :: (m ++ t)) (perm_ct fun c w h0 h1 h2 hq => by simp only [h1, h2, h0]; omega) ?_
    refine WP.ops (WO.r (.mv rfl) (WO.r (.mv rfl) (WO.r (.lenS rfl rfl) (WO.r (.mv rfl) (WO.w (WS.callF (first := []) (vs := [.slice (some ⟨b, 0, 0⟩) L.length c true 4, iv (.ofNat L.length), .func (F 175) [sv] []]) (cap := []) rfl rfl (stable207 hC hS hT (L := L) (X := X) (t := m ++ t) rfl hn ⟨_, .refl _, [], L, rfl, rfl⟩) ?_))))))
    rintro w s2 ⟨_, hp, m2, R, rfl, hR⟩
    have hRl : (edR R).length = L.length := by simp [edR, hR]
    refine WO.nil (Fin.mk .nil ⟨R, [(b, .r false (edR R ++ X) 4)], m2, perm_ct fun c w h0 h1 h2 hq => by simp only [h1, h2, h0, hq _ _ hp]; omega, Gr.rows hRl.symm (by rw [hRl, ← hl]; exact hc) hL, hR⟩)
end
end Go.Ev
set_option maxHeartbeats 8000000
namespace Go.Ev
section
variable {P : Program} {K : Orc} {rd : Option Nat} {nt : Nat} {l : Sl} {ds : List ADef} {s : SH} {Q Qn Qr : Po} {Qe : Nat → Po} {F : Nat → FuncId} {T : Nat → TypeId}
theorem Gro.b2 {b : Bool} {p q : Nat × HO} : Gro s isB (.bool b) (p :: q :: s) := ⟨⟨_, rfl⟩, [p, q], rfl⟩
theorem fits171 (hC : BaseCh P K F T) {w : Int} {o b : List AV} (ho : OkR s rOb o) (hb : OkR s rOb b) : Tri P K (F 171) [iv w, .agg o, .agg b] s (Gro s isB) := by
  refine hC.f171.tri ?_
  unfold a171
  obtain ⟨a, bb, ev, rfl, -⟩ := ho.ob
  obtain ⟨a2, bb2, ev2, rfl, -⟩ := hb.ob
  refine Vr (k := fun b4 => Vr (k := fun b5 => ?_))
  repeat' (refine Vr (k := ?_); first | exact Gro.b2 | refine WO.g2 rfl ?_ ?_ | refine WO.skipu rfl ?_)
theorem OkR.cd {r : List AV} (h : OkR s rCd r) : ∃ (x : ByteArray) (a : Nat → Int) (av : AV), r = [.str x, iv (a 0), iv (a 1), iv (a 2), iv (a 3), iv (a 4), iv (a 5), iv (a 6), iv (a 7), iv (a 8), av] ∧ OkV s (.s rAb) av := by
  obtain ⟨x, _, rfl, hx, h0⟩ := h.inv
  cases hx
  obtain ⟨a0, _, rfl, h1⟩ := h0.invi
  obtain ⟨a1, _, rfl, h2⟩ := h1.invi
  obtain ⟨a2, _, rfl, h3⟩ := h2.invi
  obtain ⟨a3, _, rfl, h4⟩ := h3.invi
  obtain ⟨a4, _, rfl, h5⟩ := h4.invi
  obtain ⟨a5, _, rfl, h6⟩ := h5.invi
  obtain ⟨a6, _, rfl, h7⟩ := h6.invi
  obtain ⟨a7, _, rfl, h8⟩ := h7.invi
  obtain ⟨a8, _, rfl, h9⟩ := h8.invi
  obtain ⟨e, _, rfl, he, h14⟩ := h9.inv
  cases h14.nil_inv
  exact ⟨_, fun i => [a0, a1, a2, a3, a4, a5, a6, a7, a8].getD i 0, e, rfl, he⟩
theorem OkR.ab {r : List AV} (h : OkR s rAb r) : ∃ (a : Nat → Int) (b : Bool) (cv tv : AV), r = [iv (a 0), iv (a 1), iv (a 2), iv (a 3), iv (a 4), iv (a 5), iv (a 6), .bool b, cv, tv, iv (a 7), iv (a 8), iv (a 9)] := by
  obtain ⟨a0, _, rfl, h1⟩ := h.invi
  obtain ⟨a1, _, rfl, h2⟩ := h1.invi
  obtain ⟨a2, _, rfl, h3⟩ := h2.invi
  obtain ⟨a3, _, rfl, h4⟩ := h3.invi
  obtain ⟨a4, _, rfl, h5⟩ := h4.invi
  obtain ⟨a5, _, rfl, h6⟩ := h5.invi
  obtain ⟨a6, _, rfl, h7⟩ := h6.invi
  obtain ⟨b, _, rfl, h8⟩ := h7.invb
  obtain ⟨cv, _, rfl, -, h9⟩ := h8.inv
  obtain ⟨tv, _, rfl, -, h10⟩ := h9.inv
  obtain ⟨a7, _, rfl, h11⟩ := h10.invi
  obtain ⟨a8, _, rfl, h12⟩ := h11.invi
  obtain ⟨a9, _, rfl, h13⟩ := h12.invi
  cases h13.nil_inv
  exact ⟨fun i => [a0, a1, a2, a3, a4, a5, a6, a7, a8, a9].getD i 0, b, cv, tv, rfl⟩
inductive GrE (sz : Nat) : AV → List (List AV) → SH → Prop
  | nil {rw : Nat} : GrE sz (.slice none 0 0 false rw) [] []
  | rows {b : Nat} {L : List (List AV)} (hL : L ≠ []) : GrE sz (.slice (some ⟨b, 0, 0⟩) L.length L.length true sz) L [(b, .r false L sz)]
theorem GrE.gr {sz : Nat} {v : AV} {L : List (List AV)} {o : SH} (h : GrE sz v L o) : Gr sz v L o := by
  cases h with
  | nil => exact .nil
  | @rows b L hL =>
    have := Gr.rows (b := b) (sz := sz) (L := L) (T := []) rfl rfl (List.length_pos_iff.2 hL)
    rw [List.append_nil] at this
    exact this
theorem GrE.out {sz : Nat} {v : AV} {L : List (List AV)} {o : SH} (h : GrE sz v L o) : OutL o sz v L := h.gr.out
theorem WS.append_gre {P : Program} {K : Orc} {l : Sl} {ds : List ADef} {R : AV → List ADef → SH → Prop} {sz bytes : Nat} {ss x : Operand} {sv xv : AV} {L N : List (List AV)} {m o t : SH} (hs : opl l ss = some sv) (ho : GrE sz sv L o) (hx : opl l x = some xv) (hN : Src (m ++ (o ++ t)) sz xv N) (hz : sz ≠ 0) (h1 : L.length + N.length ≤ 1000000000) (h2 : bytes ≤ 1000)
    (k : ∀ v o' j, GrE sz v (L ++ N) o' → R v ds (o' ++ (m ++ (j ++ t)))) : WS P K (.append sz bytes ss x) l ds (m ++ (o ++ t)) R := by
  cases ho with
  | nil =>
    by_cases hN0 : N = []
    · subst hN0
      exact WS.append_none hs hx hN hz (Nat.le_refl _) (k _ [] [] .nil)
    · refine WS.append_nil (c := 0) hs hx hN hz hN0 (by simpa using h1) h2 fun b => ?_
      exact k _ [(b, .r false N sz)] [] (.rows hN0)
  | @rows b L hL =>
    by_cases hN0 : N = []
    · subst hN0
      have := k _ [(b, .r false L sz)] [] (by rw [List.append_nil]; exact .rows hL)
      exact WS.perm (WS.append_none hs hx hN hz (Nat.le_refl _) ⟨_, perm_ct fun c w h0 h1 h2 hq => by simp only [h1, h2, h0]; omega, this⟩)
    · refine WS.append_own hs rfl (.app .here) hx hN hz hN0 h1 h2 fun b' => ?_
      have := k (.slice (some ⟨b', 0, 0⟩) (L.length + N.length) (L.length + N.length) true sz) [(b', .r false (L ++ N) sz)] [(b, .junk)] (by rw [← List.length_append]; exact .rows (by simp [hL]))
      exact this
theorem GrE.one {sz : Nat} {v : AV} {L : List (List AV)} {o : SH} (h : GrE sz v L o) : partCells 1 v = some [v] := part1 (by cases h <;> rfl)
def Akk (b : Nat) (t : SH) (B : Nat) (s : SH) : Prop := ∃ lv og m E, GrE 4 lv (edR E) og ∧ E.length ≤ B ∧ s.Perm ((b, .r false [[lv]] 1) :: (m ++ (og ++ t)))
theorem Akk.mem {b B : Nat} {t s : SH} (h : Akk b t B s) : ∀ p, p ∈ t → p ∈ s := by
  obtain ⟨lv, og, m, E, -, -, hp⟩ := h
  exact fun p hq => hp.symm.subset (List.mem_cons_of_mem _ (List.mem_append_right _ (List.mem_append_right _ hq)))
theorem Akk.gro {b B : Nat} {t s m : SH} (h : Akk b t B s) : Akk b t B (m ++ s) := by
  obtain ⟨lv, og, m1, E, h1, h2, hp⟩ := h
  exact ⟨lv, og, m ++ m1, E, h1, h2, (hp.append_left m).trans (List.perm_middle.trans (by simp))⟩
theorem Akk.cons {b B : Nat} {t s : SH} {p : Nat × HO} (h : Akk b t B s) : Akk b t B (p :: s) := h.gro (m := [p])
theorem Akk.perm {b B : Nat} {t s s' m : SH} (h : Akk b t B s) (hp2 : s'.Perm (m ++ s)) : Akk b t B s' := by
  obtain ⟨lv, og, m1, E, h1, h2, hp⟩ := h.gro (m := m)
  exact ⟨lv, og, m1, E, h1, h2, hp2.trans hp⟩
theorem Akk.le {b B B' : Nat} {t s : SH} (h : Akk b t B s) (hB : B ≤ B') : Akk b t B' s := by
  obtain ⟨lv, og, m1, E, h1, h2, hp⟩ := h
  exact ⟨lv, og, m1, E, h1, by omega, hp⟩
theorem Akk.into {b B : Nat} {t s : SH} {p : Nat × HO} (h : Akk b t B s) : Akk b (p :: t) B (p :: s) := by
  obtain ⟨lv, og, m, E, h1, h2, hp⟩ := h
  exact ⟨lv, og, m, E, h1, h2, (hp.cons p).trans ((List.Perm.swap _ _ _).trans (List.Perm.cons _ (by rw [← List.append_assoc, ← List.append_assoc]; exact List.perm_middle.symm)))⟩
theorem Akk.out {b B : Nat} {t s : SH} {p : Nat × HO} (h : Akk b (p :: t) B s) : Akk b t B s := by
  obtain ⟨lv, og, m, E, h1, h2, hp⟩ := h
  refine ⟨lv, og, p :: m, E, h1, h2, hp.trans (List.Perm.cons _ ?_)⟩
  rw [← List.append_assoc]
  exact List.perm_middle.trans (by simp)
theorem WR.iai {l : Sl} {sz : Nat} {x i : Operand} {b r n c : Nat} {sl : Bool} {q : IntKind} {j : Nat} {z : Int} {v0 : AV} (e : v0 = .slice (some ⟨b, r, 0⟩) n c sl sz) (hj : j < n) (hz : z = Int.ofNat j) (hx : opl l x = some v0 := by exact rfl) (hi : opl l i = some (.int q z) := by exact rfl) (hs : sz ≠ 0 := by decide) : WR P (.iaddrS sz x i) l s (.ptr (some ⟨b, Nat.add r j, 0⟩)) := .iaddrS (e ▸ hx) (hz ▸ hi) hj hs
end
end Go.Ev
set_option maxHeartbeats 8000000
namespace Go.Ev
section
variable {P : Program} {K : Orc} {rd : Option Nat} {nt : Nat} {l : Sl} {ds : List ADef} {s : SH} {Q Qn Qr : Po} {Qe : Nat → Po} {F : Nat → FuncId} {T : Nat → TypeId}
theorem WS.append_cell {R : AV → List ADef → SH → Prop} {sz bytes b : Nat} {ss x : Operand} {sv xv : AV} {L N : List (List AV)} {m o t : SH} {c : HO} (hp : s.Perm ((b, c) :: (m ++ (o ++ t)))) (ho : GrE sz sv L o) (hN : Src s sz xv N) (hz : sz ≠ 0) (h1 : L.length + N.length ≤ 1000000000) (h2 : bytes ≤ 1000)
    (k : ∀ v m' o', GrE sz v (L ++ N) o' → R v ds ((b, c) :: (m' ++ (o' ++ t)))) (hs : opl l ss = some sv := by exact rfl) (hx : opl l x = some xv := by exact rfl) : WS P K (.append sz bytes ss x) l ds s R := by
  refine WS.pre (s' := ((b, c) :: m) ++ (o ++ t)) hp (WS.perm (WS.append_gre hs ho hx (hN.mono fun p hp' => hp.subset hp') hz h1 h2 fun v o' j hG => ?_))
  exact ⟨_, by simpa using (pm2 : (o' ++ ((b, c) :: (m ++ (j ++ t)))).Perm ((b, c) :: ((m ++ j) ++ (o' ++ t)))), k v (m ++ j) o' hG⟩
theorem pmA {p q x : Nat × HO} {m2 m y : SH} : (p :: (m2 ++ (q :: x :: (m ++ y)))).Perm (x :: ((p :: (m2 ++ q :: m)) ++ y)) := pm2
theorem act170 (hC : BaseCh P K F T) {b3 b7 b10 A B : Nat} {cv : AV} {Lc : List (List AV)} {o b : List AV} {t : SH} (hcv : SlT t rCd cv Lc) (hA : ∀ r ∈ Lc, ∀ v k, r[10]? = some v → lenOf v = some k → k ≤ A) (h3 : Has b3 (.r false [[cv]] 1) t) (h7 : Has b7 (.r false [b] 14) t)
    (ho : OkR t rOb o) (hb : OkR t rOb b) (hs : Akk b10 t B s) (hAB : B + A ≤ 999999999) :
    Tri P K (F 170) [.agg o, .ptr (some ⟨b3, 0, 0⟩), .ptr (some ⟨b7, 0, 0⟩), .ptr (some ⟨b10, 0, 0⟩)] s (fun _ s' => Akk b10 t (B + A) s') := by
  refine hC.f170.tri ?_
  unfold a170
  obtain ⟨a, bb, ev, rfl, -⟩ := ho.ob
  obtain ⟨ta, tb, tv, rfl, -⟩ := hb.ob
  have hl := hcv.len
  refine Vr (k := fun b4 => ?_)
  have hs := hs.into (p := (b4, .r false [[iv (a 0), iv (a 1), iv (a 2), iv (a 3), iv (a 4), .bool (bb 0), .bool (bb 1), .bool (bb 2), iv (a 5), iv (a 6), iv (a 7), iv (a 8), .bool (bb 3), ev]] 14))
  have k3 := (h3.there).mono hs.mem
  by_cases h0 : a 1 < 0
  · have e1 : binV .lss (iv (a 1)) (iv 0) = some (.bool true) := by rw [lss_i, decide_eq_true h0]
    refine Vr (k := ?_)
    exact hs.out.le (by omega)
  have e1 : binV .lss (iv (a 1)) (iv 0) = some (.bool false) := by rw [lss_i, decide_eq_false h0]
  by_cases h1 : a 1 < Int.ofNat Lc.length
  rotate_left
  · have e2 : binV .geq (iv (a 1)) (iv (.ofNat Lc.length)) = some (.bool true) := by rw [geq_i, decide_eq_false h1]; rfl
    refine Vr (k := ?_)
    exact hs.out.le (by omega)
  have e2 : binV .geq (iv (a 1)) (iv (.ofNat Lc.length)) = some (.bool false) := by rw [geq_i, decide_eq_true h1]; rfl
  obtain ⟨j, hj⟩ := Int.eq_ofNat_of_zero_le (Int.not_lt.1 h0)
  have hjL : j < Lc.length := by rw [hj] at h1; exact Int.ofNat_lt.1 h1
  obtain ⟨bc, rc, nc, cc, slc, roc, Mc, row, e, hbc, hnc, hMc, hr, hrm⟩ := hcv.at hjL
  obtain ⟨x, ca, av, rfl, hav⟩ := hr.cd
  obtain ⟨La, hLa⟩ := hav.sl
  have hla := hLa.len
  have hlA := hA _ hrm av _ rfl hla
  have k5 := hbc.there.mono hs.mem
  refine Vr (k := WO.r (.iai e hnc hj) (Vr (k := ?_)))
  refine WP.loop (fun k l ds s' => ds = [] ∧ ∃ q, k = La.length - q ∧ q ≤ La.length ∧ Akk b10 ((b4, .r false [[iv (a 0), iv (a 1), iv (a 2), iv (a 3), iv (a 4), .bool (bb 0), .bool (bb 1), .bool (bb 2), iv (a 5), iv (a 6), iv (a 7), iv (a 8), .bool (bb 3), ev]] 14) :: t) (B + q) s' ∧ ∀ i w, lk [(2, .ptr (some ⟨b7, 0, 0⟩)), (3, .ptr (some ⟨b10, 0, 0⟩)), (4, .ptr (some ⟨b4, 0, 0⟩)), (22, av), (23, iv (.ofNat La.length)), (24, iv (.ofNat q))] i = some w → lk l i = some w) ?_ (n := La.length - 0) ⟨rfl, 0, rfl, Nat.zero_le _, hs, sbs⟩
  rintro k l ds s' ⟨rfl, q, rfl, hq, hs, hlk⟩
  refine WP.weak hlk (fun _ _ h => h) ?_
  refine Vr (k := WP.cond rfl (fun hlt0 => ?_) (fun hlt0 => ?_))
  · have hlt : q < La.length := Int.ofNat_lt.1 (of_decide_eq_true hlt0)
    obtain ⟨b2, r2, n2, c2, sl2, ro2, M2, row, e2, hb2, hn2, hM2, hr2, -⟩ := hLa.at hlt
    obtain ⟨aa, ab, acv, atv, rfl⟩ := hr2.ab
    obtain ⟨lv, og, m, E, hG, hE, hp⟩ := hs
    refine WP.pre hp ?_
    have hadd : binV .add (AV.int .i64 (.ofNat q)) (AV.int .i64 (.ofNat 1)) = some (AV.int .i64 (.ofNat (q + 1))) := add_n (by omega)
    have q1 : ∀ {p}, p ∈ t → p ∈ ((b10, HO.r false [[lv]] 1) :: (m ++ (og ++ ((b4, HO.r false [[iv (a 0), iv (a 1), iv (a 2), iv (a 3), iv (a 4), .bool (bb 0), .bool (bb 1), .bool (bb 2), iv (a 5), iv (a 6), iv (a 7), iv (a 8), .bool (bb 3), ev]] 14) :: t)))) := fun hp => by simp [hp]
    have k6 := hb2.mono (fun _ => q1)
    have fin0 : ∀ m', Akk b10 ((b4, HO.r false [[iv (a 0), iv (a 1), iv (a 2), iv (a 3), iv (a 4), .bool (bb 0), .bool (bb 1), .bool (bb 2), iv (a 5), iv (a 6), iv (a 7), iv (a 8), .bool (bb 3), ev]] 14) :: t) (B + (q + 1)) (m' ++ ((b10, HO.r false [[lv]] 1) :: (m ++ (og ++ ((b4, HO.r false [[iv (a 0), iv (a 1), iv (a 2), iv (a 3), iv (a 4), .bool (bb 0), .bool (bb 1), .bool (bb 2), iv (a 5), iv (a 6), iv (a 7), iv (a 8), .bool (bb 3), ev]] 14) :: t))))) := fun m' => (Akk.gro ⟨lv, og, m, E, hG, by omega, .refl _⟩)
    refine Vr (k := WO.r (.ia e2 hn2) (Vr (k := fun b6 => Vr (k := WO.g2 rfl ?_ ?_))))
    rotate_left
    · refine Vr (k := ?_)
      exact ⟨La.length - (q + 1), by omega, rfl, q + 1, rfl, hlt, fin0 [_], sbs⟩
    have k7 := h7.mono (fun _ => q1)
    refine Vr (k := WO.w (WS.cl (fits171 hC (ho.mono fun p hp => by simp [hp]) (hb.mono fun p hp => by simp [hp])) ?_))
    rintro _ _ ⟨⟨z, rfl⟩, m2, rfl⟩
    refine Vr (k := WP.cond rfl (fun _ => ?_) (fun _ => ?_))
    rotate_left
    · refine Vr (k := ?_)
      refine ⟨La.length - (q + 1), by omega, rfl, q + 1, rfl, hlt, ?_, sbs⟩
      have := fin0 (m2 ++ [(b6, HO.r false [[iv (aa 0), iv (aa 1), iv (aa 2), iv (aa 3), iv (aa 4), iv (aa 5), iv (aa 6), .bool ab, acv, atv, iv (aa 7), iv (aa 8), iv (aa 9)]] 13)])
      rw [List.append_assoc] at this
      exact this
    refine Vr (k := WO.a (.bslice (bsrows1 rfl rfl) rfl) fun b48 => ?_)
    have hlen : (edR E).length + 1 ≤ 1000000000 := by simp only [edR, List.length_map]; omega
    refine WO.w (WS.append_cell (b := b10) (c := HO.r false [[lv]] 1) pmA hG (Src.all .here) (by decide) hlen (by decide) fun v' m' o' hG' => ?_)
    have p1 := hG'.one
    refine WO.w (WS.store rfl rfl p1 .here rfl rfl (Vr (k := ?_)))
    refine ⟨La.length - (q + 1), by omega, rfl, q + 1, rfl, hlt, ⟨v', o', m', E ++ [⟨aa 7, aa 8, aa 9, a 6⟩], ?_, by simp; omega, .refl _⟩, sbs⟩
    unfold edR at hG' ⊢
    rw [List.map_append]
    exact hG'
  · have hie : q = La.length := by have := of_decide_eq_false hlt0; simp at this; omega
    refine WP.exit (Vr (k := ?_))
    exact Fin.mk .nil (hs.out.le (by omega))
end
end Go.Ev
set_option maxHeartbeats 8000000
namespace Go.Ev
section
variable {P : Program} {K : Orc} {rd : Option Nat} {nt : Nat} {l : Sl} {ds : List ADef} {s : SH} {Q Qn Qr : Po} {Qe : Nat → Po} {F : Nat → FuncId} {T : Nat → TypeId}
theorem idx0 {g : Bool} {sz : Nat} {f : FuncId} (hF : FnK P K f 19 [.tmp 4] (idxC g sz)) (hz : sz ≠ 0) (hg : g = true ∨ sz = 1) {ty : List CT} (hsz : ty.length = sz) {fv w : AV} {L : List (List AV)} (hL : SlT s ty w L) (hf : ∀ (s' : SH) (r : List AV), (∀ p, p ∈ s → p ∈ s') → r ∈ L → OkR s' ty r → TriV P K fv [elv g r] s' (Gro s' isB)) :
    Tri P K f [w, fv] s (fun w s' => (∃ o : Option Nat, w = idxV o ∧ ∀ i, o = some i → i < L.length) ∧ ∃ m, s'.Perm (m ++ s)) := by
  subst hsz
  refine Tri.post (hF.tri (idxI (I := I0 s) (X := fun x => x = []) (x := []) (u := s) (fun u hu => hL.1.mono hu.sub) hz hg hL.2.1 (fun r hr => (hL.2.2 r hr).1) ?_ rfl ⟨[], .refl _⟩)) ?_
  · rintro u x r rfl hr ⟨m, hp⟩
    have hsub : ∀ p, p ∈ s → p ∈ [] ++ u := fun p hq => hp.symm.subset (List.mem_append_right _ hq)
    refine (hf _ r hsub hr ((hL.2.2 r hr).mono hsub)).post ?_
    rintro w s2 ⟨hb, m2, rfl⟩
    exact ⟨hb, m2 ++ u, ⟨m2 ++ m, (hp.append_left m2).trans pm2⟩, .refl _⟩
  · rintro w s2 ⟨ho, u2, ⟨m, hp⟩, hp2⟩
    exact ⟨ho, m, hp2.trans hp⟩
theorem is138 (hB : BaseSt P K F T) {r : List AV} {b : Nat} {id : Int} (hr : OkR s rOb r) (hb : Has b (.r false [[iv id]] 1) s) : Tri P K (F 138) [.agg r, .ptr (some ⟨b, 0, 0⟩)] s (Gro s isB) := by
  refine hB.f138.tri ?_
  unfold a138
  obtain ⟨a, bb, ev, rfl, -⟩ := hr.ob
  refine Vr (k := fun b2 => Vr (k := Gro.b1))
theorem find91 (hB : BaseSt P K F T) (hS : BaseSl P K F T) {v : Nat → AV} {n : Nat → Int} {py : Bool} {L : List (List AV)} (hL : SlT s rOb (v 1) L) {id : Int} : Tri P K (F 91) [.agg (stRow v n py), iv id] s (fun w s' => (∃ o : Option Nat, w = idxV o ∧ ∀ i, o = some i → i < L.length) ∧ ∃ m, s'.Perm (m ++ s)) := by
  refine hB.f91.tri ?_
  unfold a91
  refine Vr (k := fun b2 => Vr (k := fun b3 => Vr (k := WO.w (WS.cl (idx0 hS.f106 (by decide) (.inl rfl) rfl (hL.mono fun p hp => by simp [hp]) fun s' r hs hr hok => TriV.func (is138 hB hok (Has.here.mono hs))) ?_))))
  rintro _ s2 ⟨⟨o, rfl, ho⟩, m, hp⟩
  refine Vr (k := ?_)
  exact ⟨⟨o, rfl, ho⟩, m ++ [(b3, .r false [[iv id]] 1), (b2, .r false [stRow v n py] 25)], hp.trans pm2⟩
theorem index204 (hS : BaseSl P K F T) {v : AV} {L : List (List AV)} {id : Int} (hL : SlT s [.i] v L) : Tri P K (F 204) [v, iv id] s (fun w s' => isI w ∧ s' = s) := by
  refine hS.f204.tri ?_
  unfold a204
  have hl := hL.len
  refine Vr (k := ?_)
  refine WP.loop (fun k l ds s' => ds = [] ∧ ∃ i, k = L.length - i ∧ i ≤ L.length ∧ s' = s ∧ ∀ j w, lk [(0, v), (1, iv id), (7, .int .i64 (.ofNat L.length)), (8, .int .i64 (.ofNat i))] j = some w → lk l j = some w) ?_ (n := L.length - 0) ⟨rfl, 0, rfl, Nat.zero_le _, rfl, sbs⟩
  rintro k l ds s' ⟨rfl, i, rfl, hi, hse, hlk⟩
  have hse := hse.symm
  subst hse
  refine WP.weak hlk (fun _ _ h => h) ?_
  refine Vr (k := WP.cond rfl (fun hlt0 => ?_) (fun hlt0 => ?_))
  · have hlt : i < L.length := Int.ofNat_lt.1 (of_decide_eq_true hlt0)
    obtain ⟨b, r, n0, c, sl, ro, M, row, e, hb, hn, hM, hr, -⟩ := hL.at hlt
    obtain ⟨a, rfl⟩ := hr.n1
    have hadd : binV .add (AV.int .i64 (.ofNat i)) (AV.int .i64 (.ofNat 1)) = some (AV.int .i64 (.ofNat (i + 1))) := add_n (by have := hL.2.1; simp only [big] at this; omega)
    refine Vr (k := WO.r (.ia e hn) (Vr (k := WP.cond rfl (fun _ => ?_) (fun _ => ?_))))
    · refine Vr (k := ?_)
      exact ⟨⟨_, rfl⟩, rfl⟩
    · refine Vr (k := ?_)
      exact ⟨L.length - (i + 1), by omega, rfl, i + 1, rfl, hlt, rfl, sbs⟩
  · refine WP.exit (Vr (k := ?_))
    exact ⟨⟨_, rfl⟩, rfl⟩
theorem has167 (hS : BaseSl P K F T) {v : AV} {L : List (List AV)} {id : Int} (hL : SlT s [.i] v L) : Tri P K (F 167) [v, iv id] s (fun w s' => isB w ∧ s' = s) := by
  refine hS.f167.tri ?_
  unfold a167
  refine Vr (k := WO.w (WS.cl (index204 hS hL) ?_))
  rintro _ _ ⟨⟨q, rfl⟩, rfl⟩
  refine Vr (k := ?_)
  exact ⟨⟨_, rfl⟩, rfl⟩
theorem Src.sm {sz : Nat} {v : AV} {L : List (List AV)} (h : Src s sz v L) (n : Nat) : sameN (n + 1) v v = true := by
  cases h with
  | nil => simp [sameN, same0]
  | @zero a c sl rw => cases a <;> simp [sameN, same0]
  | emp => rfl
  | rows _ _ => simp [sameN, same0]
theorem OkV.sm {ct : CT} {v : AV} (h : OkV s ct v) (n : Nat) : sameN (n + 1) v v = true := by
  cases h with
  | i k => exact sameN_i n k
  | b c => simp [sameN, same0]
  | t x => simp [sameN, same0]
  | s h hb hl hr => exact h.sm n
theorem sameL_of {f : AV → AV → Bool} : ∀ {r : List AV}, (∀ a ∈ r, f a a = true) → sameL f r r = true
  | [], _ => rfl
  | a :: r, h => by
    simp only [sameL, Bool.and_eq_true]
    exact ⟨h a (List.mem_cons_self ..), sameL_of fun b hb => h b (List.mem_cons_of_mem _ hb)⟩
theorem OkR.sm {l : List CT} {r : List AV} (h : OkR s l r) : sameV (.agg r) (.agg r) = true := by
  refine sameL_of fun a ha => ?_
  obtain ⟨j, hj, rfl⟩ := List.getElem_of_mem ha
  have : j < l.length := h.1 ▸ hj
  exact (h.2 j l[j] _ (List.getElem?_eq_getElem this) (List.getElem?_eq_getElem hj)).sm 4
theorem ob1 {hs : List SH} {is : List Nat} {op : AOp} {v : AV} {a : Nat} {s0 s1 : SH} (h0 : hs.reverse[0]? = some s0) (h1 : hs.reverse[1]? = some s1) (sm : sameV v v = true) (w0 : WR P op l s0 v) (w1 : WR P op l s1 v) (hi : ∀ i ∈ is, bit a i = false := by intro i hi; cases hi) : ∀ o ∈ [(⟨op, l, v, a, 0, 1⟩ : OB)], OBok P hs is o := by
  intro o ho
  rw [List.mem_singleton.1 ho]
  refine ⟨hi, Nat.zero_le _, sm, fun k _ hk => ?_⟩
  rcases (by have : k ≤ 1 := hk; omega : k = 0 ∨ k = 1) with rfl | rfl
  · exact ⟨_, h0, w0⟩
  · exact ⟨_, h1, w1⟩
end
end Go.Ev
