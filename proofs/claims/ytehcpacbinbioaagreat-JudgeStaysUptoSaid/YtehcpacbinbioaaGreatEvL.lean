/- A machine that is proved sound, and walks by it. Conditions: none. -/
import Derived.Test.YtehcpacbinbioaaGreatEvI
import Derived.Test.YtehcpacbinbioaaGreatEvK
set_option linter.all false
set_option maxHeartbeats 8000000
namespace Go.Ev
section
variable {P : Program} {K : Orc} {rd : Option Nat} {nt : Nat} {l : Sl} {ds : List ADef} {s : SH} {Q Qn Qr : Po} {Qe : Nat → Po} {F : Nat → FuncId} {T : Nat → TypeId}
@[reducible] def zOb : List AV := [(.int .i64 (.ofNat 0)), (.int .i64 (.ofNat 0)), (.int .i64 (.ofNat 0)), (.int .i64 (.ofNat 0)), (.int .i64 (.ofNat 0)), (.bool false), (.bool false), (.bool false), (.int .i64 (.ofNat 0)), (.int .i64 (.ofNat 0)), (.int .i64 (.ofNat 0)), (.int .i64 (.ofNat 0)), (.bool false), (.slice none 0 0 false 0)]
@[reducible] def zCd : List AV := [(.str ⟨#[]⟩), (.int .i64 (.ofNat 0)), (.int .i64 (.ofNat 0)), (.int .i64 (.ofNat 0)), (.int .i64 (.ofNat 0)), (.int .i64 (.ofNat 0)), (.int .i64 (.ofNat 0)), (.int .i64 (.ofNat 0)), (.int .i64 (.ofNat 0)), (.int .i64 (.ofNat 0)), (.slice none 0 0 false 0)]
theorem okOb : OkR s rOb zOb := okr
theorem okCd : OkR s rCd zCd := okr
def EfB (r : List AV) : Prop := ∀ v k, r[13]? = some v → lenOf v = some k → k ≤ 1000
theorem efOb : EfB zOb := fun v k h hk => by cases h; cases hk; exact Nat.zero_le _
def isFnd (s : SH) (w : AV) : Prop := ∃ o c b, w = .tuple [.agg o, .agg c, .bool b] ∧ OkR s rOb o ∧ OkR s rCd c ∧ EfB o
theorem find121 (hC : BaseCh P K F T) (hB : BaseSt P K F T) (hS : BaseSl P K F T) (t45 : Ty P (T 45) 14) (t99 : Ty P (T 99) 11) {v : Nat → AV} {n : Nat → Int} {py : Bool} {L Lf Lc : List (List AV)} (hL : SlT s rOb (v 1) L) (hf : SlT s [.i] (v 6) Lf) (hcv : SlT s rCd (v 10) Lc) (hE : ∀ r ∈ L, EfB r) {id : Int} :
    Tri P K (F 121) [v 10, .agg (stRow v n py), iv id] s (fun w s' => isFnd s' w ∧ ∃ m, s'.Perm (m ++ s)) := by
  refine hC.f121.tri ?_
  unfold a121
  have hl := hL.len
  have hlc := hcv.len
  refine Vr (k := fun b4 => Vr (k := fun b6 => Vr (k := fun b7 => Vr (k := WO.w (WS.cl (find91 hB hS (hL.mono fun p hp => by simp [hp])) ?_)))))
  rintro _ s2 ⟨⟨o, rfl, ho⟩, m, hp⟩
  refine WO.pre hp ?_
  have hsub : ∀ p, p ∈ s → p ∈ m ++ ((b7, HO.r false [zCd] 11) :: (b6, HO.r false [zOb] 14) :: (b4, .r false [stRow v n py] 25) :: s) := fun p hp => by simp [hp]
  have hf2 := hf.mono hsub
  have fin : ∀ (x y z : HO), ∃ m2, (m ++ ((b7, x) :: (b6, y) :: (b4, z) :: s)).Perm (m2 ++ s) := fun x y z => ⟨m ++ [(b7, x), (b6, y), (b4, z)], pm2⟩
  cases o with
  | none =>
    refine Vr (k := ?_)
    refine WD.lk rfl .nil .ld (WD.ch .nil (WS.st ?_))
    refine WD.ch .nil (WS.st ?_)
    refine WD.pu (.mv rfl) (WD.nil .nil (WP.ret (Fin.mk (.ce t45 (.ce t99)) ?_)) (ob1 rfl rfl (okCd (s := s)).sm .ld .ld))
    exact ⟨⟨_, _, _, rfl, okOb, okCd, efOb⟩, fin _ _ _⟩
  | some i =>
    refine Vr (k := WO.w (WS.cl (has167 hS hf2) ?_))
    rintro _ _ ⟨⟨q, rfl⟩, rfl⟩
    refine Vr (k := WP.cond rfl (fun _ => ?_) (fun _ => ?_))
    · refine Vr (k := ?_)
      refine WD.lk rfl .nil .ld (WD.ch .nil (WS.st ?_))
      refine WD.ch .nil (WS.st ?_)
      refine WD.pu (.mv rfl) (WD.nil .nil (WP.ret (Fin.mk (.ce t45 (.ce t99)) ?_)) (ob1 rfl rfl (okCd (s := s)).sm .ld .ld))
      exact ⟨⟨_, _, _, rfl, okOb, okCd, efOb⟩, fin _ _ _⟩
    obtain ⟨b, r, n0, c, sl, ro, M, row, e, hb, hn, hM, hr, hrm⟩ := hL.at (ho i rfl)
    obtain ⟨a, bb, ev, rfl, hev⟩ := hr.ob
    have k1 := hb.mono hsub
    refine Vr (k := WO.r (.ia e hn) ?_)
    have okr1 : ∀ {s'}, (∀ p, p ∈ s → p ∈ s') → OkR s' rOb [iv (a 0), iv (a 1), iv (a 2), iv (a 3), iv (a 4), .bool (bb 0), .bool (bb 1), .bool (bb 2), iv (a 5), iv (a 6), iv (a 7), iv (a 8), .bool (bb 3), ev] := fun h => hr.mono h
    by_cases h0 : a 1 < 0
    · have e1 : binV .lss (iv (a 1)) (iv 0) = some (.bool true) := by rw [lss_i, decide_eq_true h0]
      refine Vr (k := ?_)
      refine WD.lk rfl .nil .ld (WD.ch .nil (WS.st ?_))
      refine WD.ch .nil (WS.st ?_)
      refine WD.pu (.mv rfl) (WD.nil .nil (WP.ret (Fin.mk (.ce t45 (.ce t99)) ?_)) (ob1 rfl rfl (okCd (s := s)).sm .ld .ld))
      exact ⟨⟨_, _, _, rfl, okr1 (fun p hp => by simp [hp]), okCd, hE _ hrm⟩, fin _ _ _⟩
    have e1 : binV .lss (iv (a 1)) (iv 0) = some (.bool false) := by rw [lss_i, decide_eq_false h0]
    by_cases h1 : a 1 < Int.ofNat Lc.length
    rotate_left
    · have e2 : binV .geq (iv (a 1)) (iv (.ofNat Lc.length)) = some (.bool true) := by rw [geq_i, decide_eq_false h1]; rfl
      refine Vr (k := ?_)
      refine WD.lk rfl .nil .ld (WD.ch .nil (WS.st ?_))
      refine WD.ch .nil (WS.st ?_)
      refine WD.pu (.mv rfl) (WD.nil .nil (WP.ret (Fin.mk (.ce t45 (.ce t99)) ?_)) (ob1 rfl rfl (okCd (s := s)).sm .ld .ld))
      exact ⟨⟨_, _, _, rfl, okr1 (fun p hp => by simp [hp]), okCd, hE _ hrm⟩, fin _ _ _⟩
    have e2 : binV .geq (iv (a 1)) (iv (.ofNat Lc.length)) = some (.bool false) := by rw [geq_i, decide_eq_true h1]; rfl
    obtain ⟨j, hj⟩ := Int.eq_ofNat_of_zero_le (Int.not_lt.1 h0)
    have hjL : j < Lc.length := by rw [hj] at h1; exact Int.ofNat_lt.1 h1
    obtain ⟨bc, rc, nc, cc, slc, roc, Mc, crow, ce, hbc, hnc, hMc, hcr, -⟩ := hcv.at hjL
    obtain ⟨x, ca, av, rfl, hav⟩ := hcr.cd
    have k2 := hbc.mono hsub
    have k3 : Has bc (.r roc Mc rCd.length) (m ++ ((b7, HO.r false [zCd] 11) :: (b6, HO.r false [[iv (a 0), iv (a 1), iv (a 2), iv (a 3), iv (a 4), .bool (bb 0), .bool (bb 1), .bool (bb 2), iv (a 5), iv (a 6), iv (a 7), iv (a 8), .bool (bb 3), ev]] 14) :: (b4, .r false [stRow v n py] 25) :: s)) := hbc.mono fun p hp => by simp [hp]
    refine Vr (k := WO.r (.iai ce hnc hj) (Vr (k := ?_)))
    refine WD.lk rfl .nil .ld (Vr (k := ?_))
    refine WD.ch .nil (WS.st ?_)
    refine WD.ch .nil (WS.st ?_)
    refine WD.pu (.mv rfl) (WD.nil .nil (WP.ret (Fin.mk (.ce t45 (.ce t99)) ?_)) (ob1 rfl rfl hcr.sm .ld .ld))
    exact ⟨⟨_, _, _, rfl, okr1 (fun p hp => by simp [hp]), hcr.mono (fun p hp => by simp [hp]), hE _ hrm⟩, fin _ _ _⟩
end
end Go.Ev
set_option maxHeartbeats 8000000
namespace Go.Ev
section
variable {P : Program} {K : Orc} {rd : Option Nat} {nt : Nat} {l : Sl} {ds : List ADef} {s : SH} {Q Qn Qr : Po} {Qe : Nat → Po} {F : Nat → FuncId} {T : Nat → TypeId}
theorem BaseCh.c172 (hC : BaseCh P K F T) : FnK P K (F 172) 42 [.tmp 4] (delFC true (F 206) 4 [iv 0, iv 0, iv 0, iv 0]) := hC.f172
theorem BaseCh.c206 (hC : BaseCh P K F T) : FnK P K (F 206) 19 [.tmp 4] (idxC true 4) := hC.f206
def rowNo : List AV → Bool
  | .int _ op :: _ => decide (layerOf op = 0)
  | _ => false
theorem delEff_ok (hC : BaseCh P K F T) (hS : BaseSl P K F T) (hT : TyC P T) {v : AV} {L : List ED} {m o t : SH} (h : Gr 4 v (edR L) o) (hn : L.length ≤ big) :
    Tri P K (F 172) [v, .func (F 173) [] []] (m ++ (o ++ t)) (fun v' s' => ∃ o' x, s' = x ++ (m ++ (o' ++ t)) ∧ Gr 4 v' (edR (L.filter fun e => !decide (layerOf e.op = 0))) o') := by
  have hcl : ∀ row ∈ edR L, ∀ y : SH, TriV P K (.func (F 173) [] []) [elv true row] y (fun w s' => w = .bool (rowNo row) ∧ ∃ m, s' = m ++ y) := fun row hr y => by
    obtain ⟨q, _, rfl⟩ := List.mem_map.1 hr
    exact TriV.func (noLayer_ok hC hS hT)
  have hlen : ∀ row ∈ edR L, row.length = 4 := fun row hr => by
    obtain ⟨q, _, rfl⟩ := List.mem_map.1 hr
    rfl
  have hfil : (edR L).filter (fun r => !rowNo r) = edR (L.filter fun e => !decide (layerOf e.op = 0)) := by
    unfold edR
    rw [List.filter_map]
    rfl
  refine hC.c172.tri (delF_ok rowNo h (by omega) rfl (.inl rfl) (by simp only [edR, List.length_map]; omega) hlen (fun h => by cases h) ?_ (fun row hr y hy => hcl row hr y) fun v' o' y hG => ⟨o', y, rfl, by rw [← hfil]; exact hG⟩)
  exact hC.c206.tri (idx_ok rowNo h.src (by omega) (.inl rfl) (by simp only [edR, List.length_map]; omega) hlen (fun row hr y => hcl row hr _) fun n => ⟨rfl, n, rfl⟩)
theorem pmG {x y a b : Nat × HO} {m s : SH} : (x :: y :: (m ++ (a :: b :: s))).Perm ((x :: y :: (m ++ [a, b])) ++ s) := by simp
theorem Gr.one {sz : Nat} {v : AV} {L : List (List AV)} {o : SH} (h : Gr sz v L o) : partCells 1 v = some [v] := part1 (by cases h <;> rfl)
theorem pmE {p q r x y : Nat × HO} {a b c m s : SH} : ((p :: a) ++ (b ++ (c ++ (q :: r :: (m ++ (x :: y :: s)))))).Perm (((p :: a) ++ (b ++ (c ++ (q :: r :: (m ++ [x, y]))))) ++ s) := by simp
theorem edR_of {t : SH} {N : List (List AV)} (h : ∀ r ∈ N, OkR t rEf r) : ∃ E, N = edR E := by
  induction N with
  | nil => exact ⟨[], rfl⟩
  | cons r N ih =>
    obtain ⟨E, rfl⟩ := ih fun r hr => h r (List.mem_cons_of_mem _ hr)
    obtain ⟨a, b, c, d, rfl⟩ := (h r (List.mem_cons_self ..)).ef
    exact ⟨⟨a, b, c, d⟩ :: E, rfl⟩
theorem effects123 (hC : BaseCh P K F T) (hB : BaseSt P K F T) (hS : BaseSl P K F T) (hT : TyC P T) (t45 : Ty P (T 45) 14) {v : Nat → AV} {n : Nat → Int} {py : Bool} {L Lf Lc : List (List AV)} (hL : SlT s rOb (v 1) L) (hf : SlT s [.i] (v 6) Lf) (hcv : SlT s rCd (v 10) Lc) (hE : ∀ r ∈ L, EfB r)
    (hA : ∀ r ∈ Lc, ∀ v k, r[10]? = some v → lenOf v = some k → k ≤ 1048576) (hN : Lf.length ≤ 500) {id : Int} :
    Tri P K (F 123) [v 10, .agg (stRow v n py), iv id] s (fun w s' => (∃ E, Src s' 4 w (edR E) ∧ E.length ≤ 1000000000) ∧ ∃ m, s'.Perm (m ++ s)) := by
  refine hC.f123.tri ?_
  unfold a123
  have hl := hL.len
  have hlf := hf.len
  have p10 := part1 hcv.ok.one
  refine Vr (k := WO.a (.box rfl p10) fun b3 => Vr (k := fun b4 => Vr (k := ?_)))
  have hs : ∀ p, p ∈ s → p ∈ (b4, HO.r false [stRow v n py] 25) :: (b3, HO.r false [[v 10]] 1) :: s := fun p hp => by simp [hp]
  refine WO.w (WS.cl (find121 hC hB hS t45 hT.t99 (hL.mono hs) (hf.mono hs) (hcv.mono hs) hE) ?_)
  rintro _ s2 ⟨⟨o, c, q, rfl, ho, hc, hEo⟩, m, hp⟩
  refine WO.pre hp ?_
  replace ho := ho.mono fun p h => hp.subset h
  replace hc := hc.mono fun p h => hp.subset h
  obtain ⟨a, bb, ev, rfl, hev⟩ := ho.ob
  obtain ⟨x, ca, av, rfl, -⟩ := hc.cd
  obtain ⟨Le, hLe⟩ := hev.sl
  have hle := hEo _ _ rfl hLe.len
  refine Vr (k := fun b7 => Vr (k := fun b8 => Vr (k := WP.cond rfl (fun _ => ?_) (fun _ => ?_))))
  · refine Vr (k := ?_)
    exact ⟨⟨[], .nil, Nat.zero_le _⟩, _, pmG⟩
  refine Vr (k := fun b10 => Vr (k := ?_))
  obtain ⟨t, ht⟩ : ∃ t, t = (b8, HO.r false [[.str x, iv (ca 0), iv (ca 1), iv (ca 2), iv (ca 3), iv (ca 4), iv (ca 5), iv (ca 6), iv (ca 7), iv (ca 8), av]] 11) :: (b7, HO.r false [[iv (a 0), iv (a 1), iv (a 2), iv (a 3), iv (a 4), .bool (bb 0), .bool (bb 1), .bool (bb 2), iv (a 5), iv (a 6), iv (a 7), iv (a 8), .bool (bb 3), ev]] 14) :: (m ++ ((b4, HO.r false [stRow v n py] 25) :: (b3, HO.r false [[v 10]] 1) :: s)) := ⟨_, rfl⟩
  have h3 : Has b3 (.r false [[v 10]] 1) t := by rw [ht]; exact .there (.there (.app (.there .here)))
  have h4 : Has b4 (.r false [stRow v n py] 25) t := by rw [ht]; exact .there (.there (.app .here))
  have h7 : Has b7 (.r false [[iv (a 0), iv (a 1), iv (a 2), iv (a 3), iv (a 4), .bool (bb 0), .bool (bb 1), .bool (bb 2), iv (a 5), iv (a 6), iv (a 7), iv (a 8), .bool (bb 3), ev]] 14) t := by rw [ht]; exact .there .here
  have hst : ∀ p, p ∈ s → p ∈ t := by rw [ht]; intro p hp; simp [hp]
  have ho2 : OkR t rOb [iv (a 0), iv (a 1), iv (a 2), iv (a 3), iv (a 4), .bool (bb 0), .bool (bb 1), .bool (bb 2), iv (a 5), iv (a 6), iv (a 7), iv (a 8), .bool (bb 3), ev] := ho.mono (by rw [ht]; exact fun p hp => sub1 _ (sub1 _ hp))
  have hLe2 : SlT t rEf ev Le := hLe.mono (by rw [ht]; exact fun p hp => sub1 _ (sub1 _ hp))
  have hK : Akk b10 t 0 ((b10, HO.r false [[.slice none 0 0 false 0]] 1) :: t) := ⟨_, [], [], [], .nil, Nat.le_refl _, .refl _⟩
  refine WP.loop (fun k l ds s' => ds = [] ∧ ∃ i, k = Lf.length - i ∧ i ≤ Lf.length ∧ Akk b10 t (i * 1048576) s' ∧ ∀ j w, lk [(4, .ptr (some ⟨b4, 0, 0⟩)), (7, .ptr (some ⟨b7, 0, 0⟩)), (10, .ptr (some ⟨b10, 0, 0⟩)), (11, .func (F 170) [] [.ptr (some ⟨b3, 0, 0⟩), .ptr (some ⟨b7, 0, 0⟩), .ptr (some ⟨b10, 0, 0⟩)]), (27, v 6), (28, .int .i64 (.ofNat Lf.length)), (29, .int .i64 (.ofNat i))] j = some w → lk l j = some w) ?_ (n := Lf.length - 0) ⟨rfl, 0, rfl, Nat.zero_le _, by rw [Nat.zero_mul]; subst ht; exact hK, sbs⟩
  rintro k l ds s3 ⟨rfl, i, rfl, hi, hK, hlk⟩
  refine WP.weak hlk (fun _ _ h => h) ?_
  refine Vr (k := WP.cond rfl (fun hlt0 => ?_) (fun hlt0 => ?_))
  · have hlt : i < Lf.length := Int.ofNat_lt.1 (of_decide_eq_true hlt0)
    obtain ⟨bf, rf, nf, cf, slf, rof, Mf, row, e, hbf, hnf, hMf, hrf, -⟩ := hf.at hlt
    obtain ⟨idn, rfl⟩ := hrf.n1
    have k1 := (hbf.mono hst).mono hK.mem
    have k4 := h4.mono hK.mem
    have hadd2 : binV .add (AV.int .i64 (.ofNat i)) (AV.int .i64 (.ofNat 1)) = some (AV.int .i64 (.ofNat (i + 1))) := add_n (by omega)
    refine Vr (k := WO.r (.ia e hnf) (Vr (k := WO.w (WS.cl (find91 hB hS ((hL.mono hst).mono hK.mem)) ?_))))
    rintro _ s4 ⟨⟨o, rfl, ho4⟩, m4, hp4⟩
    have hK := hK.perm hp4
    cases o with
    | none =>
      refine Vr (k := ?_)
      exact ⟨Lf.length - (i + 1), by omega, rfl, i + 1, rfl, hlt, hK.le (by omega), sbs⟩
    | some q =>
      obtain ⟨bo, r, n0, c, sl, ro, M, row, e, hb, hn, hM, hr, hrm⟩ := hL.at (ho4 q rfl)
      obtain ⟨oa, ob, oe, rfl, -⟩ := hr.ob
      have k1 := (hb.mono hst).mono hK.mem
      have k4 := h4.mono hK.mem
      refine Vr (k := WO.r (.ia e hn) (Vr (k := ?_)))
      refine WO.w (WS.call rfl rfl (TriV.func (act170 hC (hcv.mono hst) hA h3 h7 (hr.mono hst) ho2 hK (by omega))) ?_)
      rintro w s5 hK
      refine Vr (k := ?_)
      exact ⟨Lf.length - (i + 1), by omega, rfl, i + 1, rfl, hlt, hK.le (by omega), sbs⟩
  · refine WP.exit ?_
    obtain ⟨lv, og, m5, E, hG, hE5, hp5⟩ := hK
    refine WP.pre hp5 ?_
    obtain ⟨E2, rfl⟩ := edR_of hLe2.2.2
    have e1 : (edR E).length = E.length := by simp [edR]
    have e2 : (edR E2).length = E2.length := by simp [edR]
    have hcat : edR E ++ edR E2 = edR (E ++ E2) := by simp [edR]
    have hbound : i * 1048576 ≤ 500 * 1048576 := Nat.mul_le_mul_right _ (by omega)
    have ht5 : ∀ p, p ∈ t → p ∈ (b10, HO.r false [[lv]] 1) :: (m5 ++ (og ++ t)) := fun p hp => by simp [hp]
    have k7 := h7.mono ht5
    refine Vr (k := WO.w (WS.append_cell (.refl _) hG (hLe2.1.mono ht5) (by decide) (by omega) (by decide) fun v' m' o' hG' => ?_))
    have p1 := hG'.one
    rw [hcat] at hG'
    refine WO.w (WS.store rfl rfl p1 .here rfl rfl (Vr (k := ?_)))
    refine WO.w (WS.cl (delEff_ok hC hS hT (m := (b10, HO.r false [[v']] 1) :: m') hG'.gr (by simp only [big, List.length_append]; omega)) ?_)
    rintro v3 _ ⟨o3, x3, rfl, hG3⟩
    have p3 := hG3.one
    have hlen3 : (List.filter (fun e => !decide (layerOf e.op = 0)) (E ++ E2)).length ≤ E.length + E2.length := by rw [← List.length_append]; exact List.length_filter_le ..
    generalize List.filter (fun e => !decide (layerOf e.op = 0)) (E ++ E2) = E3 at hG3 hlen3
    refine WO.pre (s' := (b10, HO.r false [[v']] 1) :: ((x3 ++ m') ++ (o3 ++ t))) pm2 ?_
    refine WO.w (WS.store rfl rfl p3 .here rfl rfl (Vr (k := ?_)))
    refine WO.w (WS.cl (sort_ok hC hS hT (m := (b10, HO.r false [[v3]] 1) :: (x3 ++ m')) hG3 (by simp only [big]; omega)) ?_)
    rintro _ s9 ⟨R, o9, j9, hp9, hG9, hR⟩
    refine WO.pre hp9 (Vr (k := ?_))
    refine ⟨⟨R, hG9.src, by omega⟩, ?_⟩
    subst ht
    exact ⟨_, pmE⟩
end
end Go.Ev
set_option maxHeartbeats 8000000
namespace Go.Ev
section
variable {P : Program} {K : Orc} {rd : Option Nat} {nt : Nat} {l : Sl} {ds : List ADef} {s : SH} {Q Qn Qr : Po} {Qe : Nat → Po} {F : Nat → FuncId} {T : Nat → TypeId}
theorem WR.mmx {mx : Bool} {args : List Operand} {v r : AV} {vs : List AV} (ha : lmapO (opl l) args = some (v :: vs)) (hv : lfold (mm mx) vs v = some r) : WR P (.minmax mx args) l s r :=
  WR.mk' (fun _ _ _ _ _ => rfl) (fun e H he => by simp only [aval, opls_ok he ha, hv])
theorem mm_i (mx : Bool) (a b : Int) : ∃ c, lfold (mm mx) [iv b] (iv a) = some (iv c) := by
  cases mx with
  | true => exact ⟨_, rfl⟩
  | false => exact ⟨_, rfl⟩
theorem small168 (hC : BaseCh P K F T) {n : Int} : Tri P K (F 168) [iv n] s (fun w s' => isI w ∧ s' = s) := by
  refine hC.f168.tri ?_
  unfold a168
  refine Vr (k := WO.r (.mmx rfl rfl) (WO.r (.mmx rfl rfl) (Vr (k := ?_))))
  exact ⟨⟨_, rfl⟩, rfl⟩
theorem or_w (a b : Int) : ∃ m, binV .or (iv a) (iv b) = some (iv m) := by
  show ∃ m, bits .or .i64 a b = _
  unfold bits
  split
  · split
    · exact ⟨_, force_eq _ _⟩
    · exact ⟨_, rfl⟩
  · exact ⟨_, rfl⟩
theorem andn_w (a b : Int) : ∃ m, binV .andNot (iv a) (iv b) = some (iv m) := by
  show ∃ m, bits .andNot .i64 a b = _
  unfold bits
  split
  · split
    · exact ⟨_, rfl⟩
    · exact ⟨_, rfl⟩
  · exact ⟨_, rfl⟩
def Chs (b : Nat) (t s : SH) : Prop := ∃ x y z m, s.Perm ((b, .r false [[iv x, iv y, iv z]] 3) :: (m ++ t))
theorem Chs.perm {b : Nat} {t s s' : SH} (h : Chs b t s) (hp : s'.Perm s) : Chs b t s' := by
  obtain ⟨x, y, z, m, h⟩ := h
  exact ⟨x, y, z, m, hp.trans h⟩
theorem chs1 {b : Nat} {t m : SH} {x y z : Int} {p : Nat × HO} : Chs b t (p :: ((b, .r false [[iv x, iv y, iv z]] 3) :: (m ++ t))) := ⟨x, y, z, p :: m, .swap _ _ _⟩
theorem do233 (hC : BaseCh P K F T) {b : Nat} {t : SH} {r : List AV} (hr : OkR s rEf r) (hs : Chs b t s) : Tri P K (F 233) [.ptr (some ⟨b, 0, 0⟩), .agg r] s (fun _ s' => Chs b t s') := by
  obtain ⟨x, y, z, m, hp⟩ := hs
  obtain ⟨e1, e2, e3, e4, rfl⟩ := hr.ef
  obtain ⟨m0, hm0⟩ := or_w z e2
  refine hC.f233.tri (WP.pre hp ?_)
  unfold a233
  refine Vr (k := fun b3 => Vr (k := WD.ch .nil (WS.st ?_)))
  refine Vr (k := ?_)
  exact Fin.mk .nil chs1
theorem do234 (hC : BaseCh P K F T) {b : Nat} {t : SH} {r : List AV} (hr : OkR s rEf r) (hs : Chs b t s) : Tri P K (F 234) [.ptr (some ⟨b, 0, 0⟩), .agg r] s (fun _ s' => Chs b t s') := by
  obtain ⟨x, y, z, m, hp⟩ := hs
  obtain ⟨e1, e2, e3, e4, rfl⟩ := hr.ef
  obtain ⟨m0, hm0⟩ := andn_w z e2
  refine hC.f234.tri (WP.pre hp ?_)
  unfold a234
  refine Vr (k := fun b3 => Vr (k := WD.ch .nil (WS.st ?_)))
  refine Vr (k := ?_)
  exact Fin.mk .nil chs1
theorem do235 (hC : BaseCh P K F T) {b : Nat} {t : SH} {r : List AV} (hr : OkR s rEf r) (hs : Chs b t s) : Tri P K (F 235) [.ptr (some ⟨b, 0, 0⟩), .agg r] s (fun _ s' => Chs b t s') := by
  obtain ⟨x, y, z, m, hp⟩ := hs
  obtain ⟨e1, e2, e3, e4, rfl⟩ := hr.ef
  refine hC.f235.tri (WP.pre hp ?_)
  unfold a235
  refine Vr (k := fun b3 => Vr (k := WD.ch .nil (WS.cl (small168 hC) ?_)))
  rintro _ _ ⟨⟨q, rfl⟩, rfl⟩
  refine Vr (k := WD.lk rfl .nil .ld (WD.ch .nil (WS.cl (small168 hC) ?_)))
  rintro _ _ ⟨⟨q2, rfl⟩, rfl⟩
  refine Vr (k := WD.ch .nil (WS.st ?_))
  refine Vr (k := WD.ch .nil (WS.st ?_))
  refine WD.nil .nil ?_ (ob1 rfl rfl (sameN_i 5 _) .ld .ld)
  exact Fin.mk .nil chs1
theorem do236 (hC : BaseCh P K F T) {b : Nat} {t : SH} {r : List AV} (hr : OkR s rEf r) (hs : Chs b t s) : Tri P K (F 236) [.ptr (some ⟨b, 0, 0⟩), .agg r] s (fun _ s' => Chs b t s') := by
  obtain ⟨x, y, z, m, hp⟩ := hs
  obtain ⟨e1, e2, e3, e4, rfl⟩ := hr.ef
  refine hC.f236.tri (WP.pre hp ?_)
  unfold a236
  refine Vr (k := fun b3 => Vr (k := WD.lk rfl .nil .ld ?_))
  refine Vr (k := WD.ch .nil (WS.cl (small168 hC) ?_))
  rintro _ _ ⟨⟨q, rfl⟩, rfl⟩
  obtain ⟨k1, hk1⟩ : ∃ k, binV .add (iv x) (iv q) = some (iv k) := ⟨_, add_w _ _⟩
  refine Vr (k := WD.ch .nil (WS.st ?_))
  refine WD.nil .nil ?_ (ob1 rfl rfl (sameN_i 5 _) .ld .ld)
  refine Vr (k := WD.lk rfl .nil .ld ?_)
  refine Vr (k := WD.ch .nil (WS.cl (small168 hC) ?_))
  rintro _ _ ⟨⟨q2, rfl⟩, rfl⟩
  obtain ⟨k2, hk2⟩ : ∃ k, binV .add (iv y) (iv q2) = some (iv k) := ⟨_, add_w _ _⟩
  refine Vr (k := WD.ch .nil (WS.st ?_))
  refine WD.nil .nil ?_ (ob1 rfl rfl (sameN_i 5 _) .ld .ld)
  exact Fin.mk .nil chs1
end
end Go.Ev
set_option maxHeartbeats 8000000
namespace Go.Ev
section
variable {P : Program} {K : Orc} {rd : Option Nat} {nt : Nat} {l : Sl} {ds : List ADef} {s : SH} {Q Qn Qr : Po} {Qe : Nat → Po} {F : Nat → FuncId} {T : Nat → TypeId}
theorem rowOf_cases (F : Nat → FuncId) (op : Int) : ∃ L, rowOf F op = [iv L, .nilFunc] ∨ rowOf F op = [iv L, .func (F 233) [] []] ∨ rowOf F op = [iv L, .func (F 234) [] []] ∨ rowOf F op = [iv L, .func (F 235) [] []] ∨ rowOf F op = [iv L, .func (F 236) [] []] := by
  unfold rowOf
  split
  · exact ⟨_, .inr (.inl rfl)⟩
  · split
    · exact ⟨_, .inr (.inr (.inl rfl))⟩
    · split
      · exact ⟨_, .inr (.inr (.inr (.inl rfl)))⟩
      · split
        · exact ⟨_, .inr (.inr (.inr (.inr rfl)))⟩
        · exact ⟨_, .inl rfl⟩
theorem pmF {p q : Nat × HO} {m t : SH} : (p :: q :: (m ++ t)).Perm (q :: ((p :: m) ++ t)) := .swap _ _ _
theorem pmH {p q : Nat × HO} {m s : SH} : (p :: (m ++ (q :: s))).Perm ((p :: (m ++ [q])) ++ s) := by simp
theorem fold122 (hC : BaseCh P K F T) (hS : BaseSl P K F T) (hT : TyC P T) {x y z : Int} {v : AV} {E : List ED} (hv : Src s 4 v (edR E)) (hE : E.length ≤ 1000000000) : Tri P K (F 122) [.agg [iv x, iv y, iv z], v] s (fun w s' => (∃ a b c, w = .agg [iv a, iv b, iv c]) ∧ ∃ m, s'.Perm (m ++ s)) := by
  refine hC.f122.tri ?_
  unfold a122
  have hl : lenOf v = some E.length := by rw [hv.lenOf]; simp [edR]
  refine Vr (k := fun b2 => Vr (k := fun b4 => Vr (k := WD.ch .nil (WS.cl (small168 hC) ?_))))
  rintro _ _ ⟨⟨q, rfl⟩, rfl⟩
  refine Vr (k := WD.lk rfl .nil .ld (WD.ch .nil (WS.cl (small168 hC) ?_)))
  rintro _ _ ⟨⟨q2, rfl⟩, rfl⟩
  refine Vr (k := WD.ch .nil (WS.st ?_))
  refine Vr (k := WD.ch .nil (WS.st ?_))
  refine WD.nil .nil ?_ (ob1 rfl rfl (sameN_i 5 _) .ld .ld)
  obtain ⟨t, ht⟩ : ∃ t, t = (b4, HO.r false [[iv 0, iv 0, iv 0]] 3) :: s := ⟨_, rfl⟩
  have hK : Chs b2 t ((b4, HO.r false [[iv 0, iv 0, iv 0]] 3) :: (b2, .r false [[iv q, iv q2, iv z]] 3) :: s) := ⟨q, q2, z, [], by rw [ht]; exact .swap _ _ _⟩
  have hst : ∀ p, p ∈ s → p ∈ t := by rw [ht]; intro p hp; simp [hp]
  refine Vr (k := ?_)
  refine WP.loop (fun k l ds s' => ds = [] ∧ ∃ i, k = E.length - i ∧ i ≤ E.length ∧ Chs b2 t s' ∧ ∀ j w, lk [(2, .ptr (some ⟨b2, 0, 0⟩)), (4, .ptr (some ⟨b4, 0, 0⟩)), (16, v), (17, .int .i64 (.ofNat E.length)), (18, .int .i64 (.ofNat i))] j = some w → lk l j = some w) ?_ (n := E.length - 0) ⟨rfl, 0, rfl, Nat.zero_le _, hK, sbs⟩
  rintro k l ds s' ⟨rfl, i, rfl, hi, ⟨a, b, c, m, hp⟩, hlk⟩
  refine WP.pre hp (WP.weak hlk (fun _ _ h => h) ?_)
  refine Vr (k := WP.cond rfl (fun hlt0 => ?_) (fun hlt0 => ?_))
  · have hlt : i < E.length := Int.ofNat_lt.1 (of_decide_eq_true hlt0)
    have hx : (edR E)[i]? = some (E[i]).row := by simp [edR, hlt]
    generalize E[i] = e at hx
    obtain ⟨ba, ra, na, ca, sla, roa, Ma, ev, hba, hna, hMa⟩ := hv.at (i := i) (by simpa [edR] using hlt)
    have hMa : Ma[ra + i]? = some e.row := by rw [hMa, ← hx]
    have k1 : Has ba (.r roa Ma 4) ((b2, HO.r false [[iv a, iv b, iv c]] 3) :: (m ++ t)) := .there (.app (hba.mono hst))
    have hadd : binV .add (AV.int .i64 (.ofNat i)) (AV.int .i64 (.ofNat 1)) = some (AV.int .i64 (.ofNat (i + 1))) := add_n (by omega)
    refine Vr (k := WO.r (.ia ev hna) (Vr (k := fun b6 => Vr (k := WO.w (WS.cl (ofRow_ok hC hS hT (e := e)) ?_)))))
    rintro _ _ ⟨rfl, m1, rfl⟩
    obtain ⟨L, hr | hr | hr | hr | hr⟩ := rowOf_cases F e.op
    · rw [hr]
      refine Vr (k := fun b7 => Vr (k := ?_))
      exact ⟨E.length - (i + 1), by omega, rfl, i + 1, rfl, hlt, ⟨a, b, c, _, pmA⟩, sbs⟩
    · rw [hr]
      refine Vr (k := fun b7 => Vr (k := WO.w (WS.call rfl rfl (TriV.func (do233 hC (r := e.row) okr ⟨a, b, c, _, pmA⟩)) ?_)))
      rintro _ s9 hK
      refine Vr (k := ?_)
      exact ⟨E.length - (i + 1), by omega, rfl, i + 1, rfl, hlt, hK, sbs⟩
    · rw [hr]
      refine Vr (k := fun b7 => Vr (k := WO.w (WS.call rfl rfl (TriV.func (do234 hC (r := e.row) okr ⟨a, b, c, _, pmA⟩)) ?_)))
      rintro _ s9 hK
      refine Vr (k := ?_)
      exact ⟨E.length - (i + 1), by omega, rfl, i + 1, rfl, hlt, hK, sbs⟩
    · rw [hr]
      refine Vr (k := fun b7 => Vr (k := WO.w (WS.call rfl rfl (TriV.func (do235 hC (r := e.row) okr ⟨a, b, c, _, pmA⟩)) ?_)))
      rintro _ s9 hK
      refine Vr (k := ?_)
      exact ⟨E.length - (i + 1), by omega, rfl, i + 1, rfl, hlt, hK, sbs⟩
    · rw [hr]
      refine Vr (k := fun b7 => Vr (k := WO.w (WS.call rfl rfl (TriV.func (do236 hC (r := e.row) okr ⟨a, b, c, _, pmA⟩)) ?_)))
      rintro _ s9 hK
      refine Vr (k := ?_)
      exact ⟨E.length - (i + 1), by omega, rfl, i + 1, rfl, hlt, hK, sbs⟩
  · refine WP.exit ?_
    refine Vr (k := WD.ch .nil (WS.cl (small168 hC) ?_))
    rintro _ _ ⟨⟨q3, rfl⟩, rfl⟩
    refine Vr (k := WD.lk rfl .nil .ld (WD.ch .nil (WS.cl (small168 hC) ?_)))
    rintro _ _ ⟨⟨q4, rfl⟩, rfl⟩
    refine Vr (k := WD.ch .nil (WS.st ?_))
    refine Vr (k := WD.ch .nil (WS.st ?_))
    refine WD.nil .nil ?_ (ob1 rfl rfl (sameN_i 5 _) .ld .ld)
    subst ht
    refine Vr (k := ?_)
    refine WP.ret (Fin.mk (.ce hT.t71) ?_)
    exact ⟨⟨_, _, _, rfl⟩, _, pmH⟩
end
end Go.Ev
set_option maxHeartbeats 8000000
namespace Go.Ev
section
variable {P : Program} {K : Orc} {rd : Option Nat} {nt : Nat} {l : Sl} {ds : List ADef} {s : SH} {Q Qn Qr : Po} {Qe : Nat → Po} {F : Nat → FuncId} {T : Nat → TypeId}
theorem obc {hs : List SH} {is : List Nat} {o : OB} {os : List OB} (h1 : ∀ x ∈ [o], OBok P hs is x) (h2 : ∀ x ∈ os, OBok P hs is x) : ∀ x ∈ o :: os, OBok P hs is x := fun x hx => by
  rcases List.mem_cons.1 hx with rfl | hx
  · exact h1 _ (List.mem_singleton.2 rfl)
  · exact h2 _ hx
theorem pmK {x y p q : Nat × HO} {a b m s : SH} : (a ++ (b ++ (p :: q :: (m ++ (x :: y :: s))))).Perm (x :: ((a ++ (b ++ (p :: q :: (m ++ [y])))) ++ s)) := pm2
theorem pmM {x y p q : Nat × HO} {m s : SH} : (p :: q :: (m ++ (x :: y :: s))).Perm (x :: ((p :: q :: (m ++ [y])) ++ s)) := pm2
theorem pmL {p q : Nat × HO} {a s : SH} : (p :: (a ++ (q :: s))).Perm ((p :: (a ++ [q])) ++ s) := by simp
theorem of77 (hC : BaseCh P K F T) (hB : BaseSt P K F T) (hS : BaseSl P K F T) (hT : TyC P T) (t45 : Ty P (T 45) 14) {v : Nat → AV} {n : Nat → Int} {py : Bool} {L Lf Lc : List (List AV)} (hL : SlT s rOb (v 1) L) (hf : SlT s [.i] (v 6) Lf) (hcv : SlT s rCd (v 10) Lc) (hE : ∀ r ∈ L, EfB r)
    (hA : ∀ r ∈ Lc, ∀ v k, r[10]? = some v → lenOf v = some k → k ≤ 1048576) (hN : Lf.length ≤ 500) {id : Int} :
    Tri P K (F 77) [v 10, .agg (stRow v n py), iv id] s (fun w s' => (∃ a b c q, w = .tuple [.agg [iv a, iv b, iv c], .bool q]) ∧ ∃ m, s'.Perm (m ++ s)) := by
  refine hC.f77.tri ?_
  unfold a77
  refine Vr (k := fun b4 => Vr (k := fun b6 => Vr (k := ?_)))
  have hs : ∀ p, p ∈ s → p ∈ (b6, HO.r false [[iv 0, iv 0, iv 0]] 3) :: (b4, HO.r false [stRow v n py] 25) :: s := fun p hp => by simp [hp]
  refine WO.w (WS.cl (find121 hC hB hS t45 hT.t99 (hL.mono hs) (hf.mono hs) (hcv.mono hs) hE) ?_)
  rintro _ s2 ⟨⟨o, c, q, rfl, ho, hc, hEo⟩, m, hp⟩
  refine WO.pre hp ?_
  obtain ⟨a, bb, ev, rfl, -⟩ := ho.ob
  obtain ⟨x, ca, av, rfl, -⟩ := hc.cd
  refine Vr (k := fun b8 => Vr (k := fun b9 => Vr (k := WP.cond rfl (fun _ => ?_) (fun _ => ?_))))
  · refine WP.seq (WP.ops (WO.r (.build rfl rfl) ?_))
    refine WO.pre pmM ?_
    refine Vr (k := ?_)
    refine WP.ret (Fin.mk (.ce hT.t71) ?_)
    exact ⟨⟨_, _, _, _, rfl⟩, _ :: _, .refl _⟩
  have hs3 : ∀ p, p ∈ s → p ∈ (b9, HO.r false [[.str x, iv (ca 0), iv (ca 1), iv (ca 2), iv (ca 3), iv (ca 4), iv (ca 5), iv (ca 6), iv (ca 7), iv (ca 8), av]] 11) :: (b8, HO.r false [[iv (a 0), iv (a 1), iv (a 2), iv (a 3), iv (a 4), .bool (bb 0), .bool (bb 1), .bool (bb 2), iv (a 5), iv (a 6), iv (a 7), iv (a 8), .bool (bb 3), ev]] 14) :: (m ++ ((b6, HO.r false [[iv 0, iv 0, iv 0]] 3) :: (b4, HO.r false [stRow v n py] 25) :: s)) := fun p hp => by simp [hp]
  refine Vr (k := WD.lk rfl .nil .ld ?_)
  refine Vr (k := WD.lk rfl .nil .ld ?_)
  refine Vr (k := WD.lk rfl .nil .ld ?_)
  refine Vr (k := WD.ch .nil (WS.cl (effects123 hC hB hS hT t45 (hL.mono hs3) (hf.mono hs3) (hcv.mono hs3) hE hA hN) ?_))
  rintro w s3 ⟨⟨E, hw, hEl⟩, m3, hp3⟩
  refine Vr (k := WD.ch .nil (WS.cl (fold122 hC hS hT hw hEl) ?_))
  rintro _ s4 ⟨⟨f0, f1, f2, rfl⟩, m4, hp4⟩
  refine WD.ch .nil (WS.pre ((hp4.trans (hp3.append_left m4)).trans pmK) (WS.st ?_))
  have k9 : Has b9 (.r false [[.str x, iv (ca 0), iv (ca 1), iv (ca 2), iv (ca 3), iv (ca 4), iv (ca 5), iv (ca 6), iv (ca 7), iv (ca 8), av]] 11) s3 := Has.of_mem (hp3.symm.subset (List.mem_append_right _ (List.mem_cons_self ..)))
  refine WD.pu (.mv rfl) (WD.nil .nil ?_ (obc (ob1 rfl rfl (sameN_i 5 _) .ld .ld) (obc (ob1 rfl rfl (sameN_i 5 _) .ld .ld) (ob1 rfl rfl (sameN_i 5 _) .ld .ld))))
  refine Vr (k := ?_)
  refine WP.ret (Fin.mk (.ce hT.t71) ?_)
  exact ⟨⟨_, _, _, _, rfl⟩, _ :: _, .refl _⟩
end
end Go.Ev
set_option maxHeartbeats 8000000
namespace Go.Ev
section
variable {P : Program} {K : Orc} {rd : Option Nat} {nt : Nat} {l : Sl} {ds : List ADef} {s : SH} {Q Qn Qr : Po} {Qe : Nat → Po} {F : Nat → FuncId} {T : Nat → TypeId}
def IC (b : Nat) (t u : SH) : Prop := ∃ n m, u.Perm ((b, .r false [[iv n]] 1) :: (m ++ t))
theorem IC.cons {b : Nat} {t : SH} (p : Nat × HO) (u : SH) (h : IC b t u) : IC b t (p :: u) := by
  obtain ⟨n, m, h⟩ := h
  exact ⟨n, p :: m, (h.cons p).trans (.swap _ _ _)⟩
theorem IC.mem {b : Nat} {t : SH} (u : SH) (h : IC b t u) : ∀ p, p ∈ t → p ∈ u := by
  obtain ⟨n, m, h⟩ := h
  exact fun p hp => h.symm.subset (List.mem_cons_of_mem _ (List.mem_append_right _ hp))
theorem pmN {x : Nat × HO} {y m t : SH} : (y ++ (x :: (m ++ t))).Perm (x :: (y ++ (m ++ t))) := List.perm_middle
theorem lives571 (hJ : BaseJu P K F T) {b : Nat} {t : SH} {L : List (List AV)} (hL : ∀ r ∈ L, OkR t rPl r) : AskF P K true (.func (F 571) [] [.ptr (some ⟨b, 0, 0⟩)]) (IC b t) (fun _ => True) (fun r => r ∈ L) := by
  rintro u x r - hr ⟨n, m, hp⟩
  obtain ⟨a, bb, rfl⟩ := (hL r hr).pl
  refine TriV.func (hJ.f571.tri (WP.pre ((hp.append_left x).trans pmN) ?_))
  unfold a571
  obtain ⟨k, hk⟩ : ∃ k, binV .add (iv n) (AV.int .i64 (.ofNat 1)) = some (iv k) := ⟨_, add_w _ _⟩
  have fin : ∀ {q : Bool} {k : Int} {p : Nat × HO}, Keeps (IC b t) x isB (.bool q) ((b, .r false [[iv k]] 1) :: p :: (x ++ (m ++ t))) := fun {q k p} => ⟨⟨_, rfl⟩, (b, .r false [[iv k]] 1) :: ((p :: m) ++ t), ⟨k, p :: m, .refl _⟩, pm2⟩
  have fin2 : ∀ {q : Bool} {k : Int} {p : Nat × HO}, Keeps (IC b t) x isB (.bool q) (p :: (b, .r false [[iv k]] 1) :: (x ++ (m ++ t))) := fun {q k p} => ⟨⟨_, rfl⟩, (b, .r false [[iv k]] 1) :: ((p :: m) ++ t), ⟨k, p :: m, .refl _⟩, pm2⟩
  refine Vr (k := fun b2 => ?_)
  repeat' (refine Vr (k := ?_); first | exact fin2 | refine WP.cond rfl (fun _ => ?_) (fun _ => ?_) | refine WO.g2 rfl ?_ ?_ | refine WO.skipu rfl ?_)
theorem strong572 (hC : BaseCh P K F T) (hB : BaseSt P K F T) (hS : BaseSl P K F T) (hJ : BaseJu P K F T) (hT : TyC P T) (t45 : Ty P (T 45) 14) {bc bk b3 b5 b7 : Nat} {v : Nat → AV} {n : Nat → Int} {py : Bool} {t : SH} {L Lf Lc : List (List AV)} (hc : Crt t bc bk v n py) (hL : SlT t rOb (v 1) L) (hf : SlT t [.i] (v 6) Lf) (hcv : SlT t rCd (v 10) Lc) (hE : ∀ r ∈ L, EfB r)
    (hA : ∀ r ∈ Lc, ∀ v k, r[10]? = some v → lenOf v = some k → k ≤ 1048576) (hN : Lf.length ≤ 500) (h3 : Has b3 (.r false [[v 10]] 1) t) (h5 : Has b5 (.r false [stRow v n py] 25) t) (h7 : Has b7 (.r false [[.ptr (some ⟨bc, 0, 0⟩)]] 1) t) :
    AskF P K false (.func (F 572) [] [.ptr (some ⟨b3, 0, 0⟩), .ptr (some ⟨b5, 0, 0⟩), .ptr (some ⟨b7, 0, 0⟩)]) (I0 t) (fun _ => True) (fun r => r ∈ Lf) := by
  rintro u x r - hr ⟨m, hp⟩
  obtain ⟨id, rfl⟩ := (hf.2.2 r hr).n1
  have hsub : ∀ p, p ∈ t → p ∈ x ++ u := fun p hq => List.mem_append_right _ (hp.symm.subset (List.mem_append_right _ hq))
  refine TriV.func (hJ.f572.tri ?_)
  unfold a572
  have k3 := h3.mono hsub
  have k5 := h5.mono hsub
  have k7 := h7.mono hsub
  refine Vr (k := WO.w (WS.cl (of77 hC hB hS hT t45 (hL.mono hsub) (hf.mono hsub) (hcv.mono hsub) hE hA hN) ?_))
  rintro _ s2 ⟨⟨a, b, c, q, rfl⟩, m2, hp2⟩
  have k7 := k7.mono fun p h => hp2.symm.subset (List.mem_append_right _ h)
  have fin : ∀ {q : Bool} {p p2 : Nat × HO} {m3 : SH}, Keeps (I0 t) x isB (.bool q) (p :: (m3 ++ (p2 :: s2))) := fun {q p p2 m3} => ⟨⟨_, rfl⟩, (p :: (m3 ++ (p2 :: m2))) ++ u, ⟨(p :: (m3 ++ (p2 :: m2))) ++ m, by rw [List.append_assoc]; exact hp.append_left _⟩, ((((hp2.cons p2).append_left m3).cons p)).trans pm2⟩
  refine Vr (k := fun b6 => Vr (k := WO.w (WS.cl (obj573 hJ t45 (hc.up fun p h => List.mem_cons_of_mem _ (hp2.symm.subset (List.mem_append_right _ (hsub p h))))) ?_)))
  rintro _ _ ⟨⟨row, q2, rfl, hrow⟩, m3, rfl⟩
  obtain ⟨oa, ob, oe, rfl, -⟩ := hrow.ob
  refine Vr (k := fun b8 => ?_)
  repeat' (refine Vr (k := ?_); first | exact fin | refine WO.g2 rfl ?_ ?_ | refine WO.skipu rfl ?_)
end
end Go.Ev
set_option maxHeartbeats 8000000
namespace Go.Ev
section
variable {P : Program} {K : Orc} {rd : Option Nat} {nt : Nat} {l : Sl} {ds : List ADef} {s : SH} {Q Qn Qr : Po} {Qe : Nat → Po} {F : Nat → FuncId} {T : Nat → TypeId}
def Up (s s' : SH) : Prop := ∃ m, s'.Perm (m ++ s)
theorem Up.rfl : Up s s := ⟨[], .refl _⟩
theorem Up.trans {a b c : SH} (h1 : Up a b) (h2 : Up b c) : Up a c := by
  obtain ⟨m, h1⟩ := h1
  obtain ⟨n, h2⟩ := h2
  exact ⟨n ++ m, h2.trans (by rw [List.append_assoc]; exact h1.append_left n)⟩
theorem Up.cons {a b : SH} {p : Nat × HO} (h : Up a b) : Up a (p :: b) := h.trans ⟨[p], .refl _⟩
theorem Up.app {a b m : SH} (h : Up a b) : Up a (m ++ b) := h.trans ⟨m, .refl _⟩
theorem Up.mem {a b : SH} (h : Up a b) : ∀ p, p ∈ a → p ∈ b := by
  obtain ⟨m, h⟩ := h
  exact fun p hp => h.symm.subset (List.mem_append_right _ hp)
theorem leq_i3 (a b : Int) : binV .leq (iv a) (iv b) = some (.bool (!decide (b < a))) := by show some (AV.bool (!ilt b a)) = _; rw [ilt_eq]
theorem in587s (hJ : BaseJu P K F T) {a b c : Int} : Tri P K (F 587) [iv a, iv b, iv c] s (fun w s' => (∃ q, w = .bool q ∧ (q = true → b ≤ a ∧ a ≤ c)) ∧ s' = s) := by
  refine hJ.f587.tri ?_
  unfold a587
  have e2 := leq_i3 a c
  by_cases h : a < b
  · have e1 : binV .geq (iv a) (iv b) = some (.bool false) := by rw [geq_i, decide_eq_true h]; rfl
    refine Vr (k := ?_)
    exact ⟨⟨false, rfl, fun h => nomatch h⟩, rfl⟩
  · have e1 : binV .geq (iv a) (iv b) = some (.bool true) := by rw [geq_i, decide_eq_false h]; rfl
    refine Vr (k := ?_)
    exact ⟨⟨_, rfl, fun h2 => ⟨Int.not_lt.1 h, by simpa using h2⟩⟩, rfl⟩
theorem there575s (hJ : BaseJu P K F T) {bc bm : Nat} {v : Nat → AV} {n : Nat → Int} {py : Bool} {L : List (List AV)} (hc : Crt s bc bm v n py) (hL : SlT s rPl (v 0) L) {p : Int} : Tri P K (F 575) [.ptr (some ⟨bc, 0, 0⟩), iv p] s (fun w s' => (∃ q, w = .bool q ∧ (q = true → ∃ j : Nat, p = Int.ofNat j ∧ j < L.length)) ∧ s' = s) := by
  refine hJ.f575.tri ?_
  unfold a575
  have h0 := hc.has
  have hl := hL.len
  have hb := hL.2.1
  simp only [big] at hb
  refine Vr (k := ?_)
  refine WO.r (.arith rfl rfl (sub_w _ _)) (Vr (k := WO.w (WS.cl (in587s hJ) ?_)))
  rintro w _ ⟨⟨q, rfl, hq⟩, rfl⟩
  refine Vr (k := ?_)
  refine ⟨⟨q, rfl, fun h => ?_⟩, rfl⟩
  obtain ⟨h1, h2⟩ := hq h
  obtain ⟨j, rfl⟩ := Int.eq_ofNat_of_zero_le h1
  refine ⟨j, rfl, ?_⟩
  rw [isub_eq, wrap_i64 (by simp; omega) (by simp; omega)] at h2
  simp at h2
  omega
theorem Sta.mono {s' : SH} {v : Nat → AV} (hv : Sta s v) (hs : ∀ p, p ∈ s → p ∈ s') : Sta s' v := by
  obtain ⟨⟨L0, h0⟩, ⟨L1, h1⟩, ⟨L2, h2⟩, ⟨L3, h3⟩, ⟨L4, h4⟩, ⟨L5, h5⟩, ⟨L6, h6⟩, ⟨L7, h7⟩, ⟨L8, h8⟩, ⟨L9, h9⟩, ⟨L10, h10⟩⟩ := hv
  exact ⟨⟨_, h0.mono hs⟩, ⟨_, h1.mono hs⟩, ⟨_, h2.mono hs⟩, ⟨_, h3.mono hs⟩, ⟨_, h4.mono hs⟩, ⟨_, h5.mono hs⟩, ⟨_, h6.mono hs⟩, ⟨_, h7.mono hs⟩, ⟨_, h8.mono hs⟩, ⟨_, h9.mono hs⟩, ⟨_, h10.mono hs⟩⟩
theorem settled506 (hC : BaseCh P K F T) (hB : BaseSt P K F T) (hS : BaseSl P K F T) (hJ : BaseJu P K F T) (hT : TyC P T) (t45 : Ty P (T 45) 14) {v : Nat → AV} {n : Nat → Int} {py : Bool} (hv : Sta s v) {L Lf Lc : List (List AV)} (hL : SlT s rOb (v 1) L) (hf : SlT s [.i] (v 6) Lf) (hcv : SlT s rCd (v 10) Lc) (hE : ∀ r ∈ L, EfB r)
    (hA : ∀ r ∈ Lc, ∀ v k, r[10]? = some v → lenOf v = some k → k ≤ 1048576) (hN : Lf.length ≤ 500) :
    Tri P K (F 506) [v 10, .agg (cfRow n), .agg (stRow v n py)] s (fun w s' => isB w ∧ ∃ m, s'.Perm (m ++ s)) := by
  refine hJ.f506.tri ?_
  unfold a506
  obtain ⟨L0, hL0⟩ := hv.pl
  obtain ⟨L8, hL8⟩ := hv.wa
  have hl8 := hL8.len
  have p10 := part1 hcv.ok.one
  refine Vr (k := WO.a (.box rfl p10) fun b3 => Vr (k := fun b4 => Vr (k := fun b5 => Vr (k := WP.cond rfl (fun _ => ?_) (fun _ => ?_)))))
  · refine Vr (k := ?_)
    exact ⟨⟨_, rfl⟩, [_, _, _], .refl _⟩
  have hs0 : ∀ p, p ∈ s → p ∈ (b5, HO.r false [stRow v n py] 25) :: (b4, .r false [cfRow n] 5) :: (b3, .r false [[v 10]] 1) :: s := fun p hp => by simp [hp]
  refine Vr (k := WO.w (WS.cl (of558 hJ (hv.mono hs0)) ?_))
  rintro _ s2 ⟨bc, bm, rfl, hc, m, hp⟩
  have hst : ∀ p, p ∈ (b5, HO.r false [stRow v n py] 25) :: (b4, HO.r false [cfRow n] 5) :: (b3, HO.r false [[v 10]] 1) :: s → p ∈ s2 := fun p h => hp.symm.subset (List.mem_append_right _ h)
  have k5 : Has b5 (.r false [stRow v n py] 25) s2 := Has.of_mem (hst _ (List.mem_cons_self ..))
  have k3 : Has b3 (.r false [[v 10]] 1) s2 := Has.of_mem (hst _ (by simp))
  refine Vr (k := fun b7 => Vr (k := fun b8 => Vr (k := ?_)))
  obtain ⟨t, ht⟩ : ∃ t, t = (b7, HO.r false [[.ptr (some ⟨bc, 0, 0⟩)]] 1) :: s2 := ⟨_, rfl⟩
  have h2t : ∀ p, p ∈ s2 → p ∈ t := by rw [ht]; intro p hp; simp [hp]
  have h7 : Has b7 (.r false [[.ptr (some ⟨bc, 0, 0⟩)]] 1) t := by rw [ht]; exact .here
  have hst' : ∀ p, p ∈ s → p ∈ t := fun p h => h2t p (hst p (hs0 p h))
  have hk : KI [] (IC b8 t) ((b8, .r false [[iv 0]] 1) :: (b7, HO.r false [[.ptr (some ⟨bc, 0, 0⟩)]] 1) :: s2) := ⟨_, ⟨0, [], by rw [ht]; exact .refl _⟩, .refl _⟩
  refine WO.w (WS.cl (KI.all (all570 hJ hS) rfl hk IC.cons IC.mem (hL0.mono hst') (lives571 hJ fun r hr => ((hL0.mono hst').2.2 r hr))) ?_)
  rintro _ s3 ⟨⟨q, rfl⟩, u3, ⟨k, m3, hp3⟩, hp3'⟩
  refine WO.pre (hp3'.trans hp3) ?_
  have ht3 : ∀ p, p ∈ t → p ∈ (b8, HO.r false [[iv k]] 1) :: (m3 ++ t) := fun p hp => by simp [hp]
  have hcX : Crt ((b8, HO.r false [[iv k]] 1) :: (m3 ++ t)) bc bm v n py := (hc.up h2t).up ht3
  have hsX : ∀ p, p ∈ s → p ∈ (b8, HO.r false [[iv k]] 1) :: (m3 ++ t) := fun p h => ht3 p (hst' p h)
  have j3 := (k3.mono h2t).mono ht3
  have j5 := (k5.mono h2t).mono ht3
  have j7 := h7.mono ht3
  have hU : Up s ((b8, HO.r false [[iv k]] 1) :: (m3 ++ t)) := by
    subst ht
    exact ((((Up.rfl.cons.cons.cons).trans ⟨m, hp⟩).cons).app).cons
  cases q with
  | false =>
    refine Vr (k := ?_)
    exact ⟨⟨_, rfl⟩, hU⟩
  | true =>
    obtain ⟨X, hX⟩ : ∃ X, X = (b8, HO.r false [[iv k]] 1) :: (m3 ++ t) := ⟨_, rfl⟩
    have j8 : Has b8 (.r false [[iv k]] 1) X := by rw [hX]; exact .here
    rw [← hX] at hcX hsX j3 j5 j7 hU ⊢
    refine Vr (k := WO.w (WS.cl (KI.all (all574 hJ hS) rfl (y := []) (I := I0 X) ⟨X, ⟨[], .refl _⟩, .refl _⟩ I0.cons (fun u hu => hu.sub) (hf.mono hsX) (strong572 hC hB hS hJ hT t45 hcX (hL.mono hsX) (hf.mono hsX) (hcv.mono hsX) hE hA hN j3 j5 j7)) ?_))
    rintro _ s4 ⟨⟨q, rfl⟩, u4, ⟨m4, hp4⟩, hp4'⟩
    have hU4 : Up X s4 := ⟨m4, hp4'.trans hp4⟩
    have i5 := j5.mono hU4.mem
    have i7 := j7.mono hU4.mem
    have i8 := j8.mono hU4.mem
    have hc4 := hcX.up hU4.mem
    have hL4 := (hL0.mono hsX).mono hU4.mem
    have fin : ∀ {q : Bool}, isB (.bool q) ∧ ∃ m, s4.Perm (m ++ s) := ⟨⟨_, rfl⟩, hU.trans hU4⟩
    have hthere := there575s hJ hc4 hL4 (p := n 3)
    repeat' (refine Vr (k := ?_); first | exact fin | refine WO.g2 rfl ?_ ?_ | refine WO.skipu rfl ?_ | (refine WO.w (WS.cl hthere ?_); rintro _ _ ⟨⟨q3, rfl, hq3⟩, rfl⟩; cases q3) | (obtain ⟨j, hj, hjL⟩ := hq3 rfl; obtain ⟨b, r, n0, c, sl, ro, M, row, e, hb, hn, hM, hr, -⟩ := hL4.at hjL; obtain ⟨a, bb, rfl⟩ := hr.pl; refine WO.r (.iai e hn hj) ?_))
end
end Go.Ev
set_option maxHeartbeats 8000000
namespace Go.Ev
section
variable {P : Program} {K : Orc} {rd : Option Nat} {nt : Nat} {l : Sl} {ds : List ADef} {s : SH} {Q Qn Qr : Po} {Qe : Nat → Po} {F : Nat → FuncId} {T : Nat → TypeId}
theorem WS.append0 {R : AV → List ADef → SH → Prop} {sz bytes : Nat} {ss x : Operand} {rw : Nat} {xv : AV} {N : List (List AV)} (hN : Src s sz xv N) (hz : sz ≠ 0) (h1 : N.length ≤ 1000000000) (h2 : bytes ≤ 1000)
    (k : ∀ w o, GrE sz w N o → R w ds (o ++ s)) (hs : opl l ss = some (.slice none 0 0 false rw) := by exact rfl) (hx : opl l x = some xv := by exact rfl) : WS P K (.append sz bytes ss x) l ds s R := by
  by_cases h0 : N = []
  · subst h0
    exact WS.append_none hs hx hN hz (Nat.le_refl _) (k _ [] .nil)
  · exact WS.append_nil (c := 0) hs hx hN hz h0 h1 h2 fun b => k _ [(b, .r false N sz)] (.rows h0)
inductive GrS (sz : Nat) : AV → List (List AV) → SH → Prop
  | nil {rw : Nat} : GrS sz (.slice none 0 0 false rw) [] []
  | rows {b : Nat} {sl : Bool} {L : List (List AV)} (hL : L ≠ []) : GrS sz (.slice (some ⟨b, 0, 0⟩) L.length L.length sl sz) L [(b, .r false L sz)]
theorem GrE.toS {sz : Nat} {v : AV} {L : List (List AV)} {o : SH} (h : GrE sz v L o) : GrS sz v L o := by
  cases h with
  | nil => exact .nil
  | rows h => exact .rows h
theorem GrS.src {sz : Nat} {v : AV} {L : List (List AV)} {o : SH} (h : GrS sz v L o) {s : SH} (hs : ∀ p, p ∈ o → p ∈ s) : Src s sz v L := by
  cases h with
  | nil => exact .nil
  | @rows b sl L hL =>
    have := Src.rows (r := 0) (n := L.length) (c := L.length) (sl := sl) (Has.here (b := b) (o := .r false L sz) (s := [])) (by omega)
    simp only [List.drop_zero, List.take_length] at this
    exact this.mono hs
theorem GrS.one {sz : Nat} {v : AV} {L : List (List AV)} {o : SH} (h : GrS sz v L o) : partCells 1 v = some [v] := part1 (by cases h <;> rfl)
theorem GrS.lenOf {sz : Nat} {v : AV} {L : List (List AV)} {o : SH} (h : GrS sz v L o) : lenOf v = some L.length := by cases h <;> rfl
abbrev Cn := List (List AV × List (List AV))
inductive RowsN (s : SH) (m : Nat) : List (List AV) → Cn → Prop
  | nil : RowsN s m [] []
  | cons {r : List AV} {a : AV} {I : List (List AV)} {L : List (List AV)} {C : Cn} (h : Src s m a I) (hs : RowsN s m L C) : RowsN s m ((r ++ [a]) :: L) ((r, I) :: C)
def SrcN (s : SH) (k m : Nat) (v : AV) (C : Cn) : Prop := ∃ L, Src s (k + 1) v L ∧ RowsN s m L C
inductive OwnR (m : Nat) : List (List AV) → Cn → SH → Prop
  | nil : OwnR m [] [] []
  | snoc {r : List AV} {a : AV} {I : List (List AV)} {L : List (List AV)} {C : Cn} {o o1 : SH} (hs : OwnR m L C o) (h : GrS m a I o1) : OwnR m (L ++ [r ++ [a]]) (C ++ [(r, I)]) (o1 ++ o)
def OwnN (k m : Nat) (v : AV) (C : Cn) (o : SH) : Prop := ∃ L ob oi, GrE (k + 1) v L ob ∧ OwnR m L C oi ∧ o = ob ++ oi
theorem RowsN.len {m : Nat} {L : List (List AV)} {C : Cn} (h : RowsN s m L C) : L.length = C.length := by
  induction h with
  | nil => rfl
  | cons _ _ ih => simp [ih]
theorem OwnR.len {m : Nat} {L : List (List AV)} {C : Cn} {o : SH} (h : OwnR m L C o) : L.length = C.length := by
  induction h with
  | nil => rfl
  | snoc _ _ ih => simp [ih]
theorem SrcN.len {k m : Nat} {v : AV} {C : Cn} (h : SrcN s k m v C) : lenOf v = some C.length := by
  obtain ⟨L, h1, h2⟩ := h
  rw [h1.lenOf, h2.len]
theorem RowsN.mono {s' : SH} {m : Nat} {L : List (List AV)} {C : Cn} (h : RowsN s m L C) (hs : ∀ p, p ∈ s → p ∈ s') : RowsN s' m L C := by
  induction h with
  | nil => exact .nil
  | cons h _ ih => exact .cons (h.mono hs) ih
theorem SrcN.mono {s' : SH} {k m : Nat} {v : AV} {C : Cn} (h : SrcN s k m v C) (hs : ∀ p, p ∈ s → p ∈ s') : SrcN s' k m v C := by
  obtain ⟨L, h1, h2⟩ := h
  exact ⟨L, h1.mono hs, h2.mono hs⟩
theorem RowsN.get {m : Nat} {L : List (List AV)} {C : Cn} (h : RowsN s m L C) : ∀ {i : Nat}, (hi : i < C.length) → ∃ a, L[i]? = some (C[i].1 ++ [a]) ∧ Src s m a C[i].2 := by
  induction h with
  | nil => intro i hi; cases hi
  | cons h _ ih =>
    intro i hi
    cases i with
    | zero => exact ⟨_, rfl, h⟩
    | succ i =>
      obtain ⟨a, h1, h2⟩ := ih (i := i) (by simpa using hi)
      exact ⟨a, by simpa using h1, by simpa using h2⟩
theorem SrcN.at {k m : Nat} {v : AV} {C : Cn} (h : SrcN s k m v C) {i : Nat} (hi : i < C.length) : ∃ b r n c sl ro M a, v = .slice (some ⟨b, r, 0⟩) n c sl (k + 1) ∧ Has b (.r ro M (k + 1)) s ∧ i < n ∧ M[r + i]? = some (C[i].1 ++ [a]) ∧ Src s m a C[i].2 := by
  obtain ⟨L, h1, h2⟩ := h
  obtain ⟨a, h3, h4⟩ := h2.get hi
  obtain ⟨b, r, n, c, sl, ro, M, e, hb, hn, hM⟩ := h1.at (i := i) (by rw [h2.len]; exact hi)
  exact ⟨b, r, n, c, sl, ro, M, a, e, hb, hn, hM.trans h3, h4⟩
theorem RowsN.snoc {m : Nat} {L : List (List AV)} {C : Cn} {r : List AV} {a : AV} {I : List (List AV)} (h : RowsN s m L C) (hI : Src s m a I) : RowsN s m (L ++ [r ++ [a]]) (C ++ [(r, I)]) := by
  induction h with
  | nil => exact .cons hI .nil
  | cons h _ ih => exact .cons h ih
theorem GrE.src {sz : Nat} {v : AV} {L : List (List AV)} {o : SH} (h : GrE sz v L o) {s : SH} (hs : ∀ p, p ∈ o → p ∈ s) : Src s sz v L := h.out.src.mono hs
theorem OwnR.rows {m : Nat} {L : List (List AV)} {C : Cn} {o : SH} (h : OwnR m L C o) : RowsN o m L C := by
  induction h with
  | nil => exact .nil
  | snoc hs h ih => exact (ih.mono fun p hp => List.mem_append_right _ hp).snoc (h.src fun p hp => List.mem_append_left _ hp)
theorem OwnN.src {k m : Nat} {v : AV} {C : Cn} {o : SH} (h : OwnN k m v C o) {s : SH} (hs : ∀ p, p ∈ o → p ∈ s) : SrcN s k m v C := by
  obtain ⟨L, ob, oi, h1, h2, rfl⟩ := h
  exact ⟨L, h1.src fun p hp => hs p (List.mem_append_left _ hp), h2.rows.mono fun p hp => hs p (List.mem_append_right _ hp)⟩
theorem OwnN.nil {k m rw : Nat} : OwnN k m (.slice none 0 0 false rw) [] [] := ⟨[], [], [], .nil, .nil, rfl⟩
theorem ints555 (hR : BaseR12 P K F T) {v : AV} {L : List (List AV)} (hL : Src s 1 v L) (hn : L.length ≤ 1000000000) : Tri P K (F 555) [v] s (fun w s' => ∃ o, GrE 1 w L o ∧ s' = o ++ s) := by
  refine hR.f555.tri ?_
  unfold a555
  refine Vr (k := WO.w (WS.append0 hL (by decide) hn (by decide) fun w o hG => Vr (k := ?_)))
  exact ⟨o, hG, rfl⟩
theorem targets557 (hR : BaseR12 P K F T) {v : AV} {L : List (List AV)} (hL : Src s 2 v L) (hn : L.length ≤ 1000000000) : Tri P K (F 557) [v] s (fun w s' => ∃ o, GrE 2 w L o ∧ s' = o ++ s) := by
  refine hR.f557.tri ?_
  unfold a557
  refine Vr (k := WO.w (WS.append0 hL (by decide) hn (by decide) fun w o hG => Vr (k := ?_)))
  exact ⟨o, hG, rfl⟩
end
end Go.Ev
set_option maxHeartbeats 8000000
namespace Go.Ev
section
variable {P : Program} {K : Orc} {rd : Option Nat} {nt : Nat} {l : Sl} {ds : List ADef} {s : SH} {Q Qn Qr : Po} {Qe : Nat → Po} {F : Nat → FuncId} {T : Nat → TypeId}
structure CnT (B : Nat) (sc inn : List CT) (C : Cn) : Prop where
  len : C.length ≤ B
  row : ∀ p ∈ C, OkR [] sc p.1 ∧ p.2.length ≤ B ∧ ∀ q ∈ p.2, OkR [] inn q
theorem lists554 (hR : BaseR12 P K F T) {v : AV} {C : Cn} {B : Nat} {inn : List CT} (hv : SrcN s 0 1 v C) (hC : CnT B [] inn C) (hB : B ≤ 900000000) : Tri P K (F 554) [v] s (fun w s' => ∃ o m, OwnN 0 1 w C o ∧ s'.Perm (m ++ (o ++ s))) := by
  refine hR.f554.tri ?_
  unfold a554
  have hl := hv.len
  have hb := hC.len
  refine Vr (k := ?_)
  refine WP.loop (fun k l ds s' => ds = [] ∧ ∃ i w L ob oi m, k = C.length - i ∧ i ≤ C.length ∧ GrE 1 w L ob ∧ OwnR 1 L (C.take i) oi ∧ s'.Perm (m ++ (ob ++ (oi ++ s))) ∧ ∀ j x, lk [(0, v), (3, w), (4, .int .i64 (.ofNat i))] j = some x → lk l j = some x) ?_ (n := C.length - 0) ⟨rfl, 0, _, [], [], [], [], rfl, Nat.zero_le _, .nil, .nil, .refl _, sbs⟩
  rintro k l ds s' ⟨rfl, i, w, L, ob, oi, m, rfl, hi, hG, hO, hp, hlk⟩
  refine WP.pre hp (WP.weak hlk (fun _ _ h => h) ?_)
  have hLl : L.length = i := by rw [hO.len, List.length_take, Nat.min_eq_left hi]
  refine Vr (k := WP.cond rfl (fun hlt0 => ?_) (fun hlt0 => ?_))
  · have hlt : i < C.length := Int.ofNat_lt.1 (of_decide_eq_true hlt0)
    obtain ⟨b, r, n0, c, sl, ro, M, a, e, hb1, hn, hM, ha⟩ := hv.at hlt
    obtain ⟨h1, h2, -⟩ := hC.row _ (List.getElem_mem hlt)
    have h1 := h1.nil_inv
    rw [h1] at hM
    have k1 : Has b (.r ro M 1) (m ++ (ob ++ (oi ++ s))) := .app (.app (.app hb1))
    have hadd : binV .add (AV.int .i64 (.ofNat i)) (AV.int .i64 (.ofNat 1)) = some (AV.int .i64 (.ofNat (i + 1))) := add_n (by omega)
    have hs1 : ∀ p, p ∈ s → p ∈ m ++ (ob ++ (oi ++ s)) := fun p hp => by simp [hp]
    refine Vr (k := WO.r (.ia e hn) (Vr (k := WO.w (WS.cl (ints555 hR (ha.mono hs1) (by omega)) ?_))))
    rintro w1 _ ⟨o1, hG1, rfl⟩
    have p1 := hG1.one
    refine Vr (k := WO.a (.bslice (bsrows1 rfl p1) rfl) fun b17 => ?_)
    refine WO.w (WS.pre (s' := ((b17, HO.r false [[w1]] 1) :: (o1 ++ m)) ++ (ob ++ (oi ++ s))) pm2 (WS.append_gre (N := [[w1]]) rfl hG rfl (Src.all .here) (by decide) (by simp; omega) (by decide) fun w2 o2 j2 hG2 => ?_))
    refine Vr (k := ?_)
    refine ⟨C.length - (i + 1), by omega, rfl, i + 1, w2, L ++ [(C[i]).1 ++ [w1]], o2, o1 ++ oi, (b17, HO.r false [[w1]] 1) :: (m ++ j2), rfl, hlt, by rw [h1]; exact hG2, ?_, pm2, sbs⟩
    rw [List.take_succ_eq_append_getElem hlt]
    exact OwnR.snoc hO hG1.toS
  · have hie : i = C.length := by have := of_decide_eq_false hlt0; simp at this; omega
    subst hie
    refine WP.exit (Vr (k := ?_))
    rw [List.take_length] at hO
    exact ⟨ob ++ oi, m, ⟨L, ob, oi, hG, hO, rfl⟩, by rw [List.append_assoc]⟩
theorem OkR.i6 {r : List AV} (h : OkR s [.i, .i, .i, .i, .i, .i] r) : ∃ a : Nat → Int, r = [iv (a 0), iv (a 1), iv (a 2), iv (a 3), iv (a 4), iv (a 5)] := by
  obtain ⟨a0, _, rfl, h1⟩ := h.invi
  obtain ⟨a1, _, rfl, h2⟩ := h1.invi
  obtain ⟨a2, _, rfl, h3⟩ := h2.invi
  obtain ⟨a3, _, rfl, h4⟩ := h3.invi
  obtain ⟨a4, _, rfl, h5⟩ := h4.invi
  obtain ⟨a5, _, rfl, h6⟩ := h5.invi
  cases h6.nil_inv
  exact ⟨fun i => [a0, a1, a2, a3, a4, a5].getD i 0, rfl⟩
@[reducible] def sIt : List CT := [.i, .i, .i, .i, .i, .i]
theorem Src.one {sz : Nat} {v : AV} {L : List (List AV)} (h : Src s sz v L) : partCells 1 v = some [v] := part1 (by cases h <;> rfl)
theorem pmP {p q : Nat × HO} {a m y : SH} : (p :: (a ++ (q :: (m ++ y)))).Perm ((p :: (a ++ (q :: m))) ++ y) := by simp
theorem pmQ {p q : Nat × HO} {a m x j y z : SH} : (x ++ ((p :: (a ++ (q :: m))) ++ (j ++ (y ++ z)))).Perm ((p :: (q :: (m ++ j))) ++ (x ++ ((a ++ y) ++ z))) := pm2
theorem items556 (hR : BaseR12 P K F T) {v : AV} {C : Cn} {B : Nat} {inn : List CT} (hv : SrcN s 6 2 v C) (hC : CnT B sIt inn C) (hB : B ≤ 900000000) : Tri P K (F 556) [v] s (fun w s' => ∃ o m, OwnN 6 2 w C o ∧ s'.Perm (m ++ (o ++ s))) := by
  refine hR.f556.tri ?_
  unfold a556
  have hl := hv.len
  have hb := hC.len
  refine Vr (k := ?_)
  refine WP.loop (fun k l ds s' => ds = [] ∧ ∃ i w L ob oi m, k = C.length - i ∧ i ≤ C.length ∧ GrE 7 w L ob ∧ OwnR 2 L (C.take i) oi ∧ s'.Perm (m ++ (ob ++ (oi ++ s))) ∧ ∀ j x, lk [(0, v), (3, w), (4, .int .i64 (.ofNat i))] j = some x → lk l j = some x) ?_ (n := C.length - 0) ⟨rfl, 0, _, [], [], [], [], rfl, Nat.zero_le _, .nil, .nil, .refl _, sbs⟩
  rintro k l ds s' ⟨rfl, i, w, L, ob, oi, m, rfl, hi, hG, hO, hp, hlk⟩
  refine WP.pre hp (WP.weak hlk (fun _ _ h => h) ?_)
  have hLl : L.length = i := by rw [hO.len, List.length_take, Nat.min_eq_left hi]
  refine Vr (k := WP.cond rfl (fun hlt0 => ?_) (fun hlt0 => ?_))
  · have hlt : i < C.length := Int.ofNat_lt.1 (of_decide_eq_true hlt0)
    obtain ⟨b, r, n0, c, sl, ro, M, a, e, hb1, hn, hM, ha⟩ := hv.at hlt
    obtain ⟨h1, h2, -⟩ := hC.row _ (List.getElem_mem hlt)
    obtain ⟨z, hz⟩ := h1.i6
    rw [hz] at hM
    have k1 : Has b (.r ro M 7) (m ++ (ob ++ (oi ++ s))) := .app (.app (.app hb1))
    have hadd : binV .add (AV.int .i64 (.ofNat i)) (AV.int .i64 (.ofNat 1)) = some (AV.int .i64 (.ofNat (i + 1))) := add_n (by omega)
    have p1 := ha.one
    refine Vr (k := WO.r (.ia e hn) (Vr (k := fun b5 => Vr (k := WO.w (WS.cl (targets557 hR (ha.mono fun p hp => by simp [hp]) (by omega)) ?_)))))
    rintro w1 _ ⟨o1, hG1, rfl⟩
    have p2 := hG1.one
    refine Vr (k := WO.w (WS.store rfl rfl p2 (.app .here) rfl rfl (Vr (k := ?_))))
    refine WO.a (.bslice (bsrows1 rfl rfl) rfl) fun b22 => ?_
    refine WO.w (WS.pre pmP (WS.append_gre (N := [[iv (z 0), iv (z 1), iv (z 2), iv (z 3), iv (z 4), iv (z 5), w1]]) rfl hG rfl (Src.all .here) (by decide) (by simp; omega) (by decide) fun w2 o2 j2 hG2 => ?_))
    refine Vr (k := ?_)
    refine ⟨C.length - (i + 1), by omega, rfl, i + 1, w2, L ++ [(C[i]).1 ++ [w1]], o2, o1 ++ oi, _ :: (_ :: (m ++ j2)), rfl, hlt, by rw [hz]; exact hG2, ?_, pmQ, sbs⟩
    rw [List.take_succ_eq_append_getElem hlt]
    exact OwnR.snoc hO hG1.toS
  · have hie : i = C.length := by have := of_decide_eq_false hlt0; simp at this; omega
    subst hie
    refine WP.exit (Vr (k := ?_))
    rw [List.take_length] at hO
    exact ⟨ob ++ oi, m, ⟨L, ob, oi, hG, hO, rfl⟩, by rw [List.append_assoc]⟩
end
end Go.Ev
set_option maxHeartbeats 8000000
namespace Go.Ev
section
variable {P : Program} {K : Orc} {rd : Option Nat} {nt : Nat} {l : Sl} {ds : List ADef} {s : SH} {Q Qn Qr : Po} {Qe : Nat → Po} {F : Nat → FuncId} {T : Nat → TypeId}
structure SC where
  pl : List (List AV)
  ob : Cn
  lb : Cn
  hd : Cn
  gr : Cn
  ex : Cn
  fi : List (List AV)
  st : Cn
  wa : Cn
  kt : List (List AV)
@[reducible] def sOb : List CT := [.i, .i, .i, .i, .i, .b, .b, .b, .i, .i, .i, .i, .b]
structure SrcS (s : SH) (v : Nat → AV) (c : SC) : Prop where
  pl : Src s 8 (v 0) c.pl
  ob : SrcN s 13 4 (v 1) c.ob
  lb : SrcN s 0 1 (v 2) c.lb
  hd : SrcN s 0 1 (v 3) c.hd
  gr : SrcN s 0 1 (v 4) c.gr
  ex : SrcN s 0 1 (v 5) c.ex
  fi : Src s 1 (v 6) c.fi
  st : SrcN s 6 2 (v 7) c.st
  wa : SrcN s 6 2 (v 8) c.wa
  kt : Src s 2 (v 9) c.kt
structure OwnS (v : Nat → AV) (c : SC) (o : Nat → SH) : Prop where
  pl : GrE 8 (v 0) c.pl (o 0)
  ob : OwnN 13 4 (v 1) c.ob (o 1)
  lb : OwnN 0 1 (v 2) c.lb (o 2)
  hd : OwnN 0 1 (v 3) c.hd (o 3)
  gr : OwnN 0 1 (v 4) c.gr (o 4)
  ex : OwnN 0 1 (v 5) c.ex (o 5)
  fi : GrS 1 (v 6) c.fi (o 6)
  st : OwnN 6 2 (v 7) c.st (o 7)
  wa : OwnN 6 2 (v 8) c.wa (o 8)
  kt : GrE 2 (v 9) c.kt (o 9)
@[reducible] def own (o : Nat → SH) (t : SH) : SH := o 0 ++ (o 1 ++ (o 2 ++ (o 3 ++ (o 4 ++ (o 5 ++ (o 6 ++ (o 7 ++ (o 8 ++ (o 9 ++ t)))))))))
structure ScT (B n : Nat) (c : SC) : Prop where
  pl : c.pl.length = n ∧ ∀ r ∈ c.pl, OkR [] rPl r
  n4 : n ≤ 4
  ob : CnT B sOb rEf c.ob
  ow : ∀ p ∈ c.ob, ∃ j : Nat, p.1[2]? = some (iv (.ofNat j)) ∧ j < n
  lb : CnT B [] [.i] c.lb ∧ c.lb.length = n
  hd : CnT B [] [.i] c.hd ∧ c.hd.length = n
  gr : CnT B [] [.i] c.gr ∧ c.gr.length = n
  ex : CnT B [] [.i] c.ex ∧ c.ex.length = n
  fi : c.fi.length ≤ B ∧ ∀ r ∈ c.fi, OkR [] [.i] r
  st : CnT B sIt rTg c.st
  wa : CnT B sIt rTg c.wa
  kt : c.kt.length ≤ B ∧ ∀ r ∈ c.kt, OkR [] rTg r
theorem SrcS.mono {s' : SH} {v : Nat → AV} {c : SC} (h : SrcS s v c) (hs : ∀ p, p ∈ s → p ∈ s') : SrcS s' v c :=
  ⟨h.pl.mono hs, h.ob.mono hs, h.lb.mono hs, h.hd.mono hs, h.gr.mono hs, h.ex.mono hs, h.fi.mono hs, h.st.mono hs, h.wa.mono hs, h.kt.mono hs⟩
theorem OwnS.src {v : Nat → AV} {c : SC} {o : Nat → SH} (h : OwnS v c o) {t : SH} : SrcS (own o t) v c :=
  ⟨h.pl.src fun p hp => by simp [own, hp], h.ob.src fun p hp => by simp [own, hp], h.lb.src fun p hp => by simp [own, hp], h.hd.src fun p hp => by simp [own, hp], h.gr.src fun p hp => by simp [own, hp], h.ex.src fun p hp => by simp [own, hp], h.fi.src fun p hp => by simp [own, hp], h.st.src fun p hp => by simp [own, hp], h.wa.src fun p hp => by simp [own, hp], h.kt.src fun p hp => by simp [own, hp]⟩
theorem OwnN.one {k m : Nat} {v : AV} {C : Cn} {o : SH} (h : OwnN k m v C o) : partCells 1 v = some [v] := by
  obtain ⟨L, ob, oi, h, -⟩ := h
  exact h.one
theorem SrcN.one {k m : Nat} {v : AV} {C : Cn} (h : SrcN s k m v C) : partCells 1 v = some [v] := by
  obtain ⟨L, h, -⟩ := h
  exact h.one
theorem OkR.ob13 {r : List AV} (h : OkR s sOb r) : ∃ (a : Nat → Int) (b : Nat → Bool), r = [iv (a 0), iv (a 1), iv (a 2), iv (a 3), iv (a 4), .bool (b 0), .bool (b 1), .bool (b 2), iv (a 5), iv (a 6), iv (a 7), iv (a 8), .bool (b 3)] := by
  obtain ⟨a0, _, rfl, h1⟩ := h.invi
  obtain ⟨a1, _, rfl, h2⟩ := h1.invi
  obtain ⟨a2, _, rfl, h3⟩ := h2.invi
  obtain ⟨a3, _, rfl, h4⟩ := h3.invi
  obtain ⟨a4, _, rfl, h5⟩ := h4.invi
  obtain ⟨b0, _, rfl, h6⟩ := h5.invb
  obtain ⟨b1, _, rfl, h7⟩ := h6.invb
  obtain ⟨b2, _, rfl, h8⟩ := h7.invb
  obtain ⟨a5, _, rfl, h9⟩ := h8.invi
  obtain ⟨a6, _, rfl, h10⟩ := h9.invi
  obtain ⟨a7, _, rfl, h11⟩ := h10.invi
  obtain ⟨a8, _, rfl, h12⟩ := h11.invi
  obtain ⟨b3, _, rfl, h13⟩ := h12.invb
  cases h13.nil_inv
  exact ⟨fun i => [a0, a1, a2, a3, a4, a5, a6, a7, a8].getD i 0, fun i => [b0, b1, b2, b3].getD i false, rfl⟩
end
end Go.Ev
set_option maxHeartbeats 8000000
namespace Go.Ev
section
variable {P : Program} {K : Orc} {rd : Option Nat} {nt : Nat} {l : Sl} {ds : List ADef} {s : SH} {Q Qn Qr : Po} {Qe : Nat → Po} {F : Nat → FuncId} {T : Nat → TypeId}
theorem pmS {p q : Nat × HO} {m' o m y : SH} : (m' ++ (o ++ (p :: q :: (m ++ y)))).Perm (p :: q :: ((m' ++ m) ++ (o ++ y))) := pm2
theorem pmS0 {p q : Nat × HO} {o m y : SH} : (o ++ (p :: q :: (m ++ y))).Perm (p :: q :: (m ++ (o ++ y))) := pm2
theorem pmT {p q : Nat × HO} {o s : SH} : (o ++ (q :: p :: s)).Perm (p :: q :: (([] : SH) ++ (([] : SH) ++ (([] : SH) ++ (o ++ s))))) := pm2
theorem pmU {p q x y : Nat × HO} {a m t : SH} : (p :: (a ++ (q :: x :: y :: (m ++ t)))).Perm ((p :: (a ++ (q :: x :: y :: m))) ++ t) := by simp
theorem pmV {p q x y : Nat × HO} {x' a m j oi z : SH} : (x' ++ ((p :: (a ++ (q :: x :: y :: m))) ++ (j ++ (oi ++ z)))).Perm (x :: y :: ((p :: q :: (m ++ j)) ++ (x' ++ ((a ++ oi) ++ z)))) := pm2
theorem pmW {p q : Nat × HO} {M a0 x y a2 a3 a4 a5 a6 a7 a8 a9 s : SH} : (p :: q :: (M ++ (a9 ++ (a8 ++ (a7 ++ (a6 ++ (a5 ++ (a4 ++ (a3 ++ (a2 ++ (x ++ (y ++ (a0 ++ s))))))))))))).Perm ((p :: q :: M) ++ (a0 ++ ((x ++ y) ++ (a2 ++ (a3 ++ (a4 ++ (a5 ++ (a6 ++ (a7 ++ (a8 ++ (a9 ++ s))))))))))) := pm2
def ten (a0 a1 a2 a3 a4 a5 a6 a7 a8 a9 : SH) : Nat → SH
  | 0 => a0 | 1 => a1 | 2 => a2 | 3 => a3 | 4 => a4 | 5 => a5 | 6 => a6 | 7 => a7 | 8 => a8 | 9 => a9 | _ => []
def tenV (a0 a1 a2 a3 a4 a5 a6 a7 a8 a9 : AV) : Nat → AV
  | 0 => a0 | 1 => a1 | 2 => a2 | 3 => a3 | 4 => a4 | 5 => a5 | 6 => a6 | 7 => a7 | 8 => a8 | 9 => a9 | _ => .undef
@[reducible] def zSt : List AV := [(.slice none 0 0 false 0), (.slice none 0 0 false 0), (.slice none 0 0 false 0), (.slice none 0 0 false 0), (.slice none 0 0 false 0), (.slice none 0 0 false 0), (.slice none 0 0 false 0), (.slice none 0 0 false 0), (.slice none 0 0 false 0), (.int .i64 (.ofNat 0)), (.int .i64 (.ofNat 0)), (.int .i64 (.ofNat 0)), (.int .i64 (.ofNat 0)), (.int .i64 (.ofNat 0)), (.int .i64 (.ofNat 0)), (.int .i64 (.ofNat 0)), (.int .i64 (.ofNat 0)), (.int .i64 (.ofNat 0)), (.int .i64 (.ofNat 0)), (.int .i64 (.ofNat 0)), (.int .i64 (.ofNat 0)), (.slice none 0 0 false 0), (.bool false), (.int .i64 (.ofNat 0)), (.int .i64 (.ofNat 0))]
theorem copy504 (hR : BaseR12 P K F T) (t41 : Ty P (T 41) 25) {v : Nat → AV} {n : Nat → Int} {py : Bool} {c : SC} {B N : Nat} (hv : SrcS s v c) (hc : ScT B N c) (hB : B ≤ 900000000) : Tri P K (F 504) [.agg (stRow v n py)] s (fun w s' => ∃ v' o m, w = .agg (stRow v' n py) ∧ OwnS v' c o ∧ s'.Perm (m ++ own o s)) := by
  refine hR.f504.tri ?_
  unfold a504
  have hlo := hv.ob.len
  have hbo := hc.ob.len
  refine Vr (k := fun b1 => Vr (k := fun b2 => Vr (k := ?_)))
  have hs0 : ∀ p, p ∈ s → p ∈ (b2, HO.r false [zSt] 25) :: (b1, HO.r false [stRow v n py] 25) :: s := fun p hp => by simp [hp]
  refine WO.w (WS.append0 (hv.pl.mono hs0) (by decide) (by have := hc.pl.1; have := hc.n4; omega) (by decide) fun w0 o0 hG0 => ?_)
  have p0 := hG0.one
  refine Vr (k := ?_)
  refine WO.pre pmT ?_
  refine WO.w (WS.store rfl rfl p0 .here rfl rfl (Vr (k := ?_)))
  refine WP.loop (fun k l ds s' => ds = [] ∧ ∃ i w L ob oi m, k = c.ob.length - i ∧ i ≤ c.ob.length ∧ GrE 14 w L ob ∧ OwnR 4 L (c.ob.take i) oi ∧ s'.Perm ((b1, HO.r false [[w0, v 1, v 2, v 3, v 4, v 5, v 6, v 7, v 8, iv (n 0), iv (n 1), iv (n 2), iv (n 3), iv (n 4), iv (n 5), iv (n 6), iv (n 7), iv (n 8), iv (n 9), iv (n 10), iv (n 11), v 9, .bool py, iv (n 12), iv (n 13)]] 25) :: (b2, HO.r false [zSt] 25) :: (m ++ (ob ++ (oi ++ (o0 ++ s))))) ∧ ∀ j x, lk [(1, .ptr (some ⟨b1, 0, 0⟩)), (2, .ptr (some ⟨b2, 0, 0⟩)), (4, w), (5, .int .i64 (.ofNat i))] j = some x → lk l j = some x) ?_ (n := c.ob.length - 0) ⟨rfl, 0, _, [], [], [], [], rfl, Nat.zero_le _, .nil, .nil, .refl _, sbs⟩
  rintro k l ds s' ⟨rfl, i, w, L, ob, oi, m, rfl, hi, hG, hO, hp, hlk⟩
  refine WP.pre hp (WP.weak hlk (fun _ _ h => h) ?_)
  have hLl : L.length = i := by rw [hO.len, List.length_take, Nat.min_eq_left hi]
  refine Vr (k := WP.cond rfl (fun hlt0 => ?_) (fun hlt0 => ?_))
  · have hlt : i < c.ob.length := Int.ofNat_lt.1 (of_decide_eq_true hlt0)
    obtain ⟨b, r, n0, cc, sl, ro, M, a, e, hb1, hn, hM, ha⟩ := hv.ob.at hlt
    obtain ⟨h1, h2, -⟩ := hc.ob.row _ (List.getElem_mem hlt)
    obtain ⟨z, zb, hz⟩ := h1.ob13
    rw [hz] at hM
    have k1 : Has b (.r ro M 14) ((b1, HO.r false [[w0, v 1, v 2, v 3, v 4, v 5, v 6, v 7, v 8, iv (n 0), iv (n 1), iv (n 2), iv (n 3), iv (n 4), iv (n 5), iv (n 6), iv (n 7), iv (n 8), iv (n 9), iv (n 10), iv (n 11), v 9, .bool py, iv (n 12), iv (n 13)]] 25) :: (b2, HO.r false [zSt] 25) :: (m ++ (ob ++ (oi ++ (o0 ++ s))))) := hb1.mono fun p hp => by simp [hp]
    have hadd : binV .add (AV.int .i64 (.ofNat i)) (AV.int .i64 (.ofNat 1)) = some (AV.int .i64 (.ofNat (i + 1))) := add_n (by omega)
    have p1 := ha.one
    refine Vr (k := WO.r (.ia e hn) (Vr (k := fun b6 => Vr (k := ?_))))
    refine WO.w (WS.append0 (ha.mono fun p hp => by simp [hp]) (by decide) (by omega) (by decide) fun w1 o1 hG1 => ?_)
    have p2 := hG1.one
    refine Vr (k := WO.w (WS.store rfl rfl p2 (.app .here) rfl rfl (Vr (k := ?_))))
    refine WO.a (.bslice (bsrows1 rfl rfl) rfl) fun b32 => ?_
    refine WO.w (WS.pre pmU (WS.append_gre (N := [[iv (z 0), iv (z 1), iv (z 2), iv (z 3), iv (z 4), .bool (zb 0), .bool (zb 1), .bool (zb 2), iv (z 5), iv (z 6), iv (z 7), iv (z 8), .bool (zb 3), w1]]) rfl hG rfl (Src.all .here) (by decide) (by simp; omega) (by decide) fun w2 o2 j2 hG2 => ?_))
    refine Vr (k := ?_)
    refine ⟨c.ob.length - (i + 1), by omega, rfl, i + 1, w2, L ++ [(c.ob[i]).1 ++ [w1]], o2, o1 ++ oi, _, rfl, hlt, by rw [hz]; exact hG2, ?_, pmV, sbs⟩
    rw [List.take_succ_eq_append_getElem hlt]
    exact OwnR.snoc hO hG1.toS
  · have hie : i = c.ob.length := by have := of_decide_eq_false hlt0; simp at this; omega
    subst hie
    refine WP.exit (Vr (k := ?_))
    rw [List.take_length] at hO
    have q1 := hG.one
    refine WO.w (WS.store rfl rfl q1 .here rfl rfl (Vr (k := ?_)))
    refine WO.w (WS.cl (lists554 hR (hv.lb.mono fun p hp => by simp [hp]) hc.lb.1 hB) ?_)
    rintro w2 _ ⟨o2, m2, hw2, hp2⟩
    have q2 := hw2.one
    refine WO.pre (hp2.trans pmS) (Vr (k := WO.w (WS.store rfl rfl q2 .here rfl rfl (Vr (k := ?_)))))
    refine WO.w (WS.cl (lists554 hR (hv.hd.mono fun p hp => by simp [hp]) hc.hd.1 hB) ?_)
    rintro w3 _ ⟨o3, m3, hw3, hp3⟩
    have q3 := hw3.one
    refine WO.pre (hp3.trans pmS) (Vr (k := WO.w (WS.store rfl rfl q3 .here rfl rfl (Vr (k := ?_)))))
    refine WO.w (WS.cl (lists554 hR (hv.gr.mono fun p hp => by simp [hp]) hc.gr.1 hB) ?_)
    rintro w4 _ ⟨o4, m4, hw4, hp4⟩
    have q4 := hw4.one
    refine WO.pre (hp4.trans pmS) (Vr (k := WO.w (WS.store rfl rfl q4 .here rfl rfl (Vr (k := ?_)))))
    refine WO.w (WS.cl (lists554 hR (hv.ex.mono fun p hp => by simp [hp]) hc.ex.1 hB) ?_)
    rintro w5 _ ⟨o5, m5, hw5, hp5⟩
    have q5 := hw5.one
    refine WO.pre (hp5.trans pmS) (Vr (k := WO.w (WS.store rfl rfl q5 .here rfl rfl (Vr (k := ?_)))))
    refine WO.w (WS.cl (ints555 hR (hv.fi.mono fun p hp => by simp [hp]) (by have := hc.fi.1; omega)) ?_)
    rintro w6 _ ⟨o6, hw6, rfl⟩
    have q6 := hw6.one
    refine WO.pre pmS0 (Vr (k := WO.w (WS.store rfl rfl q6 .here rfl rfl (Vr (k := ?_)))))
    refine WO.w (WS.cl (items556 hR (hv.st.mono fun p hp => by simp [hp]) hc.st hB) ?_)
    rintro w7 _ ⟨o7, m7, hw7, hp7⟩
    have q7 := hw7.one
    refine WO.pre (hp7.trans pmS) (Vr (k := WO.w (WS.store rfl rfl q7 .here rfl rfl (Vr (k := ?_)))))
    refine WO.w (WS.cl (items556 hR (hv.wa.mono fun p hp => by simp [hp]) hc.wa hB) ?_)
    rintro w8 _ ⟨o8, m8, hw8, hp8⟩
    have q8 := hw8.one
    refine WO.pre (hp8.trans pmS) (Vr (k := WO.w (WS.store rfl rfl q8 .here rfl rfl (Vr (k := ?_)))))
    refine WO.w (WS.cl (targets557 hR (hv.kt.mono fun p hp => by simp [hp]) (by have := hc.kt.1; omega)) ?_)
    rintro w9 _ ⟨o9, hw9, rfl⟩
    have q9 := hw9.one
    refine WO.pre pmS0 (Vr (k := WO.w (WS.store rfl rfl q9 .here rfl rfl (Vr (k := ?_)))))
    refine WP.ret (Fin.mk (.ce t41) ?_)
    exact ⟨tenV w0 w w2 w3 w4 w5 w6 w7 w8 w9, ten o0 (ob ++ oi) o2 o3 o4 o5 o6 o7 o8 o9, _, rfl, ⟨hG0, ⟨L, ob, oi, hG, hO, rfl⟩, hw2, hw3, hw4, hw5, hw6.toS, hw7, hw8, hw9⟩, pmW⟩
end
end Go.Ev
set_option maxHeartbeats 8000000
namespace Go.Ev
section
variable {P : Program} {K : Orc} {rd : Option Nat} {nt : Nat} {l : Sl} {ds : List ADef} {s : SH} {Q Qn Qr : Po} {Qe : Nat → Po} {F : Nat → FuncId} {T : Nat → TypeId}
def idOf (p : List AV × List (List AV)) : Int := match p.1 with | .int _ a :: _ => a | _ => 0
def findO (C : Cn) (id : Int) : Option Nat := C.findIdx? fun p => decide (idOf p = id)
theorem findO_no {C : Cn} {id : Int} (h : ∀ j (hj : j < C.length), idOf C[j] ≠ id) : findO C id = none := by
  refine List.findIdx?_eq_none_iff.2 fun p hp => ?_
  obtain ⟨j, hj, rfl⟩ := List.getElem_of_mem hp
  simp [h j hj]
theorem findO_at {C : Cn} {id : Int} {i : Nat} (hi : i < C.length) (h : ∀ j (hj : j < C.length), j < i → idOf C[j] ≠ id) (he : idOf C[i] = id) : findO C id = some i := by
  refine List.findIdx?_eq_some_iff_getElem.2 ⟨hi, by simp [he], fun j hj => ?_⟩
  simp [h j (by omega) hj]
theorem find581 (hR : BaseR12 P K F T) {v : Nat → AV} {n : Nat → Int} {py : Bool} {C : Cn} {B : Nat} (hv : SrcN s 13 4 (v 1) C) (hC : CnT B sOb rEf C) (hB : B ≤ 900000000) {id : Int} : Tri P K (F 581) [.agg (stRow v n py), iv id] s (fun w s' => w = idxV (findO C id) ∧ ∃ m, s' = m ++ s) := by
  refine hR.f581.tri ?_
  unfold a581
  have hl := hv.len
  have hb := hC.len
  refine Vr (k := fun b2 => Vr (k := ?_))
  refine WP.loop (fun k l ds s' => ds = [] ∧ ∃ i, k = C.length - i ∧ i ≤ C.length ∧ s' = (b2, HO.r false [stRow v n py] 25) :: s ∧ (∀ j (hj : j < C.length), j < i → idOf C[j] ≠ id) ∧ ∀ j x, lk [(1, iv id), (2, .ptr (some ⟨b2, 0, 0⟩)), (5, .int .i64 (.ofNat i))] j = some x → lk l j = some x) ?_ (n := C.length - 0) ⟨rfl, 0, rfl, Nat.zero_le _, rfl, fun j _ h => absurd h (Nat.not_lt_zero _), sbs⟩
  rintro k l ds s' ⟨rfl, i, rfl, hi, rfl, hno, hlk⟩
  refine WP.weak hlk (fun _ _ h => h) ?_
  refine Vr (k := WP.cond rfl (fun hlt0 => ?_) (fun hlt0 => ?_))
  · have hlt : i < C.length := Int.ofNat_lt.1 (of_decide_eq_true hlt0)
    obtain ⟨b, r, n0, cc, sl, ro, M, a, e, hb1, hn, hM, ha⟩ := hv.at hlt
    obtain ⟨h1, -, -⟩ := hC.row _ (List.getElem_mem hlt)
    obtain ⟨z, zb, hz⟩ := h1.ob13
    have hid : idOf C[i] = z 0 := by unfold idOf; rw [hz]
    rw [hz] at hM
    have hadd : binV .add (AV.int .i64 (.ofNat i)) (AV.int .i64 (.ofNat 1)) = some (AV.int .i64 (.ofNat (i + 1))) := add_n (by omega)
    refine Vr (k := WO.r (.ia e hn) (Vr (k := WP.cond rfl (fun he => ?_) (fun he => ?_))))
    · refine Vr (k := ?_)
      have he : z 0 = id := by simpa [negB] using he
      exact ⟨by rw [findO_at hlt hno (hid.trans he)]; rfl, [_], rfl⟩
    · refine Vr (k := ?_)
      have he : z 0 ≠ id := by simpa [negB] using he
      refine ⟨C.length - (i + 1), by omega, rfl, i + 1, rfl, hlt, rfl, fun j hj hji => ?_, sbs⟩
      rcases (by omega : j < i ∨ j = i) with h | rfl
      · exact hno j hj h
      · rw [hid]; exact he
  · have hie : i = C.length := by have := of_decide_eq_false hlt0; simp at this; omega
    subst hie
    refine WP.exit (Vr (k := ?_))
    exact ⟨by rw [findO_no fun j hj => hno j hj hj]; rfl, [_], rfl⟩
theorem item616 (hR : BaseR12 P K F T) {v : AV} {C : Cn} {B : Nat} {inn : List CT} (hv : SrcN s 6 2 v C) (hC : CnT B sIt inn C) (hB : B ≤ 900000000) {id : Int} : Tri P K (F 616) [v, iv id] s (fun w s' => w = idxV (findO C id) ∧ s' = s) := by
  refine hR.f616.tri ?_
  unfold a616
  have hl := hv.len
  have hb := hC.len
  refine Vr (k := ?_)
  refine WP.loop (fun k l ds s' => ds = [] ∧ ∃ i, k = C.length - i ∧ i ≤ C.length ∧ s = s' ∧ (∀ j (hj : j < C.length), j < i → idOf C[j] ≠ id) ∧ ∀ j x, lk [(0, v), (1, iv id), (5, .int .i64 (.ofNat i))] j = some x → lk l j = some x) ?_ (n := C.length - 0) ⟨rfl, 0, rfl, Nat.zero_le _, rfl, fun j _ h => absurd h (Nat.not_lt_zero _), sbs⟩
  rintro k l ds _ ⟨rfl, i, rfl, hi, rfl, hno, hlk⟩
  refine WP.weak hlk (fun _ _ h => h) ?_
  refine Vr (k := WP.cond rfl (fun hlt0 => ?_) (fun hlt0 => ?_))
  · have hlt : i < C.length := Int.ofNat_lt.1 (of_decide_eq_true hlt0)
    obtain ⟨b, r, n0, cc, sl, ro, M, a, e, hb1, hn, hM, ha⟩ := hv.at hlt
    obtain ⟨h1, -, -⟩ := hC.row _ (List.getElem_mem hlt)
    obtain ⟨z, hz⟩ := h1.i6
    have hid : idOf C[i] = z 0 := by unfold idOf; rw [hz]
    rw [hz] at hM
    have hadd : binV .add (AV.int .i64 (.ofNat i)) (AV.int .i64 (.ofNat 1)) = some (AV.int .i64 (.ofNat (i + 1))) := add_n (by omega)
    refine Vr (k := WO.r (.ia e hn) (Vr (k := WP.cond rfl (fun he => ?_) (fun he => ?_))))
    · refine Vr (k := ?_)
      have he : z 0 = id := by simpa [negB] using he
      exact ⟨by rw [findO_at hlt hno (hid.trans he)]; rfl, rfl⟩
    · refine Vr (k := ?_)
      have he : z 0 ≠ id := by simpa [negB] using he
      refine ⟨C.length - (i + 1), by omega, rfl, i + 1, rfl, hlt, rfl, fun j hj hji => ?_, sbs⟩
      rcases (by omega : j < i ∨ j = i) with h | rfl
      · exact hno j hj h
      · rw [hid]; exact he
  · have hie : i = C.length := by have := of_decide_eq_false hlt0; simp at this; omega
    subst hie
    refine WP.exit (Vr (k := ?_))
    exact ⟨by rw [findO_no fun j hj => hno j hj hj]; rfl, rfl⟩
theorem clamp618 (hR : BaseR12 P K F T) {n : Int} : Tri P K (F 618) [iv n] s (fun w s' => isI w ∧ s' = s) := by
  refine hR.f618.tri ?_
  unfold a618
  refine Vr (k := WO.r (.mmx rfl rfl) (WO.r (.mmx rfl rfl) (Vr (k := ?_))))
  exact ⟨⟨_, rfl⟩, rfl⟩
end
end Go.Ev
set_option maxHeartbeats 8000000
namespace Go.Ev
section
variable {P : Program} {K : Orc} {rd : Option Nat} {nt : Nat} {l : Sl} {ds : List ADef} {s : SH} {Q Qn Qr : Po} {Qe : Nat → Po} {F : Nat → FuncId} {T : Nat → TypeId}
theorem eqN (a : Nat) : eqBy 20 .pi (AV.int .i64 (.ofNat a)) (AV.int .i64 (.ofNat a)) = some true := by rw [eqB_i, decide_eq_true rfl]
theorem even614 (hR : BaseR12 P K F T) {v : Nat → AV} {n : Nat → Int} {py : Bool} {c : SC} {B N : Nat} (hv : SrcS s v c) (hc : ScT B N c) : Tri P K (F 614) [.agg (stRow v n py)] s (fun w s' => w = .bool true ∧ ∃ m, s' = m ++ s) := by
  refine hR.f614.tri ?_
  unfold a614
  have h0 : lenOf (v 0) = some N := by rw [hv.pl.lenOf, hc.pl.1]
  have h2 : lenOf (v 2) = some N := by rw [hv.lb.len, hc.lb.2]
  have h3 : lenOf (v 3) = some N := by rw [hv.hd.len, hc.hd.2]
  have h4 : lenOf (v 4) = some N := by rw [hv.gr.len, hc.gr.2]
  have h5 : lenOf (v 5) = some N := by rw [hv.ex.len, hc.ex.2]
  have he := eqN N
  refine Vr (k := fun b1 => Vr (k := ?_))
  exact ⟨rfl, [_], rfl⟩
theorem onField615 (hR : BaseR12 P K F T) {v : Nat → AV} {n : Nat → Int} {py : Bool} {C : Cn} {B : Nat} (hv : SrcN s 13 4 (v 1) C) (hC : CnT B sOb rEf C) (hB : B ≤ 900000000) {id : Int} : Tri P K (F 615) [.agg (stRow v n py), iv id] s (fun w s' => (∃ q, w = .bool q ∧ (q = true → ∃ i, findO C id = some i)) ∧ ∃ m, s' = m ++ s) := by
  refine hR.f615.tri ?_
  unfold a615
  refine Vr (k := fun b2 => Vr (k := WO.w (WS.cl (find581 hR (hv.mono fun p hp => by simp [hp]) hC hB) ?_)))
  rintro _ _ ⟨rfl, m, rfl⟩
  cases hf : findO C id with
  | none =>
    refine Vr (k := ?_)
    exact ⟨⟨false, rfl, fun h => nomatch h⟩, m ++ [_], by simp; rfl⟩
  | some i =>
    obtain ⟨hi, -⟩ := List.findIdx?_eq_some_iff_getElem.1 hf
    obtain ⟨b, r, n0, cc, sl, ro, M, a, e, hb1, hn, hM, ha⟩ := hv.at hi
    obtain ⟨h1, -, -⟩ := hC.row _ (List.getElem_mem hi)
    obtain ⟨z, zb, hz⟩ := h1.ob13
    rw [hz] at hM
    have k1 : Has b (.r ro M 14) (m ++ ((b2, HO.r false [stRow v n py] 25) :: s)) := .app (.there hb1)
    refine Vr (k := WO.r (.ia e hn) (Vr (k := ?_)))
    exact ⟨⟨_, rfl, fun _ => ⟨i, rfl⟩⟩, m ++ [_], by simp; rfl⟩
theorem without620 (hR : BaseR12 P K F T) {v : AV} {L : List (List AV)} {id : Int} (hL : Src s 1 v L) (hB : L.length ≤ 900000000) (hT : ∀ r ∈ L, OkR [] [.i] r) : Tri P K (F 620) [v, iv id] s (fun w s' => ∃ L' o m, GrE 1 w L' o ∧ L'.length ≤ L.length ∧ (∀ r ∈ L', OkR [] [.i] r) ∧ s'.Perm (m ++ (o ++ s))) := by
  refine hR.f620.tri ?_
  unfold a620
  have hl := hL.lenOf
  refine Vr (k := ?_)
  refine WP.loop (fun k l ds s' => ds = [] ∧ ∃ i w L' o m, k = L.length - i ∧ i ≤ L.length ∧ GrE 1 w L' o ∧ L'.length ≤ i ∧ (∀ r ∈ L', OkR [] [.i] r) ∧ s'.Perm (m ++ (o ++ s)) ∧ ∀ j x, lk [(0, v), (1, iv id), (5, w), (6, .int .i64 (.ofNat i))] j = some x → lk l j = some x) ?_ (n := L.length - 0) ⟨rfl, 0, _, [], [], [], rfl, Nat.zero_le _, .nil, Nat.le_refl _, (fun r h => by cases h), .refl _, sbs⟩
  rintro k l ds s' ⟨rfl, i, w, L', o, m, rfl, hi, hG, hLi, hT', hp, hlk⟩
  refine WP.pre hp (WP.weak hlk (fun _ _ h => h) ?_)
  refine Vr (k := WP.cond rfl (fun hlt0 => ?_) (fun hlt0 => ?_))
  · have hlt : i < L.length := Int.ofNat_lt.1 (of_decide_eq_true hlt0)
    obtain ⟨b, r, n0, cc, sl, ro, M, e, hb1, hn, hM⟩ := hL.at hlt
    obtain ⟨a, ha⟩ := (hT _ (List.getElem_mem hlt)).n1
    have hM : M[r + i]? = some [iv a] := hM.trans (by rw [List.getElem?_eq_getElem hlt, ha])
    have k1 : Has b (.r ro M 1) (m ++ (o ++ s)) := .app (.app hb1)
    have hadd : binV .add (AV.int .i64 (.ofNat i)) (AV.int .i64 (.ofNat 1)) = some (AV.int .i64 (.ofNat (i + 1))) := add_n (by omega)
    refine Vr (k := WO.r (.ia e hn) (Vr (k := WP.cond rfl (fun he => ?_) (fun he => ?_))))
    · refine Vr (k := WO.r (.ia e hn) (Vr (k := WO.a (.bslice (bsrows1 rfl rfl) rfl) fun b24 => ?_)))
      refine WO.w (WS.pre (s' := ((b24, HO.r false [[iv a]] 1) :: m) ++ (o ++ s)) pm2 (WS.append_gre (N := [[iv a]]) rfl hG rfl (Src.all .here) (by decide) (by simp; omega) (by decide) fun w2 o2 j2 hG2 => ?_))
      refine Vr (k := ?_)
      refine ⟨L.length - (i + 1), by omega, rfl, i + 1, w2, _, o2, (b24, HO.r false [[iv a]] 1) :: (m ++ j2), rfl, hlt, hG2, by simp; omega, fun r hr => ?_, pm2, sbs⟩
      rcases List.mem_append.1 hr with h | h
      · exact hT' r h
      · rw [List.mem_singleton.1 h]; exact okr
    · refine Vr (k := ?_)
      exact ⟨L.length - (i + 1), by omega, rfl, i + 1, w, L', o, m, rfl, hlt, hG, by omega, hT', .refl _, sbs⟩
  · refine WP.exit (Vr (k := ?_))
    exact ⟨L', o, m, hG, by omega, hT', .refl _⟩
end
end Go.Ev
set_option maxHeartbeats 8000000
namespace Go.Ev
section
variable {P : Program} {K : Orc} {rd : Option Nat} {nt : Nat} {l : Sl} {ds : List ADef} {s : SH} {Q Qn Qr : Po} {Qe : Nat → Po} {F : Nat → FuncId} {T : Nat → TypeId}
theorem pigeon {α : Type} {f : Nat → α} (hf : ∀ i j, f i = f j → i = j) : ∀ {n : Nat} {L : List α}, L.length = n → (∀ j, j < n → f j ∈ L) → ∀ r ∈ L, ∃ j, j < n ∧ r = f j := by
  intro n
  induction n with
  | zero =>
    intro L hL _ r hr
    rw [List.length_eq_zero_iff.1 hL] at hr
    cases hr
  | succ n ih =>
    intro L hL h r hr
    obtain ⟨x, y, rfl⟩ := List.append_of_mem (h n (Nat.lt_succ_self n))
    have hl : (x ++ y).length = n := by simp at hL ⊢; omega
    have hm : ∀ j, j < n → f j ∈ x ++ y := fun j hj => by
      have := h j (by omega)
      rcases List.mem_append.1 this with h1 | h1
      · exact List.mem_append_left _ h1
      · rcases List.mem_cons.1 h1 with h1 | h1
        · have := hf j n h1; omega
        · exact List.mem_append_right _ h1
    rcases List.mem_append.1 hr with h1 | h1
    · obtain ⟨j, hj, e⟩ := ih hl hm r (List.mem_append_left _ h1)
      exact ⟨j, by omega, e⟩
    · rcases List.mem_cons.1 h1 with rfl | h1
      · exact ⟨n, Nat.lt_succ_self n, rfl⟩
      · obtain ⟨j, hj, e⟩ := ih hl hm r (List.mem_append_right _ h1)
        exact ⟨j, by omega, e⟩
theorem perm617 (hR : BaseR12 P K F T) {v : AV} {L : List (List AV)} {n : Nat} (hL : Src s 1 v L) (hB : L.length ≤ 900000000) (hT : ∀ r ∈ L, OkR [] [.i] r) : Tri P K (F 617) [v, iv (.ofNat n)] s (fun w s' => (∃ q, w = .bool q ∧ (q = true → L.length = n ∧ ∀ r ∈ L, ∃ j, j < n ∧ r = [iv (.ofNat j)])) ∧ s' = s) := by
  refine hR.f617.tri ?_
  unfold a617
  have hl := hL.lenOf
  refine Vr (k := WP.cond rfl (fun he => ?_) (fun he => ?_))
  · refine Vr (k := ?_)
    exact ⟨⟨false, rfl, fun h => nomatch h⟩, rfl⟩
  have he : L.length = n := by simp [negB] at he; omega
  subst he
  refine Vr (k := ?_)
  refine WP.loop (fun k l ds s' => ds = [] ∧ ∃ i, k = L.length - i ∧ i ≤ L.length ∧ s = s' ∧ (∀ j, j < i → [iv (.ofNat j)] ∈ L) ∧ ∀ j x, lk [(0, v), (1, iv (.ofNat L.length)), (5, .int .i64 (.ofNat i))] j = some x → lk l j = some x) ?_ (n := L.length - 0) ⟨rfl, 0, rfl, Nat.zero_le _, rfl, fun j h => absurd h (Nat.not_lt_zero _), sbs⟩
  rintro k l ds _ ⟨rfl, i, rfl, hi, rfl, hno, hlk⟩
  refine WP.weak hlk (fun _ _ h => h) ?_
  have hadd : binV .add (AV.int .i64 (.ofNat i)) (AV.int .i64 (.ofNat 1)) = some (AV.int .i64 (.ofNat (i + 1))) := add_n (by omega)
  refine Vr (k := WP.cond rfl (fun hlt0 => ?_) (fun hlt0 => ?_))
  · have hlt : i < L.length := Int.ofNat_lt.1 (of_decide_eq_true hlt0)
    refine Vr (k := ?_)
    refine WP.loop (fun k l ds s' => ds = [] ∧ ∃ q sm, k = L.length - q ∧ q ≤ L.length ∧ s = s' ∧ (sm = true → [iv (.ofNat i)] ∈ L) ∧ ∀ j x, lk [(0, v), (1, iv (.ofNat L.length)), (5, .int .i64 (.ofNat i)), (6, .bool sm), (7, .int .i64 (.ofNat q))] j = some x → lk l j = some x) ?_ (n := L.length - 0) ⟨rfl, 0, false, rfl, Nat.zero_le _, rfl, (fun h => nomatch h), sbs⟩
    rintro k l ds _ ⟨rfl, q, sm, rfl, hq, rfl, hsm, hlk⟩
    refine WP.weak hlk (fun _ _ h => h) ?_
    refine Vr (k := WP.cond rfl (fun hlt1 => ?_) (fun hlt1 => ?_))
    · have hlt2 : q < L.length := Int.ofNat_lt.1 (of_decide_eq_true hlt1)
      obtain ⟨b, r, n0, cc, sl, ro, M, e, hb1, hn, hM⟩ := hL.at hlt2
      obtain ⟨a, ha⟩ := (hT _ (List.getElem_mem hlt2)).n1
      have hmem : [iv a] ∈ L := ha ▸ List.getElem_mem hlt2
      have hM : M[r + q]? = some [iv a] := hM.trans (by rw [List.getElem?_eq_getElem hlt2, ha])
      have hadd2 : binV .add (AV.int .i64 (.ofNat q)) (AV.int .i64 (.ofNat 1)) = some (AV.int .i64 (.ofNat (q + 1))) := add_n (by omega)
      cases sm with
      | true =>
        refine Vr (k := ?_)
        exact ⟨L.length - (q + 1), by omega, rfl, q + 1, true, rfl, hlt2, rfl, hsm, sbs⟩
      | false =>
        refine Vr (k := WO.r (.ia e hn) (Vr (k := ?_)))
        refine ⟨L.length - (q + 1), by omega, rfl, q + 1, _, rfl, hlt2, rfl, fun h => ?_, sbs⟩
        have h : a = Int.ofNat i := by simpa [negB] using h
        rw [← h]; exact hmem
    · refine WP.exit (Vr (k := ?_))
      cases sm with
      | true =>
        refine Vr (k := ?_)
        refine ⟨L.length - (i + 1), by omega, rfl, i + 1, rfl, hlt, rfl, fun j hj => ?_, sbs⟩
        rcases (by omega : j < i ∨ j = i) with h | rfl
        · exact hno j h
        · exact hsm rfl
      | false =>
        refine Vr (k := ?_)
        exact ⟨⟨false, rfl, fun h => nomatch h⟩, rfl⟩
  · have hie : i = L.length := by have := of_decide_eq_false hlt0; simp at this; omega
    subst hie
    refine WP.exit (Vr (k := ?_))
    exact ⟨⟨true, rfl, fun _ => ⟨rfl, pigeon (f := fun j => [iv (.ofNat j)]) (fun i j h => by simp at h; omega) rfl hno⟩⟩, rfl⟩
end
end Go.Ev
set_option maxHeartbeats 8000000
namespace Go.Ev
section
variable {P : Program} {K : Orc} {rd : Option Nat} {nt : Nat} {l : Sl} {ds : List ADef} {s : SH} {Q Qn Qr : Po} {Qe : Nat → Po} {F : Nat → FuncId} {T : Nat → TypeId}
def isZ (B : Nat) (s : SH) (w : AV) (s' : SH) : Prop := ∃ L o m, GrE 1 w L o ∧ L.length ≤ B ∧ (∀ r ∈ L, OkR [] [.i] r) ∧ s'.Perm (m ++ (o ++ s))
theorem pmI {p : Nat × HO} {o s : SH} : (o ++ (p :: s)).Perm ([p] ++ (o ++ s)) := pm2
theorem pmI2 {p : Nat × HO} {o m s : SH} : (o ++ (m ++ (p :: s))).Perm ((m ++ [p]) ++ (o ++ s)) := pm2
theorem pmI3 {p : Nat × HO} {m s : SH} : (m ++ (p :: s)).Perm (p :: (m ++ (([] : SH) ++ s))) := pm2
theorem pmI4 {p q : Nat × HO} {m y : SH} : (p :: q :: (m ++ y)).Perm ((p :: q :: m) ++ y) := .refl _
theorem pmI5 {p q : Nat × HO} {x m j s : SH} : (x ++ ((p :: q :: m) ++ (j ++ s))).Perm (q :: ((p :: (m ++ j)) ++ (x ++ s))) := pm2
theorem CnT.li {B : Nat} {sc inn : List CT} {C : Cn} (h : CnT B sc inn C) {i : Nat} (hi : i < C.length) : OkR [] sc C[i].1 ∧ C[i].2.length ≤ B ∧ ∀ q ∈ C[i].2, OkR [] inn q := h.row _ (List.getElem_mem hi)
theorem zone621 (hR : BaseR12 P K F T) {v : Nat → AV} {n : Nat → Int} {py : Bool} {c : SC} {B N p : Nat} {z : Int} (hv : SrcS s v c) (hc : ScT B N c) (hB : B ≤ 900000000) (hp : p < N) : Tri P K (F 621) [.agg (stRow v n py), iv z, iv (.ofNat p)] s (isZ B s) := by
  refine hR.f621.tri ?_
  unfold a621
  have hlo := hv.ob.len
  have hbo := hc.ob.len
  have h0 : lenOf (v 0) = some N := by rw [hv.pl.lenOf, hc.pl.1]
  refine Vr (k := fun b3 => Vr (k := WP.cond rfl (fun _ => ?_) (fun _ => ?_)))
  · refine Vr (k := WO.w (WS.cl (ints555 hR (hv.fi.mono fun p hp => by simp [hp]) (by have := hc.fi.1; omega)) ?_))
    rintro w _ ⟨o, hG, rfl⟩
    refine Vr (k := ?_)
    exact ⟨c.fi, o, [_], hG, hc.fi.1, hc.fi.2, pmI⟩
  have hs1 : ∀ q, q ∈ s → q ∈ (b3, HO.r false [stRow v n py] 25) :: s := fun q hq => by simp [hq]
  have e1 : binV .lss (iv (.ofNat p)) (iv 0) = some (.bool false) := lss_f (a := p) (b := 0) (by omega)
  have e2 : binV .geq (iv (.ofNat p)) (iv (.ofNat N)) = some (.bool false) := by rw [geq_i, decide_eq_true (show Int.ofNat p < Int.ofNat N from Int.ofNat_lt.2 hp)]; rfl
  refine Vr (k := WO.w (WS.cl (even614 hR (hv.mono hs1) hc) ?_))
  rintro _ _ ⟨rfl, m, rfl⟩
  refine Vr (k := ?_)
  refine WP.cond rfl (fun _ => ?_) (fun _ => ?_)
  · obtain ⟨b, r, n0, cc, sl, ro, M, a, e, hb1, hn, hM, ha⟩ := hv.lb.at (i := p) (by rw [hc.lb.2]; exact hp)
    obtain ⟨k1, k2, k3⟩ := hc.lb.1.li (i := p) (by rw [hc.lb.2]; exact hp)
    rw [k1.nil_inv] at hM
    have hb2 : Has b (.r ro M 1) (m ++ ((b3, HO.r false [stRow v n py] 25) :: s)) := .app (.there hb1)
    refine Vr (k := WO.r (.ia e hn) (Vr (k := WO.w (WS.cl (ints555 hR (ha.mono fun q hq => by simp [hq]) (by omega)) ?_))))
    rintro w _ ⟨o, hG, rfl⟩
    refine Vr (k := ?_)
    exact ⟨_, o, m ++ [_], hG, k2, k3, pmI2⟩
  refine Vr (k := ?_)
  refine WP.cond rfl (fun _ => ?_) (fun _ => ?_)
  · obtain ⟨b, r, n0, cc, sl, ro, M, a, e, hb1, hn, hM, ha⟩ := hv.hd.at (i := p) (by rw [hc.hd.2]; exact hp)
    obtain ⟨k1, k2, k3⟩ := hc.hd.1.li (i := p) (by rw [hc.hd.2]; exact hp)
    rw [k1.nil_inv] at hM
    have hb2 : Has b (.r ro M 1) (m ++ ((b3, HO.r false [stRow v n py] 25) :: s)) := .app (.there hb1)
    refine Vr (k := WO.r (.ia e hn) (Vr (k := WO.w (WS.cl (ints555 hR (ha.mono fun q hq => by simp [hq]) (by omega)) ?_))))
    rintro w _ ⟨o, hG, rfl⟩
    refine Vr (k := ?_)
    exact ⟨_, o, m ++ [_], hG, k2, k3, pmI2⟩
  refine Vr (k := ?_)
  refine WP.cond rfl (fun _ => ?_) (fun _ => ?_)
  · obtain ⟨b, r, n0, cc, sl, ro, M, a, e, hb1, hn, hM, ha⟩ := hv.gr.at (i := p) (by rw [hc.gr.2]; exact hp)
    obtain ⟨k1, k2, k3⟩ := hc.gr.1.li (i := p) (by rw [hc.gr.2]; exact hp)
    rw [k1.nil_inv] at hM
    have hb2 : Has b (.r ro M 1) (m ++ ((b3, HO.r false [stRow v n py] 25) :: s)) := .app (.there hb1)
    refine Vr (k := WO.r (.ia e hn) (Vr (k := WO.w (WS.cl (ints555 hR (ha.mono fun q hq => by simp [hq]) (by omega)) ?_))))
    rintro w _ ⟨o, hG, rfl⟩
    refine Vr (k := ?_)
    exact ⟨_, o, m ++ [_], hG, k2, k3, pmI2⟩
  refine Vr (k := ?_)
  refine WP.cond rfl (fun _ => ?_) (fun _ => ?_)
  · obtain ⟨b, r, n0, cc, sl, ro, M, a, e, hb1, hn, hM, ha⟩ := hv.ex.at (i := p) (by rw [hc.ex.2]; exact hp)
    obtain ⟨k1, k2, k3⟩ := hc.ex.1.li (i := p) (by rw [hc.ex.2]; exact hp)
    rw [k1.nil_inv] at hM
    have hb2 : Has b (.r ro M 1) (m ++ ((b3, HO.r false [stRow v n py] 25) :: s)) := .app (.there hb1)
    refine Vr (k := WO.r (.ia e hn) (Vr (k := WO.w (WS.cl (ints555 hR (ha.mono fun q hq => by simp [hq]) (by omega)) ?_))))
    rintro w _ ⟨o, hG, rfl⟩
    refine Vr (k := ?_)
    exact ⟨_, o, m ++ [_], hG, k2, k3, pmI2⟩
  refine Vr (k := ?_)
  refine WP.loop (fun k l ds s' => ds = [] ∧ ∃ i w L o m, k = c.ob.length - i ∧ i ≤ c.ob.length ∧ GrE 1 w L o ∧ L.length ≤ i ∧ (∀ r ∈ L, OkR [] [.i] r) ∧ s'.Perm ((b3, HO.r false [stRow v n py] 25) :: (m ++ (o ++ s))) ∧ ∀ j x, lk [(1, iv z), (3, .ptr (some ⟨b3, 0, 0⟩)), (7, w), (8, .int .i64 (.ofNat i))] j = some x → lk l j = some x) ?_ (n := c.ob.length - 0) ⟨rfl, 0, _, [], [], m, rfl, Nat.zero_le _, .nil, Nat.le_refl _, (fun r h => by cases h), pmI3, sbs⟩
  rintro k l ds s' ⟨rfl, i, w, L, o, m, rfl, hi, hG, hLi, hT', hp', hlk⟩
  refine WP.pre hp' (WP.weak hlk (fun _ _ h => h) ?_)
  have out : isZ B s w ((b3, HO.r false [stRow v n py] 25) :: (m ++ (o ++ s))) := ⟨L, o, _ :: m, hG, by omega, hT', .refl _⟩
  have hadd : binV .add (AV.int .i64 (.ofNat i)) (AV.int .i64 (.ofNat 1)) = some (AV.int .i64 (.ofNat (i + 1))) := add_n (by omega)
  by_cases hlt : i < c.ob.length
  rotate_left
  · have e3 := lss_f hlt
    refine Vr (k := ?_)
    exact out
  have e3 := lss_t hlt
  obtain ⟨b, r, n0, cc, sl, ro, M, a, e, hb1, hn, hM, ha⟩ := hv.ob.at hlt
  obtain ⟨k1, -, -⟩ := hc.ob.li hlt
  obtain ⟨q, qb, hz⟩ := k1.ob13
  rw [hz] at hM
  have hb2 : Has b (.r ro M 14) ((b3, HO.r false [stRow v n py] 25) :: (m ++ (o ++ s))) := .there (.app (.app hb1))
  refine Vr (k := WP.cond rfl (fun _ => ?_) (fun _ => ?_))
  rotate_left
  · refine WP.exit (Vr (k := ?_))
    exact out
  refine Vr (k := WO.r (.ia e hn) (Vr (k := WP.cond rfl (fun _ => ?_) (fun _ => ?_))))
  rotate_left
  · refine Vr (k := ?_)
    exact ⟨c.ob.length - (i + 1), by omega, rfl, i + 1, w, L, o, m, rfl, hlt, hG, by omega, hT', .refl _, sbs⟩
  refine Vr (k := WO.r (.ia e hn) (Vr (k := WO.a (.bslice (bsrows1 rfl rfl) rfl) fun b86 => ?_)))
  refine WO.w (WS.pre pmI4 (WS.append_gre (N := [[iv (q 0)]]) rfl hG rfl (Src.all .here) (by decide) (by simp; omega) (by decide) fun w2 o2 j2 hG2 => ?_))
  refine Vr (k := ?_)
  refine ⟨c.ob.length - (i + 1), by omega, rfl, i + 1, w2, _, o2, _, rfl, hlt, hG2, by simp; omega, fun r hr => ?_, pmI5, sbs⟩
  rcases List.mem_append.1 hr with h | h
  · exact hT' r h
  · rw [List.mem_singleton.1 h]; exact okr
end
end Go.Ev
set_option maxHeartbeats 8000000
namespace Go.Ev
section
variable {P : Program} {K : Orc} {rd : Option Nat} {nt : Nat} {l : Sl} {ds : List ADef} {s : SH} {Q Qn Qr : Po} {Qe : Nat → Po} {F : Nat → FuncId} {T : Nat → TypeId}
theorem OwnR.open {m : Nat} {L : List (List AV)} {C : Cn} {o : SH} (h : OwnR m L C o) : ∀ {i : Nat} (hi : i < C.length), ∃ a o1 o2, L[i]? = some (C[i].1 ++ [a]) ∧ GrS m a C[i].2 o1 ∧ o.Perm (o1 ++ o2) ∧ ∀ r' a' I' o1', GrS m a' I' o1' → ∃ o', o'.Perm (o1' ++ o2) ∧ OwnR m (L.set i (r' ++ [a'])) (C.set i (r', I')) o' := by
  induction h with
  | nil => intro i hi; cases hi
  | @snoc r a I L C o o1 hs h ih =>
    intro i hi
    have hL := hs.len
    rw [List.length_append, List.length_singleton] at hi
    by_cases hlt : i < C.length
    · obtain ⟨a0, p1, p2, h1, h2, h3, h4⟩ := ih hlt
      refine ⟨a0, p1, o1 ++ p2, ?_, ?_, ?_, fun r' a' I' o1' hG => ?_⟩
      · rw [List.getElem?_append_left (by omega), h1, List.getElem_append_left hlt]
      · rw [List.getElem_append_left hlt]; exact h2
      · exact (h3.append_left o1).trans pm2
      · obtain ⟨o', k1, k2⟩ := h4 r' a' I' o1' hG
        refine ⟨o1 ++ o', (k1.append_left o1).trans pm2, ?_⟩
        rw [List.set_append_left _ _ (by omega), List.set_append_left _ _ hlt]
        exact .snoc k2 h
    · have hie : i = C.length := by omega
      subst hie
      refine ⟨a, o1, o, ?_, ?_, .refl _, fun r' a' I' o1' hG => ⟨o1' ++ o, .refl _, ?_⟩⟩
      · rw [List.getElem?_append_right (by omega), hL]; simp
      · simpa using h
      · rw [List.set_append_right _ _ (by omega), List.set_append_right _ _ (Nat.le_refl _), hL]
        simp only [Nat.sub_self, List.set_cons_zero]
        exact .snoc hs hG
theorem OwnN.open {k m : Nat} {v : AV} {C : Cn} {o : SH} (h : OwnN k m v C o) {i : Nat} (hi : i < C.length) : ∃ b L a o1 o2, v = .slice (some ⟨b, 0, 0⟩) L.length L.length true (k + 1) ∧ i < L.length ∧ L[i]? = some (C[i].1 ++ [a]) ∧ GrS m a C[i].2 o1 ∧ o.Perm ((b, .r false L (k + 1)) :: (o1 ++ o2)) ∧
    ∀ r' a' I' o1', GrS m a' I' o1' → ∃ o', o'.Perm ((b, .r false (L.set i (r' ++ [a'])) (k + 1)) :: (o1' ++ o2)) ∧ OwnN k m v (C.set i (r', I')) o' := by
  obtain ⟨L, ob, oi, h1, h2, rfl⟩ := h
  have hL := h2.len
  obtain ⟨a, o1, o2, h3, h4, h5, h6⟩ := h2.open hi
  cases h1 with
  | nil => simp at hL; omega
  | @rows b L hne =>
    refine ⟨b, L, a, o1, o2, rfl, by omega, h3, h4, h5.cons _, fun r' a' I' o1' hG => ?_⟩
    obtain ⟨o', k1, k2⟩ := h6 r' a' I' o1' hG
    have hg : GrE (k + 1) (.slice (some ⟨b, 0, 0⟩) L.length L.length true (k + 1)) (L.set i (r' ++ [a'])) [(b, .r false (L.set i (r' ++ [a'])) (k + 1))] := by
      have := GrE.rows (sz := k + 1) (b := b) (L := L.set i (r' ++ [a'])) (by intro h; have := congrArg List.length h; simp at this; exact hne this)
      rwa [List.length_set] at this
    exact ⟨_, k1.cons _, L.set i (r' ++ [a']), _, o', hg, k2, rfl⟩
theorem CnT.set {B : Nat} {sc inn : List CT} {C : Cn} (h : CnT B sc inn C) {i : Nat} {r : List AV} {I : List (List AV)} (hr : OkR [] sc r) (hI : I.length ≤ B) (hq : ∀ q ∈ I, OkR [] inn q) : CnT B sc inn (C.set i (r, I)) :=
  ⟨by rw [List.length_set]; exact h.len, fun p hp => by
    rcases List.mem_or_eq_of_mem_set hp with hp | rfl
    · exact h.row p hp
    · exact ⟨hr, hI, hq⟩⟩
theorem GrS.open {sz : Nat} {v : AV} {L : List (List AV)} {o : SH} (h : GrS sz v L o) {i : Nat} (hi : i < L.length) : ∃ b sl, v = .slice (some ⟨b, 0, 0⟩) L.length L.length sl sz ∧ o = [(b, .r false L sz)] ∧ ∀ r', GrS sz v (L.set i r') [(b, .r false (L.set i r') sz)] := by
  cases h with
  | nil => cases hi
  | @rows b sl L hne =>
    refine ⟨b, sl, rfl, rfl, fun r' => ?_⟩
    have := GrS.rows (sz := sz) (b := b) (sl := sl) (L := L.set i r') (by intro h; have := congrArg List.length h; simp at this; exact hne this)
    rwa [List.length_set] at this
theorem GrE.open {sz : Nat} {v : AV} {L : List (List AV)} {o : SH} (h : GrE sz v L o) {i : Nat} (hi : i < L.length) : ∃ b, v = .slice (some ⟨b, 0, 0⟩) L.length L.length true sz ∧ o = [(b, .r false L sz)] ∧ ∀ r', GrE sz v (L.set i r') [(b, .r false (L.set i r') sz)] := by
  cases h with
  | nil => cases hi
  | @rows b L hne =>
    refine ⟨b, rfl, rfl, fun r' => ?_⟩
    have := GrE.rows (sz := sz) (b := b) (L := L.set i r') (by intro h; have := congrArg List.length h; simp at this; exact hne this)
    rwa [List.length_set] at this
end
end Go.Ev
