/- A machine that is proved sound, and walks by it. Conditions: none. -/
import Derived.Test.YtehcpacbinbioaaGreatEvI
import Derived.Test.YtehcpacbinbioaaGreatEvM
set_option linter.all false
set_option maxHeartbeats 8000000
namespace Go.Ev
section
variable {P : Program} {K : Orc} {rd : Option Nat} {nt : Nat} {l : Sl} {ds : List ADef} {s : SH} {Q Qn Qr : Po} {Qe : Nat → Po} {F : Nat → FuncId} {T : Nat → TypeId}
theorem oneItem {w : AV} {r : List AV} {I : List (List AV)} {o : SH} (h : OwnN 6 2 w [(r, I)] o) : ∃ b a o1 m, w = .slice (some ⟨b, 0, 0⟩) 1 1 true 7 ∧ GrS 2 a I o1 ∧ o.Perm ((b, .r false [r ++ [a]] 7) :: (o1 ++ m)) := by
  obtain ⟨L, ob, oi, g1, g2, rfl⟩ := h
  have hL := g2.len
  obtain ⟨b, hv, rfl⟩ := g1.slc (i := 0) (by rw [hL]; exact Nat.zero_lt_one)
  obtain ⟨a, o1, o2, h1, h2, h3, -⟩ := g2.open (i := 0) Nat.zero_lt_one
  rw [hL] at hv
  have : L = [r ++ [a]] := by
    match L, hL, h1 with
    | [x], _, h1 => simpa using h1
  subst this
  exact ⟨b, a, o1, o2, hv, h2, h3.cons _⟩
theorem pm34 {a b c : Nat × HO} {m s s1 : SH} (h : s1.Perm (m ++ (a :: b :: c :: s))) : s1.Perm (c :: a :: (m ++ (b :: s))) := h.trans pm2
theorem pm35 {b : Nat × HO} {o : Nat → SH} {m t s2 : SH} (h : s2.Perm (m ++ own o (b :: t))) : s2.Perm (b :: (m ++ own o t)) := h.trans ((own_push.append_left m).trans List.perm_middle)
theorem pm36 {x b24 b2 : Nat × HO} {m2 o2 o1 mo m ow s2 : SH} (h : s2.Perm (m2 ++ (o2 ++ (b24 :: b2 :: (m ++ ow))))) (h2 : o2.Perm (x :: (o1 ++ mo))) : s2.Perm (b2 :: ((m2 ++ (x :: (mo ++ (b24 :: m)))) ++ (o1 ++ ow))) := perm_ct fun c w h0 ha hb hq => by
  have e1 := hq _ _ h
  have e2 := hq _ _ h2
  simp only [ha, hb] at e1 e2 ⊢
  omega
theorem pm37 {b b' : Nat × HO} {o : Nat → SH} {m t s2 : SH} (h : s2.Perm (m ++ own o (b' :: b :: t))) : s2.Perm (b :: (m ++ own o (b' :: t))) := pm35 (h.trans ((own_tperm (.swap _ _ _)).append_left m))
theorem StX.pop' {bs : Nat} {v : Nat → AV} {n : Nat → Int} {py : Bool} {c : SC} {t : SH} {x : Nat × HO} (h : StX bs v n py c (x :: t) s) : StX bs v n py c t s := h.pop
theorem findO_lt {C : Cn} {id : Int} {i : Nat} (h : findO C id = some i) : i < C.length := (List.findIdx?_eq_some_iff_getElem.1 h).1
theorem pm38 {x y : Nat × HO} {M o1 ow ob oi r : SH} (h : ow.Perm ((ob ++ oi) ++ r)) : (x :: y :: (M ++ (o1 ++ ow))).Perm (x :: y :: (M ++ ((ob ++ oi) ++ (o1 ++ r)))) := perm_ct fun c w h0 ha hb hq => by
  have e1 := hq _ _ h
  simp only [ha, hb] at e1 ⊢
  omega
theorem pm40 {x y z : Nat × HO} {m j o1 o2 oi r ow : SH} (h : ow.Perm ((o2 ++ (o1 ++ oi)) ++ r)) : (o2 ++ ((x :: y :: z :: m) ++ (j ++ (oi ++ (o1 ++ r))))).Perm (z :: ((x :: y :: (m ++ j)) ++ ow)) := perm_ct fun c w h0 ha hb hq => by
  have e1 := hq _ _ h
  simp only [ha, hb] at e1 ⊢
  omega
theorem pm41 {x y : Nat × HO} {M o1 ow ok r : SH} (h : ow.Perm (ok ++ r)) : (x :: y :: (M ++ (o1 ++ ow))).Perm ((x :: (M ++ o1)) ++ (ok ++ (y :: r))) := perm_ct fun c w h0 ha hb hq => by
  have e1 := hq _ _ h
  simp only [ha, hb] at e1 ⊢
  omega
theorem pm42 {y : Nat × HO} {m o r s : SH} (h : s.Perm (m ++ (o ++ (y :: r)))) : s.Perm (y :: (m ++ (o ++ r))) := h.trans pm2
theorem pm43 {x y z : Nat × HO} {M o1 t : SH} {o : Nat → SH} : (x :: y :: (M ++ (o1 ++ own o (z :: t)))).Perm (z :: x :: y :: (M ++ (o1 ++ own o t))) := perm_ct fun c w h0 ha hb hq => by
  have e1 := hq _ _ (own_push (o := o) (t := t) (x := z))
  simp only [ha, hb] at e1 ⊢
  omega
theorem apply552 (hR : BaseR12 P K F T) (t41 : Ty P (T 41) 25) (hChk : ChkOk P K (F 613)) {v : Nat → AV} {n : Nat → Int} {py : Bool} {c : SC} {B N : Nat} {e : Nat → Int} {lv tv : AV} {Ll Lt : List (List AV)} (hv : SrcS s v c) (hc : ScT B N c) (hB : B ≤ 700000000) (hB1 : 1 ≤ B) (hB2 : Lt.length ≤ B) (hl : Src s 1 lv Ll) (ht : Src s 2 tv Lt) (hl1 : Ll.length ≤ 1000) (ht1 : Lt.length ≤ 1000) (hlT : ∀ r ∈ Ll, OkR [] [.i] r) (htT : ∀ r ∈ Lt, OkR [] rTg r) :
    Tri P K (F 552) [.agg (stRow v n py), .agg (evRow e lv tv)] s (fun w s' => ∃ v' n' py' c' k, w = .tuple [.agg (stRow v' n' py'), iv k] ∧ SrcS s' v' c' ∧ ScT (B + 2) N c' ∧ Up s s') := by
  refine hR.f552.tri ?_
  unfold a552
  have p1 := hl.one
  have p2 := ht.one
  refine Vr (k := fun b2 => Vr (k := fun b3 => Vr (k := fun b4 => Vr (k := ?_))))
  have hU0 : Up s ((b4, HO.r false [zSt] 25) :: (b3, HO.r false [evRow e lv tv] 13) :: (b2, HO.r false [stRow v n py] 25) :: s) := Up.rfl.cons.cons.cons
  refine WO.w (WS.cl (may576 hR hChk (hv.mono hU0.mem) hc (by omega) (hl.mono hU0.mem) (ht.mono hU0.mem) hl1 ht1 hlT htT) ?_)
  rintro _ s1 ⟨⟨k1, rfl, hMay⟩, m1, hU1⟩
  refine WO.pre (pm34 hU1) ?_
  generalize hY : m1 ++ ((b3, HO.r false [evRow e lv tv] 13) :: s) = Y
  have hUY : Up s Y := by rw [← hY]; exact Up.rfl.cons.app
  have gY : Has b3 (.r false [evRow e lv tv] 13) Y := by rw [← hY]; exact .app .here
  have hUY2 : Up s ((b2, HO.r false [stRow v n py] 25) :: (b4, HO.r false [zSt] 25) :: Y) := hUY.cons.cons
  have hcp := copy504 hR t41 (n := n) (py := py) (hv.mono hUY2.mem) hc (by omega)
  refine Vr (k := WP.cond rfl (fun h => ?_) (fun h => ?_))
  · refine Vr (k := WO.w (WS.cl hcp ?_))
    rintro _ s2 ⟨v', o, m, rfl, hO, hp⟩
    refine WO.pre (pm37 hp) (Vr (k := ?_))
    exact WP.ret (Fin.mk (.ce t41) ⟨v', n, py, c, k1, rfl, hO.src.mono fun p hp => List.mem_cons_of_mem _ (List.mem_append_right _ hp), hc.up (Nat.le_add_right _ _), (hUY.cons.trans ⟨_, pm33⟩).app.cons⟩)
  · have hk0 : k1 = 0 := by simpa [negB] using h
    have hMay := hMay hk0
    refine Vr (k := WO.w (WS.cl hcp ?_))
    rintro _ s2 ⟨v', o, m, rfl, hO, hp⟩
    refine WO.pre (pm35 hp) ?_
    refine Vr (k := ?_)
    refine WO.pre (s' := (b2, .r false [stRow v' n py] 25) :: (m ++ own o ((b4, .r false [zSt] 25) :: Y))) (.refl _) ?_
    have g3 : Has b3 (.r false [evRow e lv tv] 13) (m ++ own o ((b4, .r false [zSt] 25) :: Y)) := Has.of_mem (List.mem_append_right _ (own_t (List.mem_cons_of_mem _ gY.mem)))
    refine Vr (k := WO.a (.bslice (bsrows1 rfl rfl) rfl) fun b24 => ?_)
    have hs24 : ∀ p, p ∈ s → p ∈ (b24, HO.r false [[iv (e 5), iv (e 6), iv (e 7), iv (e 8), iv (e 9), iv (e 10), tv]] 7) :: (b2, HO.r false [stRow v' n py] 25) :: (m ++ own o ((b4, HO.r false [zSt] 25) :: Y)) := fun p hp => List.mem_cons_of_mem _ (List.mem_cons_of_mem _ (List.mem_append_right _ (own_t (List.mem_cons_of_mem _ (hUY.mem _ hp)))))
    refine WO.w (WS.cl (items556 hR (C := [([iv (e 5), iv (e 6), iv (e 7), iv (e 8), iv (e 9), iv (e 10)], Lt)]) (inn := rTg) (B := B) ⟨_, Src.all .here, .cons (r := [iv (e 5), iv (e 6), iv (e 7), iv (e 8), iv (e 9), iv (e 10)]) (ht.mono hs24) .nil⟩ ⟨hB1, fun p hp => ?_⟩ (by omega)) ?_)
    · rw [List.mem_singleton.1 hp]; exact ⟨okr, hB2, htT⟩
    rintro w2 s3 ⟨o2, m2, hw2, hp2⟩
    obtain ⟨bi, a, o1, mo, rfl, ha, ho⟩ := oneItem hw2
    refine WO.pre (pm36 hp2 ho) ?_
    generalize hM : m2 ++ ((bi, HO.r false [[iv (e 5), iv (e 6), iv (e 7), iv (e 8), iv (e 9), iv (e 10)] ++ [a]] 7) :: (mo ++ ((b24, HO.r false [[iv (e 5), iv (e 6), iv (e 7), iv (e 8), iv (e 9), iv (e 10), tv]] 7) :: m))) = M
    have gM : Has bi (.r false [[iv (e 5), iv (e 6), iv (e 7), iv (e 8), iv (e 9), iv (e 10), a]] 7) M := by rw [← hM]; exact .app .here
    have pa := ha.one
    obtain ⟨R, hRd⟩ : ∃ R, M ++ (o1 ++ own o ((b4, HO.r false [zSt] 25) :: Y)) = R := ⟨_, rfl⟩
    have gR : Has bi (.r false [[iv (e 5), iv (e 6), iv (e 7), iv (e 8), iv (e 9), iv (e 10), a]] 7) R := by rw [← hRd]; exact .of_mem (List.mem_append_left _ gM.mem)
    have g3 : Has b3 (.r false [evRow e lv tv] 13) R := by rw [← hRd]; exact .of_mem (List.mem_append_right _ (List.mem_append_right _ (own_t (List.mem_cons_of_mem _ gY.mem))))
    rw [hRd]
    refine Vr (k := fun b7 => Vr (k := ?_))
    have hX : ∀ r7, StX b2 v' n py c ((b7, r7) :: (b4, .r false [zSt] 25) :: Y) ((b7, r7) :: (b2, .r false [stRow v' n py] 25) :: R) := fun r7 => .push ⟨o, M ++ o1, hO, by rw [← hRd, List.append_assoc]⟩
    have fin : ∀ (n' : Nat → Int) (py' : Bool) r7 {s' : SH}, s'.Perm ((b7, r7) :: (b2, .r false [stRow v' n' py'] 25) :: R) → Rdy b2 b4 (B + 2) N s s' := fun n' py' r7 s' hp => StX.rdy (StX.perm (StX.pop (x := (b7, r7)) (.push ⟨o, M ++ o1, hO, by rw [← hRd, List.append_assoc]⟩)) hp) (hc.up (Nat.le_add_right _ _)) hUY
    refine WO.w (WS.cl (object577 hR) ?_)
    rintro _ _ ⟨rfl, rfl⟩
    repeat (first | refine WO.r (.mv rfl) ?_ | refine WO.r (.extract rfl rfl) ?_ | refine WO.nil ?_)
    refine WP.mid (fun l s' => Rdy b2 b4 (B + 2) N s s' ∧ ∀ j x, lk [(2, .ptr (some ⟨b2, 0, 0⟩)), (4, .ptr (some ⟨b4, 0, 0⟩))] j = some x → lk l j = some x) (WP.block ?_) ?_
    rotate_left
    · rintro l s9 ⟨⟨v9, n9, py9, c9, X, hp9, hb9, hS9, hc9, hU9⟩, hlk⟩
      refine WP.pre hp9 (WP.weak hlk (fun _ _ h => h) (Vr (k := ?_)))
      exact WP.ret (Fin.mk (.ce t41) ⟨v9, n9, py9, c9, 0, rfl, hS9.mono fun p hp => List.mem_cons_of_mem _ hp, hc9, hU9.cons⟩)
    have hB7 : B ≤ 800000000 := by omega
    by_cases hfl : isFld (e 0) = true
    · have hob : isObj (e 0) = true := by simp [isObj, hfl]
      obtain ⟨i, hf⟩ := hMay.obj hob
      rw [hfl]
      refine Vr (k := WO.w (WS.cl (thing578 hR (hX _) hc hB7 hf p1 p2) ?_))
      rintro _ s9 ⟨v9, n9, c9, hX9, hc9⟩
      refine Vr (k := ?_)
      exact ⟨rfl, hX9.pop'.rdy hc9 hUY, sbs⟩
    have hfl := Bool.eq_false_iff.2 hfl
    rw [hfl]
    by_cases hnm : isNam (e 0) = true
    · obtain ⟨A, hA, hAN⟩ := hMay.nam hnm
      refine Vr (k := WO.w (WS.cl (named579 hR) ?_))
      rintro _ _ ⟨rfl, rfl⟩
      rw [hnm]
      refine Vr (k := WO.w (WS.cl (person580 hR (Ll := Ll) (hX _) hc hB7 hA hAN (hl.mono hUY.cons.cons.mem) p2 hMay.mana (fun h => ?_)) ?_))
      · obtain ⟨A', h1, h2⟩ := hMay.per h
        have : A' = A := Int.ofNat_inj.1 (h1.symm.trans hA)
        subst this
        exact h2
      rintro _ s9 ⟨v9, n9, c9, hX9, hc9⟩
      refine Vr (k := ?_)
      exact ⟨rfl, hX9.pop'.rdy hc9 hUY, sbs⟩
    have hnm := Bool.eq_false_iff.2 hnm
    refine Vr (k := WO.w (WS.cl (named579 hR) ?_))
    rintro _ _ ⟨rfl, rfl⟩
    rw [hnm]
    by_cases h2 : e 0 = 2
    · have e2 := eqk (k := 2) h2
      obtain ⟨i, hf⟩ := hMay.obj (by simp [isObj, h2])
      refine Vr (k := WO.w (WS.cl (find581 hR (hX _).src.ob hc.ob (by omega)) ?_))
      rintro _ _ ⟨rfl, m9, rfl⟩
      rw [hf]
      have hi := findO_lt hf
      obtain ⟨b, r, n0, cc, sl, ro, M', a', e1, hb1, hn, hM', ha'⟩ := ((hX (.r false [[iv (e 5), iv (e 6), iv (e 7), iv (e 8), iv (e 9), iv (e 10), a]] 7)).gro (m' := m9)).src.ob.at hi
      obtain ⟨z, zb, hz⟩ := (hc.ob.li hi).1.ob13
      rw [hz] at hM'
      obtain ⟨p, hp2, hpN⟩ := hc.ow _ (List.getElem_mem hi)
      rw [hz] at hp2
      have hp2 : z 2 = Int.ofNat p := by simpa using hp2
      refine Vr (k := WO.r (.ia e1 hn) (Vr (k := fun b11 => Vr (k := ?_))))
      refine WO.w (WS.cl (leave582 hR (((hX _).gro (m' := m9)).push (x := (b11, .r false [obj14 z zb a'] 14))) hc hB7 hB1 hi) ?_)
      rintro _ s9 ⟨v9, n9, c9, hX9, hc9⟩
      have g11 : Has b11 (.r false [obj14 z zb a'] 14) s9 := .of_mem (hX9.mem _ (List.mem_cons_self ..))
      have g3 : Has b3 (.r false [evRow e lv tv] 13) s9 := .of_mem (hX9.mem _ (by simp [gY.mem]))
      refine Vr (k := WO.w (WS.cl (add583 hR (a := fun i => [0, z 1, z 2, z 2, e 2, 0, 0, 0, 0].getD i 0) (bb := fun i => [false, false, zb 2, false].getD i false) (p := p) hX9 hc9 hB7 hp2 hpN) ?_))
      rintro _ s10 ⟨v10, n10, c10, hX10, hc10⟩
      refine Vr (k := ?_)
      exact ⟨rfl, hX10.pop'.pop'.rdy hc10 hUY, sbs⟩
    have e2 := nek (k := 2) h2
    by_cases h25 : e 0 = 25
    · have e25 := eqk (k := 25) h25
      obtain ⟨i, hf⟩ := hMay.obj (by simp [isObj, h25])
      refine Vr (k := WO.w (WS.cl (find581 hR (hX _).src.ob hc.ob (by omega)) ?_))
      rintro _ _ ⟨rfl, m9, rfl⟩
      rw [hf]
      refine Vr (k := WO.w (WS.cl (leave582 hR (hX _).gro hc hB7 hB1 (findO_lt hf)) ?_))
      rintro _ s9 ⟨v9, n9, c9, hX9, hc9⟩
      refine Vr (k := ?_)
      exact ⟨rfl, hX9.pop'.rdy (hc9.up (Nat.le_add_right _ _)) hUY, sbs⟩
    have e25 := nek (k := 25) h25
    obtain ⟨k6, hk6⟩ : ∃ k, binV .add (iv (n 6)) (AV.int .i64 (.ofNat 1)) = some (iv k) := ⟨_, add_w _ _⟩
    by_cases h15 : e 0 = 15
    · have e15 := eqk (k := 15) h15
      refine Vr (k := ?_)
      refine WO.pre (s' := (b7, .r false [[iv (n 6), iv (e 6), iv (e 7), iv (e 8), iv (e 9), iv (e 10), a]] 7) :: (b2, .r false [stRow v' (upd n 6 k6) py] 25) :: R) (.refl _) ?_
      obtain ⟨L, ob, oi, g1, g2, g9⟩ := hO.st
      have hL := g2.len
      have hLB := hc.st.len
      have hat := own_at (o := o) (t := (b4, HO.r false [zSt] 25) :: Y) (k := 7) (by decide)
      rw [g9] at hat
      rw [← hRd]
      refine WO.a (.bslice (bsrows1 rfl rfl) rfl) fun b105 => ?_
      refine WO.w (WS.pre (((pm38 hat).cons _).trans pm9) (WS.append_gre (N := [[iv (n 6), iv (e 6), iv (e 7), iv (e 8), iv (e 9), iv (e 10), a]]) rfl g1 rfl (Src.all .here) (by decide) (by simp; omega) (by decide) fun w3 o3 j3 hG3 => ?_))
      have p3 := hG3.one
      refine Vr (k := WO.w (WS.store rfl rfl p3 (.app (.there (.there .here))) rfl rfl (Vr (k := ?_))))
      have hXe : StX b2 (upd v' 7 w3) (upd n 6 k6) py { c with st := c.st ++ [([iv (n 6), iv (e 6), iv (e 7), iv (e 8), iv (e 9), iv (e 10)], Lt)] } ((b4, .r false [zSt] 25) :: Y) (o3 ++ (((b105, HO.r false [[iv (n 6), iv (e 6), iv (e 7), iv (e 8), iv (e 9), iv (e 10), a]] 7) :: (b7, HO.r false [[iv (n 6), iv (e 6), iv (e 7), iv (e 8), iv (e 9), iv (e 10), a]] 7) :: (b2, .r false [stRow (upd v' 7 w3) (upd n 6 k6) py] 25) :: M) ++ (j3 ++ (oi ++ (o1 ++ rest 7 o ((b4, HO.r false [zSt] 25) :: Y)))))) :=
        ⟨_, _, hO.u7 ⟨_, _, _, hG3, .snoc (r := [iv (n 6), iv (e 6), iv (e 7), iv (e 8), iv (e 9), iv (e 10)]) g2 ha, rfl⟩, pm40 (own_upd (k := 7) (by decide))⟩
      exact ⟨rfl, hXe.rdy (ScT.up (B := B + 1) { hc.up (Nat.le_succ B) with st := hc.st.snoc okr (by omega) htT } (Nat.le_succ _)) hUY, sbs⟩
    have e15 := nek (k := 15) h15
    by_cases h17 : e 0 = 17
    · have e17 := eqk (k := 17) h17
      refine Vr (k := ?_)
      refine WO.pre (s' := (b7, .r false [[iv (n 6), iv (e 6), iv (e 7), iv (e 8), iv (e 9), iv (e 10), a]] 7) :: (b2, .r false [stRow v' (upd n 6 k6) py] 25) :: R) (.refl _) ?_
      obtain ⟨L, ob, oi, g1, g2, g9⟩ := hO.wa
      have hL := g2.len
      have hLB := hc.wa.len
      have hat := own_at (o := o) (t := (b4, HO.r false [zSt] 25) :: Y) (k := 8) (by decide)
      rw [g9] at hat
      rw [← hRd]
      refine WO.a (.bslice (bsrows1 rfl rfl) rfl) fun b105 => ?_
      refine WO.w (WS.pre (((pm38 hat).cons _).trans pm9) (WS.append_gre (N := [[iv (n 6), iv (e 6), iv (e 7), iv (e 8), iv (e 9), iv (e 10), a]]) rfl g1 rfl (Src.all .here) (by decide) (by simp; omega) (by decide) fun w3 o3 j3 hG3 => ?_))
      have p3 := hG3.one
      refine Vr (k := WO.w (WS.store rfl rfl p3 (.app (.there (.there .here))) rfl rfl (Vr (k := ?_))))
      have hXe : StX b2 (upd v' 8 w3) (upd n 6 k6) py { c with wa := c.wa ++ [([iv (n 6), iv (e 6), iv (e 7), iv (e 8), iv (e 9), iv (e 10)], Lt)] } ((b4, .r false [zSt] 25) :: Y) (o3 ++ (((b105, HO.r false [[iv (n 6), iv (e 6), iv (e 7), iv (e 8), iv (e 9), iv (e 10), a]] 7) :: (b7, HO.r false [[iv (n 6), iv (e 6), iv (e 7), iv (e 8), iv (e 9), iv (e 10), a]] 7) :: (b2, .r false [stRow (upd v' 8 w3) (upd n 6 k6) py] 25) :: M) ++ (j3 ++ (oi ++ (o1 ++ rest 8 o ((b4, HO.r false [zSt] 25) :: Y)))))) :=
        ⟨_, _, hO.u8 ⟨_, _, _, hG3, .snoc (r := [iv (n 6), iv (e 6), iv (e 7), iv (e 8), iv (e 9), iv (e 10)]) g2 ha, rfl⟩, pm40 (own_upd (k := 8) (by decide))⟩
      exact ⟨rfl, hXe.rdy (ScT.up (B := B + 1) { hc.up (Nat.le_succ B) with wa := hc.wa.snoc okr (by omega) htT } (Nat.le_succ _)) hUY, sbs⟩
    have e17 := nek (k := 17) h17
    by_cases h16 : e 0 = 16
    · have e16 := eqk (k := 16) h16
      obtain ⟨i, hf⟩ := hMay.pop h16
      have hat := own_at (o := o) (t := (b4, HO.r false [zSt] 25) :: Y) (k := 7) (by decide)
      have hcut := cut584 hR hO.st hc.st (by omega) hf (pm41 (x := (b7, HO.r false [[iv (e 5), iv (e 6), iv (e 7), iv (e 8), iv (e 9), iv (e 10), a]] 7)) (y := (b2, HO.r false [stRow v' n py] 25)) (M := M) (o1 := o1) hat)
      rw [hRd] at hcut
      refine Vr (k := WO.w (WS.cl hcut ?_))
      rintro w3 s9 ⟨o3, m3, hw3, hp3⟩
      have p3 := hw3.one
      refine WO.pre (pm42 hp3) (Vr (k := WO.w (WS.store rfl rfl p3 .here rfl rfl (Vr (k := ?_)))))
      have hXe : StX b2 (upd v' 7 w3) n py { c with st := c.st.eraseIdx i } ((b4, .r false [zSt] 25) :: Y) ((b2, .r false [stRow (upd v' 7 w3) n py] 25) :: (m3 ++ (o3 ++ rest 7 o ((b4, HO.r false [zSt] 25) :: Y)))) :=
        ⟨_, m3, hO.u7 hw3, (((own_upd (k := 7) (by decide)).symm.append_left _).cons _)⟩
      exact ⟨rfl, hXe.rdy ({ hc.up (Nat.le_add_right B 2) with st := (hc.up (Nat.le_add_right B 2)).st.erase i }) hUY, sbs⟩
    have e16 := nek (k := 16) h16
    by_cases h18 : e 0 = 18
    · have e18 := eqk (k := 18) h18
      obtain ⟨i, hf⟩ := hMay.unw h18
      have hat := own_at (o := o) (t := (b4, HO.r false [zSt] 25) :: Y) (k := 8) (by decide)
      have hcut := cut584 hR hO.wa hc.wa (by omega) hf (pm41 (x := (b7, HO.r false [[iv (e 5), iv (e 6), iv (e 7), iv (e 8), iv (e 9), iv (e 10), a]] 7)) (y := (b2, HO.r false [stRow v' n py] 25)) (M := M) (o1 := o1) hat)
      rw [hRd] at hcut
      refine Vr (k := WO.w (WS.cl hcut ?_))
      rintro w3 s9 ⟨o3, m3, hw3, hp3⟩
      have p3 := hw3.one
      refine WO.pre (pm42 hp3) (Vr (k := WO.w (WS.store rfl rfl p3 .here rfl rfl (Vr (k := ?_)))))
      have hXe : StX b2 (upd v' 8 w3) n py { c with wa := c.wa.eraseIdx i } ((b4, .r false [zSt] 25) :: Y) ((b2, .r false [stRow (upd v' 8 w3) n py] 25) :: (m3 ++ (o3 ++ rest 8 o ((b4, HO.r false [zSt] 25) :: Y)))) :=
        ⟨_, m3, hO.u8 hw3, (((own_upd (k := 8) (by decide)).symm.append_left _).cons _)⟩
      exact ⟨rfl, hXe.rdy ({ hc.up (Nat.le_add_right B 2) with wa := (hc.up (Nat.le_add_right B 2)).wa.erase i }) hUY, sbs⟩
    have e18 := nek (k := 18) h18
    by_cases h19 : e 0 = 19
    · have e19 := eqk (k := 19) h19
      refine Vr (k := ?_)
      exact ⟨rfl, fin (upd n 2 (e 1)) py _ (.refl _), sbs⟩
    have e19 := nek (k := 19) h19
    by_cases h22 : e 0 = 22
    · have e22 := eqk (k := 22) h22
      refine Vr (k := ?_)
      exact ⟨rfl, fin (upd n 5 (e 1)) py _ (.refl _), sbs⟩
    have e22 := nek (k := 22) h22
    by_cases h27 : e 0 = 27
    · have e27 := eqk (k := 27) h27
      obtain ⟨k8, hk8⟩ : ∃ k, binV .add (iv (n 8)) (iv (e 3)) = some (iv k) := ⟨_, add_w _ _⟩
      refine Vr (k := ?_)
      exact ⟨rfl, fin (upd n 8 k8) py _ (.refl _), sbs⟩
    have e27 := nek (k := 27) h27
    by_cases h28 : e 0 = 28
    · have e28 := eqk (k := 28) h28
      refine Vr (k := WO.r (.build (cs := [iv (e 6), iv (e 8), iv (e 10), a, .bool (negB false (decide (e 3 = Int.ofNat 1)))]) (by simp only [bparts, lmapO, opl, lk, pa]; rfl) rfl) (Vr (k := ?_)))
      have hpm := pm43 (x := (b7, HO.r false [[iv (e 5), iv (e 6), iv (e 7), iv (e 8), iv (e 9), iv (e 10), a]] 7)) (y := (b2, HO.r false [stRow (upd v' 9 a) (upd (upd (upd n 9 (e 6)) 10 (e 8)) 11 (e 10)) (negB false (decide (e 3 = Int.ofNat 1)))] 25)) (z := (b4, HO.r false [zSt] 25)) (M := M) (o1 := o1) (t := Y) (o := o)
      rw [hRd] at hpm
      refine ⟨rfl, ⟨upd v' 9 a, upd (upd (upd n 9 (e 6)) 10 (e 8)) 11 (e 10), negB false (decide (e 3 = Int.ofNat 1)), { c with kt := Lt }, _, hpm, .there .here, ?_, { hc.up (Nat.le_add_right B 2) with kt := ⟨Nat.le_trans (hB2) (Nat.le_add_right B 2), htT⟩ }, ?_⟩, sbs⟩
      · exact { hO.src.mono fun p hp => List.mem_cons_of_mem _ (List.mem_cons_of_mem _ (List.mem_append_right _ (List.mem_append_right _ hp))) with kt := ha.src fun p hp => List.mem_cons_of_mem _ (List.mem_cons_of_mem _ (List.mem_append_right _ (List.mem_append_left _ hp))) }
      · exact (hUY.trans ⟨_, pm33⟩).app.app.cons.cons
    have e28 := nek (k := 28) h28
    by_cases h29 : e 0 = 29
    · have e29 := eqk (k := 29) h29
      refine Vr (k := ?_)
      exact ⟨rfl, fin (upd (upd n 12 (e 1)) 13 (e 2)) py _ (.refl _), sbs⟩
    have e29 := nek (k := 29) h29
    refine Vr (k := ?_)
    exact ⟨rfl, fin n py _ (.refl _), sbs⟩
end
end Go.Ev
set_option maxHeartbeats 8000000
namespace Go.Ev
section
variable {P : Program} {K : Orc} {rd : Option Nat} {nt : Nat} {l : Sl} {ds : List ADef} {s : SH} {Q Qn Qr : Po} {Qe : Nat → Po} {F : Nat → FuncId} {T : Nat → TypeId}
def WRn (P : Program) (hs : List SH) (op : AOp) (l : Sl) (v : AV) (lo n : Nat) : Prop := ∀ k, lo ≤ k → k < lo + n → ∃ sk, hs.reverse[k]? = some sk ∧ WR P op l sk v
theorem WRn.z {hs : List SH} {op : AOp} {v : AV} {lo : Nat} : WRn P hs op l v lo 0 := fun k h1 h2 => absurd h2 (by omega)
theorem WRn.u {hs : List SH} {op : AOp} {v : AV} {lo n : Nat} {sk : SH} (h0 : hs.reverse[lo]? = some sk) (w : WR P op l sk v) (h : WRn P hs op l v (lo + 1) n) : WRn P hs op l v lo (n + 1) := fun k h1 h2 => by
  by_cases hk : k = lo
  · subst hk; exact ⟨_, h0, w⟩
  · exact h k (by omega) (by omega)
theorem obn {hs : List SH} {is : List Nat} {op : AOp} {v : AV} {a lo hi : Nat} (hl : lo ≤ hi) (sm : sameV v v = true) (h : WRn P hs op l v lo (hi + 1 - lo)) (hi0 : ∀ i ∈ is, bit a i = false := by intro i hi; cases hi) : ∀ o ∈ [(⟨op, l, v, a, lo, hi⟩ : OB)], OBok P hs is o := by
  intro o ho
  rw [List.mem_singleton.1 ho]
  exact ⟨hi0, hl, sm, fun k h1 h2 => h k h1 (by have : k ≤ hi := h2; omega)⟩
@[reducible] def rg3 (a b : Int) : AV := .agg [.bool true, iv a, iv b]
theorem most644 (hR : BaseR12 P K F T) : Tri P K (F 644) [] s (fun w s' => w = iv 1073741824 ∧ s' = s) := by
  refine hR.f644.tri ?_
  unfold a644
  refine Vr (k := ?_)
  exact ⟨rfl, rfl⟩
theorem to634 (hR : BaseR12 P K F T) (t542 : Ty P (T 542) 3) {a b : Int} : Tri P K (F 634) [iv a, iv b] s (fun w s' => w = rg3 a b ∧ ∃ m, s' = m ++ s) := by
  refine hR.f634.tri ?_
  unfold a634
  refine Vr (k := fun b4 => Vr (k := ?_))
  exact WP.ret (Fin.mk (.ce t542) ⟨rfl, [_], rfl⟩)
theorem player637 (hR : BaseR12 P K F T) (t542 : Ty P (T 542) 3) : Tri P K (F 637) [] s (fun w s' => w = rg3 0 3 ∧ ∃ m, s' = m ++ s) := by
  refine hR.f637.tri ?_
  unfold a637
  refine Vr (k := fun b4 => Vr (k := WO.w (WS.cl (to634 hR t542) ?_)))
  rintro _ _ ⟨rfl, m, rfl⟩
  refine Vr (k := ?_)
  exact WP.ret (Fin.mk (.ce t542) ⟨rfl, m ++ [_], by rw [List.append_assoc]; rfl⟩)
theorem truth638 (hR : BaseR12 P K F T) (t542 : Ty P (T 542) 3) : Tri P K (F 638) [] s (fun w s' => w = rg3 0 1 ∧ ∃ m, s' = m ++ s) := by
  refine hR.f638.tri ?_
  unfold a638
  refine Vr (k := fun b4 => Vr (k := WO.w (WS.cl (to634 hR t542) ?_)))
  rintro _ _ ⟨rfl, m, rfl⟩
  refine Vr (k := ?_)
  exact WP.ret (Fin.mk (.ce t542) ⟨rfl, m ++ [_], by rw [List.append_assoc]; rfl⟩)
theorem id639 (hR : BaseR12 P K F T) (t542 : Ty P (T 542) 3) : Tri P K (F 639) [] s (fun w s' => w = rg3 1 1073741824 ∧ ∃ m, s' = m ++ s) := by
  refine hR.f639.tri ?_
  unfold a639
  refine Vr (k := fun b4 => Vr (k := WO.w (WS.cl (most644 hR) ?_)))
  rintro _ _ ⟨rfl, rfl⟩
  refine Vr (k := WO.w (WS.cl (to634 hR t542) ?_))
  rintro _ _ ⟨rfl, m, rfl⟩
  refine Vr (k := ?_)
  exact WP.ret (Fin.mk (.ce t542) ⟨rfl, m ++ [_], by rw [List.append_assoc]; rfl⟩)
theorem big640 (hR : BaseR12 P K F T) (t542 : Ty P (T 542) 3) : Tri P K (F 640) [] s (fun w s' => (∃ a b, w = rg3 a b) ∧ ∃ m, s' = m ++ s) := by
  refine hR.f640.tri ?_
  unfold a640
  refine Vr (k := fun b4 => Vr (k := WO.w (WS.cl (to634 hR t542) ?_)))
  rintro _ _ ⟨rfl, m, rfl⟩
  refine Vr (k := ?_)
  exact WP.ret (Fin.mk (.ce t542) ⟨⟨_, _, rfl⟩, m ++ [_], by rw [List.append_assoc]; rfl⟩)
theorem in632 (hR : BaseR12 P K F T) {a lo hi : Int} {t : Bool} : Tri P K (F 632) [iv a, .agg [.bool t, iv lo, iv hi]] s (fun w s' => (∃ q, w = .bool q ∧ (q = true → t = true → lo ≤ a ∧ a ≤ hi)) ∧ ∃ m, s' = m ++ s) := by
  refine hR.f632.tri ?_
  unfold a632
  have e2 := leq_i3 a hi
  cases t with
  | false =>
    refine Vr (k := fun b4 => Vr (k := ?_))
    exact ⟨⟨_, rfl, fun _ h => nomatch h⟩, [_], rfl⟩
  | true =>
    by_cases h : a < lo
    · have e1 : binV .geq (iv a) (iv lo) = some (.bool false) := by rw [geq_i, decide_eq_true h]; rfl
      refine Vr (k := fun b4 => Vr (k := ?_))
      exact ⟨⟨_, rfl, fun h => nomatch h⟩, [_], rfl⟩
    · have e1 : binV .geq (iv a) (iv lo) = some (.bool true) := by rw [geq_i, decide_eq_false h]; rfl
      by_cases h2 : hi < a
      · rw [decide_eq_true h2] at e2
        refine Vr (k := fun b4 => Vr (k := ?_))
        exact ⟨⟨_, rfl, fun h => nomatch h⟩, [_], rfl⟩
      · rw [decide_eq_false h2] at e2
        refine Vr (k := fun b4 => Vr (k := ?_))
        exact ⟨⟨_, rfl, fun _ _ => ⟨Int.not_lt.1 h, Int.not_lt.1 h2⟩⟩, [_], rfl⟩
end
end Go.Ev
set_option maxHeartbeats 16000000
set_option maxRecDepth 100000
namespace Go.Ev
section
variable {P : Program} {K : Orc} {rd : Option Nat} {nt : Nat} {l : Sl} {ds : List ADef} {s : SH} {Q Qn Qr : Po} {Qe : Nat → Po} {F : Nat → FuncId} {T : Nat → TypeId}
@[reducible] def itRow (a : Nat → Int) (tv : AV) : List AV := [iv (a 0), iv (a 1), iv (a 2), iv (a 3), iv (a 4), iv (a 5), tv]
theorem zero642 (hR : BaseR12 P K F T) {a : Nat → Int} {tv : AV} {n : Nat} (ht : lenOf tv = some n) (p1 : partCells 1 tv = some [tv]) : Tri P K (F 642) [.agg (itRow a tv)] s (fun w s' => (∃ q, w = .bool q) ∧ ∃ m, s' = m ++ s) := by
  refine hR.f642.tri ?_
  unfold a642
  refine Vr (k := fun b4 => ?_)
  repeat' (refine Vr (k := ?_); first | exact ⟨⟨_, rfl⟩, [_], rfl⟩ | refine WO.g2 rfl ?_ ?_)
theorem item643 (hR : BaseR12 P K F T) (t542 : Ty P (T 542) 3) {a : Nat → Int} {tv : AV} {Lt : List (List AV)} (ht : Src s 2 tv Lt) (h1 : Lt.length ≤ 1000) (hT : ∀ r ∈ Lt, OkR [] rTg r) : Tri P K (F 643) [.agg (itRow a tv)] s (fun w s' => (∃ q, w = .bool q) ∧ Up s s') := by
  refine hR.f643.tri ?_
  unfold a643
  have p1 := ht.one
  have hlen := ht.lenOf
  refine Vr (k := fun b4 => ?_)
  repeat' (refine Vr (k := ?_); first
    | exact ⟨⟨_, rfl⟩, by repeat (first | exact Up.rfl | apply Up.cons | apply Up.app)⟩
    | refine WP.cond rfl (fun _ => ?_) (fun _ => ?_)
    | refine WD.lk rfl .nil .ld ?_
    | refine WD.skipc rfl rfl ?_
    | refine WD.skipcu rfl ?_
    | refine WD.g2 rfl ?_ ?_
    | (refine WD.ch .nil (WS.cl (player637 hR t542) ?_); rintro _ _ ⟨rfl, m, rfl⟩)
    | (refine WD.ch .nil (WS.cl (most644 hR) ?_); rintro _ _ ⟨rfl, rfl⟩)
    | (refine WD.ch .nil (WS.cl (to634 hR t542) ?_); rintro _ _ ⟨rfl, m, rfl⟩)
    | (refine WD.ch .nil (WS.cl (in632 hR) ?_); rintro _ _ ⟨⟨q, rfl, -⟩, m, rfl⟩)
    | refine WD.nil .nil ?_ (by repeat' (first | refine obn (by decide) (sameN_i 5 _) ?_ | refine obc ?_ ?_ | refine WRn.u rfl .ld ?_ | exact WRn.z | exact fun o h => nomatch h)))
  refine Vr (k := ?_)
  refine WP.loop (fun k l ds s' => ds = [] ∧ ∃ i, k = Lt.length - i ∧ i ≤ Lt.length ∧ Up s s' ∧ Has b4 (.r false [itRow a tv] 7) s' ∧ ∀ j x, lk [(1, .ptr (some ⟨b4, 0, 0⟩)), (3, .int .i64 (.ofNat i))] j = some x → lk l j = some x) ?_ (n := Lt.length - 0) ⟨rfl, 0, rfl, Nat.zero_le _, by repeat (first | exact Up.rfl | apply Up.cons | apply Up.app), zP, sbs⟩
  rintro k l ds s' ⟨rfl, i, rfl, hi, hU, h4, hlk⟩
  refine WP.weak hlk (fun _ _ h => h) ?_
  have hadd : binV .add (AV.int .i64 (.ofNat i)) (AV.int .i64 (.ofNat 1)) = some (AV.int .i64 (.ofNat (i + 1))) := add_n (by omega)
  refine Vr (k := WP.cond rfl (fun hlt0 => ?_) (fun hlt0 => ?_))
  · have hlt : i < Lt.length := Int.ofNat_lt.1 (of_decide_eq_true hlt0)
    obtain ⟨b, r, n1, cc, sl, ro, M, e, hb1, hn, hM⟩ := ht.at hlt
    obtain ⟨y, z, hyz⟩ : ∃ y z, Lt[i] = [iv y, iv z] := by
      obtain ⟨y, _, e1, h2⟩ := (hT _ (List.getElem_mem hlt)).invi
      obtain ⟨z, _, rfl, h3⟩ := h2.invi
      cases h3.nil_inv
      exact ⟨y, z, e1⟩
    rw [List.getElem?_eq_getElem hlt, hyz] at hM
    have k1 : Has b (.r ro M 2) s' := hb1.mono hU.mem
    refine Vr (k := WO.r (.ia e hn) (Vr (k := fun b5 => ?_)))
    repeat' (refine Vr (k := ?_); first
      | exact ⟨⟨_, rfl⟩, by repeat (first | exact hU | apply Up.cons | apply Up.app)⟩
      | exact ⟨Lt.length - (i + 1), by omega, rfl, i + 1, rfl, hlt, by repeat (first | exact hU | apply Up.cons | apply Up.app), zP, sbs⟩
      | refine WP.cond rfl (fun _ => ?_) (fun _ => ?_)
      | refine WD.lk rfl .nil .ld ?_
      | refine WD.skipc rfl rfl ?_
      | refine WD.skipcu rfl ?_
      | refine WD.g2 rfl ?_ ?_
      | (refine WD.ch .nil (WS.cl (player637 hR t542) ?_); rintro _ _ ⟨rfl, m, rfl⟩)
      | (refine WD.ch .nil (WS.cl (most644 hR) ?_); rintro _ _ ⟨rfl, rfl⟩)
      | (refine WD.ch .nil (WS.cl (to634 hR t542) ?_); rintro _ _ ⟨rfl, m, rfl⟩)
      | (refine WD.ch .nil (WS.cl (in632 hR) ?_); rintro _ _ ⟨⟨q, rfl, -⟩, m, rfl⟩)
      | refine WD.nil .nil ?_ (by repeat' (first | refine obn (by decide) (sameN_i 5 _) ?_ | refine obc ?_ ?_ | refine WRn.u rfl .ld ?_ | exact WRn.z | exact fun o h => nomatch h)))
  · refine WP.exit (Vr (k := ?_))
    exact ⟨⟨_, rfl⟩, hU⟩
end
end Go.Ev
set_option maxHeartbeats 8000000
namespace Go.Ev
section
variable {P : Program} {K : Orc} {rd : Option Nat} {nt : Nat} {l : Sl} {ds : List ADef} {s : SH} {Q Qn Qr : Po} {Qe : Nat → Po} {F : Nat → FuncId} {T : Nat → TypeId}
theorem pm45 {bx : Nat × HO} {m o1 ob oi r ow s : SH} (hp : s.Perm (bx :: (m ++ (o1 ++ ow)))) (h : ow.Perm ((ob ++ oi) ++ r)) : s.Perm ((bx :: m) ++ (ob ++ (oi ++ (o1 ++ r)))) := perm_ct fun c w h0 ha hb hq => by
  have e1 := hq _ _ h
  have e2 := hq _ _ hp
  simp only [ha, hb] at e1 e2 ⊢
  omega
theorem pm46 {bx : Nat × HO} {m j o' o1 oi r ow : SH} (h : ow.Perm ((o' ++ (o1 ++ oi)) ++ r)) : (o' ++ ((bx :: m) ++ (j ++ (oi ++ (o1 ++ r))))).Perm ((bx :: j) ++ (m ++ ow)) := perm_ct fun c w h0 ha hb hq => by
  have e1 := hq _ _ h
  simp only [ha, hb] at e1 ⊢
  omega
theorem WS.own1 {R : AV → List ADef → SH → Prop} {k mm f bytes bx : Nat} {sl : Bool} {ss x : Operand} {sv a : AV} {r : List AV} {I : List (List AV)} {C : Cn} {o1 m t : SH} {o : Nat → SH} (hO : OwnN k mm sv C (o f)) (hf : f ≤ 9) (hI : GrS mm a I o1) (hl : C.length ≤ 900000000) (hb : bytes ≤ 1000)
    (hp : s.Perm ((bx, .r false [r ++ [a]] (k + 1)) :: (m ++ (o1 ++ own o t)))) (kk : ∀ w o' m' s', OwnN k mm w (C ++ [(r, I)]) o' → s'.Perm (m' ++ (m ++ own (upd o f o') t)) → R w ds s')
    (hs : opl l ss = some sv := by exact rfl) (hx : opl l x = some (.slice (some ⟨bx, 0, 0⟩) 1 1 sl (k + 1)) := by exact rfl) : WS P K (.append (k + 1) bytes ss x) l ds s R := by
  obtain ⟨L, ob, oi, g1, g2, g3⟩ := hO
  have hL := g2.len
  have hat := own_at (o := o) (t := t) hf
  rw [g3] at hat
  exact WS.pre (pm45 hp hat) (WS.append_gre (N := [r ++ [a]]) hs g1 hx (Src.all (L := [r ++ [a]]) .here) (Nat.succ_ne_zero k) (by simp; omega) hb fun v o' j hG => kk v _ _ _ ⟨_, _, _, hG, .snoc g2 hI, rfl⟩ (pm46 (own_upd hf)))
theorem WS.own1E {R : AV → List ADef → SH → Prop} {sz f bytes bx : Nat} {sl : Bool} {ss x : Operand} {sv : AV} {r : List AV} {L : List (List AV)} {m t : SH} {o : Nat → SH} (hO : GrE sz sv L (o f)) (hf : f ≤ 9) (hz : sz ≠ 0) (hl : L.length ≤ 900000000) (hb : bytes ≤ 1000)
    (hp : s.Perm ((bx, .r false [r] sz) :: (m ++ own o t))) (kk : ∀ w o' m' s', GrE sz w (L ++ [r]) o' → s'.Perm (m' ++ (m ++ own (upd o f o') t)) → R w ds s')
    (hs : opl l ss = some sv := by exact rfl) (hx : opl l x = some (.slice (some ⟨bx, 0, 0⟩) 1 1 sl sz) := by exact rfl) : WS P K (.append sz bytes ss x) l ds s R :=
  WS.pre (pm45 (o1 := []) hp (show (own o t).Perm ((o f ++ []) ++ rest f o t) from by rw [List.append_nil]; exact own_at hf)) (WS.append_gre (N := [r]) hs hO hx (Src.all (L := [r]) .here) hz (by simp; omega) hb fun v o' j hG => kk v _ ((bx, .r false [r] sz) :: j) _ hG (pm46 (o1 := []) (oi := []) (show (own (upd o f o') t).Perm ((o' ++ ([] ++ [])) ++ rest f o t) from by simp only [List.append_nil]; exact own_upd hf)))
structure StI (N ip i : Nat) (c : SC) : Prop where
  pl : c.pl.length = ip ∧ ∀ r ∈ c.pl, OkR [] rPl r
  ob : CnT 100 sOb rEf c.ob
  ow : ∀ p ∈ c.ob, ∃ j : Nat, p.1[2]? = some (iv (.ofNat j)) ∧ j < N
  lb : CnT 100 [] [.i] c.lb ∧ c.lb.length = i
  hd : CnT 100 [] [.i] c.hd ∧ c.hd.length = i
  gr : CnT 100 [] [.i] c.gr ∧ c.gr.length = i
  ex : CnT 100 [] [.i] c.ex ∧ c.ex.length = i
  fi : c.fi = []
  st : c.st = []
  wa : c.wa = []
  kt : c.kt = []
theorem StI.scT {N : Nat} {c : SC} (h : StI N N N c) (h4 : N ≤ 4) : ScT 100 N c :=
  ⟨h.pl, h4, h.ob, h.ow, h.lb, h.hd, h.gr, h.ex, by rw [h.fi]; exact ⟨Nat.zero_le _, fun _ h => nomatch h⟩, by rw [h.st]; exact ⟨Nat.zero_le _, fun _ h => nomatch h⟩, by rw [h.wa]; exact ⟨Nat.zero_le _, fun _ h => nomatch h⟩, by rw [h.kt]; exact ⟨Nat.zero_le _, fun _ h => nomatch h⟩⟩
theorem CnT.snocB {B : Nat} {sc inn : List CT} {C : Cn} (h : CnT B sc inn C) (hl : C.length + 1 ≤ B) {r : List AV} {I : List (List AV)} (hr : OkR [] sc r) (hI : I.length ≤ B) (hq : ∀ q ∈ I, OkR [] inn q) : CnT B sc inn (C ++ [(r, I)]) :=
  ⟨by simp; omega, fun p hp => by
    rcases List.mem_append.1 hp with hp | hp
    · exact h.row p hp
    · rw [List.mem_singleton.1 hp]; exact ⟨hr, hI, hq⟩⟩
theorem StI.obj {N ip i p : Nat} {c : SC} (h : StI N ip i c) {r : List AV} (hl : c.ob.length + 1 ≤ 100) (hp : p < N) (hr : OkR [] sOb r) (h2 : r[2]? = some (iv (.ofNat p))) : StI N ip i { c with ob := c.ob ++ [(r, [])] } :=
  ⟨h.pl, h.ob.snocB hl hr (Nat.zero_le _) (fun q h => by cases h), fun q hq => by
    rcases List.mem_append.1 hq with hq | hq
    · exact h.ow q hq
    · rw [List.mem_singleton.1 hq]; exact ⟨p, h2, hp⟩, h.lb, h.hd, h.gr, h.ex, h.fi, h.st, h.wa, h.kt⟩
theorem pm47 {x y : Nat × HO} {m0 m t s : SH} (h : s.Perm (m0 ++ ((x :: y :: m) ++ t))) : s.Perm (x :: y :: ((m0 ++ m) ++ t)) := h.trans pm2
theorem pm48 {x y z : Nat × HO} {m w t : SH} : (x :: y :: z :: (m ++ (w ++ t))).Perm (x :: ((y :: z :: (m ++ w)) ++ ([] ++ t))) := by simp
theorem pm49 {x y : Nat × HO} {m0 m w t s : SH} (h : s.Perm (m0 ++ ((x :: y :: (m ++ w)) ++ t))) : s.Perm (x :: y :: ((m0 ++ m) ++ (w ++ t))) := h.trans pm2
theorem pm50 {x y z : Nat × HO} {m t : SH} : (x :: y :: z :: (m ++ t)).Perm ((x :: y :: z :: m) ++ t) := .refl _
theorem pm51 {x y z : Nat × HO} {m j w t : SH} : (w ++ ((x :: y :: z :: m) ++ (j ++ t))).Perm (y :: z :: ((x :: (m ++ j)) ++ (w ++ t))) := pm2
theorem upOwn {o : Nat → SH} : Up s (own o s) := ⟨_, pm33⟩
def c0 : SC := ⟨[], [], [], [], [], [], [], [], [], []⟩
theorem src0 : SrcS s (fun _ => nilS) c0 := ⟨.nil, ⟨_, .nil, .nil⟩, ⟨_, .nil, .nil⟩, ⟨_, .nil, .nil⟩, ⟨_, .nil, .nil⟩, ⟨_, .nil, .nil⟩, .nil, ⟨_, .nil, .nil⟩, ⟨_, .nil, .nil⟩, .nil⟩
theorem own0 : OwnS (fun _ => nilS) c0 (fun _ => []) := ⟨.nil, ⟨_, [], [], .nil, .nil, rfl⟩, ⟨_, [], [], .nil, .nil, rfl⟩, ⟨_, [], [], .nil, .nil, rfl⟩, ⟨_, [], [], .nil, .nil, rfl⟩, ⟨_, [], [], .nil, .nil, rfl⟩, .nil, ⟨_, [], [], .nil, .nil, rfl⟩, ⟨_, [], [], .nil, .nil, rfl⟩, .nil⟩
theorem cnt0 {B : Nat} {sc inn : List CT} : CnT B sc inn [] := ⟨Nat.zero_le _, fun _ h => by cases h⟩
theorem sti0 {N : Nat} : StI N 0 0 c0 := ⟨⟨rfl, (fun _ h => by cases h)⟩, cnt0, (fun _ h => by cases h), ⟨cnt0, rfl⟩, ⟨cnt0, rfl⟩, ⟨cnt0, rfl⟩, ⟨cnt0, rfl⟩, rfl, rfl, rfl, rfl⟩
theorem start550 (hR : BaseR12 P K F T) (t41 : Ty P (T 41) 25) {v : AV} {D : Cn} (hv : SrcN s 0 1 v D) (hD : CnT 10 [] [.i] D) (h5 : D.length ≤ 5) : Tri P K (F 550) [v] s (fun w s' => ∃ v' n py c k, w = .tuple [.agg (stRow v' n py), iv k] ∧ SrcS s' v' c ∧ (k = 0 → ∃ N, ScT 100 N c) ∧ Up s s') := by
  refine hR.f550.tri ?_
  unfold a550
  have hl := hv.len
  by_cases hlo : D.length < 2
  · have f1 : binV .lss (AV.int .i64 (.ofNat D.length)) (AV.int .i64 (.ofNat 2)) = some (.bool true) := by rw [lss_i, decide_eq_true (show Int.ofNat D.length < Int.ofNat 2 from Int.ofNat_lt.2 hlo)]
    refine Vr (k := fun b2 => Vr (k := ?_))
    exact WP.ret (Fin.mk (.ce t41) ⟨fun _ => nilS, fun _ => 0, false, c0, 2, rfl, src0, fun h => absurd h (by decide), Up.rfl.cons⟩)
  have f1 : binV .lss (AV.int .i64 (.ofNat D.length)) (AV.int .i64 (.ofNat 2)) = some (.bool false) := by rw [lss_i, decide_eq_false (show ¬ Int.ofNat D.length < Int.ofNat 2 from fun h => hlo (Int.ofNat_lt.1 h))]
  by_cases hhi : 4 < D.length
  · have f2 : binV .gtr (AV.int .i64 (.ofNat D.length)) (AV.int .i64 (.ofNat 4)) = some (.bool true) := by rw [gtr_i, decide_eq_true (show Int.ofNat 4 < Int.ofNat D.length from Int.ofNat_lt.2 hhi)]
    refine Vr (k := fun b2 => Vr (k := ?_))
    exact WP.ret (Fin.mk (.ce t41) ⟨fun _ => nilS, fun _ => 0, false, c0, 2, rfl, src0, fun h => absurd h (by decide), Up.rfl.cons⟩)
  have f2 : binV .gtr (AV.int .i64 (.ofNat D.length)) (AV.int .i64 (.ofNat 4)) = some (.bool false) := by rw [gtr_i, decide_eq_false (show ¬ Int.ofNat 4 < Int.ofNat D.length from fun h => hhi (Int.ofNat_lt.1 h))]
  refine Vr (k := fun b2 => Vr (k := fun b4 => Vr (k := ?_)))
  refine WP.pre (s' := (b4, .r false [stRow (fun _ => nilS) (upd (upd (upd (fun _ => 0) 0 1) 6 1) 7 1) false] 25) :: (b2, .r false [zSt] 25) :: ([] ++ own (fun _ => []) s)) (.refl _) ?_
  refine WP.loop (fun k l ds s' => ds = [] ∧ ∃ i v' n' c' o m, k = D.length - i ∧ i ≤ D.length ∧ StI D.length i i c' ∧ c'.ob.length ≤ 10 * i ∧ OwnS v' c' o ∧ s'.Perm ((b4, .r false [stRow v' n' false] 25) :: (b2, .r false [zSt] 25) :: (m ++ own o s)) ∧ ∀ j x, lk [(0, v), (2, .ptr (some ⟨b2, 0, 0⟩)), (4, .ptr (some ⟨b4, 0, 0⟩)), (5, .int .i64 (.ofNat i))] j = some x → lk l j = some x) ?_ (n := D.length - 0) ⟨rfl, 0, _, _, c0, _, _, rfl, Nat.zero_le _, sti0, Nat.zero_le _, own0, .refl _, sbs⟩
  rintro k l ds s' ⟨rfl, i, v', n', c', o, m, rfl, hi, hI, hob, hO, hp, hlk⟩
  refine WP.pre hp (WP.weak hlk (fun _ _ h => h) ?_)
  have hadd : binV .add (AV.int .i64 (.ofNat i)) (AV.int .i64 (.ofNat 1)) = some (AV.int .i64 (.ofNat (i + 1))) := add_n (by omega)
  refine Vr (k := WP.cond rfl (fun hlt0 => ?_) (fun hlt0 => ?_))
  · have hlt : i < D.length := Int.ofNat_lt.1 (of_decide_eq_true hlt0)
    obtain ⟨b, r, n1, cc, sl, ro, M, a, e, hb1, hn, hM, ha⟩ := hv.at hlt
    obtain ⟨hr0, hIl, hIT⟩ := hD.li hlt
    rw [hr0.nil_inv] at hM
    have k1 : Has b (.r ro M 1) ((b4, HO.r false [stRow v' n' false] 25) :: (b2, HO.r false [zSt] 25) :: (m ++ own o s)) := hb1.mono fun p hp => List.mem_cons_of_mem _ (List.mem_cons_of_mem _ (List.mem_append_right _ (own_t hp)))
    have hla := ha.lenOf
    have f3 : binV .gtr (AV.int .i64 (.ofNat D[i].2.length)) (AV.int .i64 (.ofNat 40)) = some (.bool false) := by rw [gtr_i, decide_eq_false (show ¬ Int.ofNat 40 < Int.ofNat D[i].2.length from fun h => by have := Int.ofNat_lt.1 h; omega)]
    refine Vr (k := WO.r (.ia e hn) (Vr (k := ?_)))
    refine WO.a (.bslice (bsrows1 rfl rfl) rfl) fun b34 => ?_
    refine WO.w (WS.own1E (f := 0) (m := (b4, HO.r false [stRow v' n' false] 25) :: (b2, HO.r false [zSt] 25) :: m) hO.pl (by decide) (by decide) (by have := hI.pl.1; omega) (by decide) (.refl _) fun w0 o0 m0 s0 hG0 hp0 => ?_)
    have q0 := hG0.one
    refine WO.pre (pm47 hp0) (Vr (k := WO.w (WS.store rfl rfl q0 .here rfl rfl (Vr (k := ?_)))))
    have hI1 : StI D.length (i + 1) i { c' with pl := c'.pl ++ [[iv 20, iv 0, iv 0, iv 0, iv 0, .bool false, .bool false, .bool false]] } := { hI with pl := ⟨by simp [hI.pl.1], fun r hr => by
      rcases List.mem_append.1 hr with hr | hr
      · exact hI.pl.2 r hr
      · rw [List.mem_singleton.1 hr]; exact okr⟩ }
    have hO1 := hO.u0 hG0
    refine WP.loop (fun k l ds s' => ds = [] ∧ ∃ j v2 n2 c2 o2 M w Lib ow, k = D[i].2.length - j ∧ j ≤ D[i].2.length ∧ StI D.length (i + 1) i c2 ∧ c2.ob.length ≤ 10 * i + j ∧ OwnS v2 c2 o2 ∧ GrE 1 w Lib ow ∧ Lib.length = j ∧ (∀ r ∈ Lib, OkR [] [.i] r) ∧ s'.Perm ((b4, .r false [stRow v2 n2 false] 25) :: (b2, .r false [zSt] 25) :: (M ++ (ow ++ own o2 s))) ∧ ∀ q x, lk [(0, v), (2, .ptr (some ⟨b2, 0, 0⟩)), (4, .ptr (some ⟨b4, 0, 0⟩)), (5, .int .i64 (.ofNat i)), (6, w), (7, .int .i64 (.ofNat j))] q = some x → lk l q = some x) ?_ (n := D[i].2.length - 0)
      ⟨rfl, 0, upd v' 0 w0, n', _, upd o 0 o0, m0 ++ m, _, [], [], rfl, Nat.zero_le _, hI1, hob, hO1, .nil, rfl, (fun r h => by cases h), .refl _, sbs⟩
    rintro k l ds s' ⟨rfl, j, v2, n2, c2, o2, M2, w, Lib, ow, rfl, hj, hI2, hob2, hO2, hGl, hLl, hTl, hp2, hlk2⟩
    refine WP.pre hp2 (WP.weak hlk2 (fun _ _ h => h) ?_)
    have haddj : binV .add (AV.int .i64 (.ofNat j)) (AV.int .i64 (.ofNat 1)) = some (AV.int .i64 (.ofNat (j + 1))) := add_n (by omega)
    obtain ⟨k6, hk6⟩ : ∃ k, binV .add (iv (n2 6)) (AV.int .i64 (.ofNat 1)) = some (iv k) := ⟨_, add_w _ _⟩
    have hmem : ∀ p, p ∈ s → p ∈ (b4, HO.r false [stRow v2 n2 false] 25) :: (b2, HO.r false [zSt] 25) :: (M2 ++ (ow ++ own o2 s)) := fun p hp => List.mem_cons_of_mem _ (List.mem_cons_of_mem _ (List.mem_append_right _ (List.mem_append_right _ (own_t hp))))
    have k2 := hb1.mono hmem
    refine Vr (k := WO.r (.ia e hn) (Vr (k := WP.cond rfl (fun hlt2 => ?_) (fun hlt2 => ?_))))
    · have hlt' : j < D[i].2.length := Int.ofNat_lt.1 (of_decide_eq_true hlt2)
      obtain ⟨bq, rq, nq, cq, slq, roq, Mq, e2, hbq, hnq, hMq⟩ := ha.at hlt'
      obtain ⟨x, hx⟩ := (hIT _ (List.getElem_mem hlt')).n1
      rw [List.getElem?_eq_getElem hlt', hx] at hMq
      have k3 := hbq.mono hmem
      refine Vr (k := WO.r (.ia e hn) (Vr (k := WO.r (.ia e2 hnq) (Vr (k := WO.g2 rfl ?_ ?_)))))
      · refine Vr (k := ?_)
        exact WP.ret (Fin.mk (.ce t41) ⟨fun _ => nilS, fun _ => 0, false, c0, 2, rfl, src0, fun h => absurd h (by decide), (Up.app (Up.app upOwn)).cons.cons⟩)
      refine Vr (k := WO.r (.ia e hn) (Vr (k := WO.r (.ia e2 hnq) (Vr (k := WP.cond rfl (fun _ => ?_) (fun _ => ?_))))))
      · refine Vr (k := ?_)
        exact WP.ret (Fin.mk (.ce t41) ⟨fun _ => nilS, fun _ => 0, false, c0, 2, rfl, src0, fun h => absurd h (by decide), (Up.app (Up.app upOwn)).cons.cons⟩)
      refine Vr (k := WP.drawn1 fun b79 => Vr (k := WD.pu (.ia e hn) (Vr (k := WD.pu (.ia e2 hnq) (Vr (k := WD.al (.bslice (bsrows1 rfl rfl) rfl) rfl ?_))))))
      refine WD.ch (.yes (show bit 32767 14 = true from rfl) rfl .here .nil) (WS.own1 (f := 1) (o1 := []) (r := [iv (n2 6), iv x, iv (.ofNat i), iv (.ofNat i), iv 0, .bool false, .bool false, .bool false, iv 0, iv 0, iv 0, iv 0, .bool false]) (a := nilS) (I := []) hO2.ob (by decide) .nil (by omega) (by decide) pm48 fun w1 o1 m1 s1 hw1 hp1 => ?_)
      have q1 := hw1.one
      refine Vr (k := WD.ch .nil (WS.pre (pm49 hp1) (WS.store rfl rfl q1 .here rfl rfl (Vr (k := ?_)))))
      refine WO.a (.bslice (bsrows1 rfl rfl) rfl) fun b85 => ?_
      refine WO.w (WS.pre pm50 (WS.append_gre (N := [[iv (n2 6)]]) rfl hGl rfl (Src.all .here) (by decide) (by simp; omega) (by decide) fun w2 ow2 j2 hG2 => ?_))
      refine WO.pre pm51 (Vr (k := ?_))
      refine ⟨D[i].2.length - (j + 1), by omega, rfl, j + 1, upd v2 1 w1, upd n2 6 k6, _, upd o2 1 o1, _, w2, _, ow2, rfl, hlt', ?_, ?_, hO2.u1 hw1, hG2, by simp [hLl], fun r hr => ?_, .refl _, sbs⟩
      · exact hI2.obj (by omega) hlt okr rfl
      · simp; omega
      · rcases List.mem_append.1 hr with h | h
        · exact hTl r h
        · rw [List.mem_singleton.1 h]; exact okr
    · have hje : j = D[i].2.length := by have := of_decide_eq_false hlt2; simp at this; omega
      have pw := hGl.one
      refine WP.exit (Vr (k := WO.a (.bslice (bsrows1 rfl pw) rfl) fun b94 => ?_))
      refine WO.w (WS.own1 (f := 2) (m := (b4, HO.r false [stRow v2 n2 false] 25) :: (b2, HO.r false [zSt] 25) :: M2) (r := []) hO2.lb (by decide) hGl.toS (by have := hI2.lb.2; omega) (by decide) (.refl _) fun w3 o3 m3 s3 hw3 hp3 => ?_)
      have q3 := hw3.one
      refine WO.pre (pm47 hp3) (Vr (k := WO.w (WS.store rfl rfl q3 .here rfl rfl (Vr (k := WO.a (.bslice (bsrows1 rfl rfl) rfl) fun b99 => ?_)))))
      have hO3 := hO2.u2 hw3
      refine WO.w (WS.own1 (f := 3) (m := (b4, HO.r false [stRow (upd v2 2 w3) n2 false] 25) :: (b2, HO.r false [zSt] 25) :: (m3 ++ M2)) (r := []) (a := nilS) (I := []) (o1 := []) hO3.hd (by decide) .nil (by have := hI2.hd.2; show c2.hd.length ≤ _; omega) (by decide) (.refl _) fun w4 o4 m4 s4 hw4 hp4 => ?_)
      have q4 := hw4.one
      refine WO.pre (pm47 hp4) (Vr (k := WO.w (WS.store rfl rfl q4 .here rfl rfl (Vr (k := WO.a (.bslice (bsrows1 rfl rfl) rfl) fun b104 => ?_)))))
      have hO4 := hO3.u3 hw4
      refine WO.w (WS.own1 (f := 4) (m := (b4, HO.r false [stRow (upd (upd v2 2 w3) 3 w4) n2 false] 25) :: (b2, HO.r false [zSt] 25) :: (m4 ++ (m3 ++ M2))) (r := []) (a := nilS) (I := []) (o1 := []) hO4.gr (by decide) .nil (by have := hI2.gr.2; show c2.gr.length ≤ _; omega) (by decide) (.refl _) fun w5 o5 m5 s5 hw5 hp5 => ?_)
      have q5 := hw5.one
      refine WO.pre (pm47 hp5) (Vr (k := WO.w (WS.store rfl rfl q5 .here rfl rfl (Vr (k := WO.a (.bslice (bsrows1 rfl rfl) rfl) fun b109 => ?_)))))
      have hO5 := hO4.u4 hw5
      refine WO.w (WS.own1 (f := 5) (m := (b4, HO.r false [stRow (upd (upd (upd v2 2 w3) 3 w4) 4 w5) n2 false] 25) :: (b2, HO.r false [zSt] 25) :: (m5 ++ (m4 ++ (m3 ++ M2)))) (r := []) (a := nilS) (I := []) (o1 := []) hO5.ex (by decide) .nil (by have := hI2.ex.2; show c2.ex.length ≤ _; omega) (by decide) (.refl _) fun w6 o6 m6 s6 hw6 hp6 => ?_)
      have q6 := hw6.one
      refine WO.pre (pm47 hp6) (Vr (k := WO.w (WS.store rfl rfl q6 .here rfl rfl (Vr (k := ?_)))))
      have hO6 := hO5.u5 hw6
      have zl : ∀ {C : Cn}, CnT 100 [] [.i] C ∧ C.length = i → CnT 100 [] [.i] (C ++ [([], [])]) ∧ (C ++ [([], ([] : List (List AV)))]).length = i + 1 := fun h => ⟨h.1.snocB (by omega) OkR.nil (Nat.zero_le _) (fun q h => by cases h), by simp [h.2]⟩
      refine ⟨D.length - (i + 1), by omega, rfl, i + 1, _, n2, _, _, _, rfl, hlt, ?_, ?_, hO6, .refl _, sbs⟩
      · exact ⟨hI2.pl, hI2.ob, hI2.ow, ⟨hI2.lb.1.snocB (by have := hI2.lb.2; omega) OkR.nil (by omega) hTl, by simp [hI2.lb.2]⟩, zl hI2.hd, zl hI2.gr, zl hI2.ex, hI2.fi, hI2.st, hI2.wa, hI2.kt⟩
      · show c2.ob.length ≤ _
        omega
  · have hie : i = D.length := by have := of_decide_eq_false hlt0; simp at this; omega
    subst hie
    refine WP.exit (Vr (k := ?_))
    refine WP.ret (Fin.mk (.ce t41) ?_)
    exact ⟨v', n', false, c', 0, rfl, hO.src.mono fun p hp => List.mem_cons_of_mem _ (List.mem_cons_of_mem _ (List.mem_append_right _ hp)), fun _ => ⟨D.length, hI.scT (by omega)⟩, (Up.app upOwn).cons.cons⟩
end
end Go.Ev
set_option maxHeartbeats 16000000
set_option maxRecDepth 100000
namespace Go.Ev
section
variable {P : Program} {K : Orc} {rd : Option Nat} {nt : Nat} {l : Sl} {ds : List ADef} {s : SH} {Q Qn Qr : Po} {Qe : Nat → Po} {F : Nat → FuncId} {T : Nat → TypeId}
def Rw (k : Int) (w : AV) : Prop := ∃ (y : AV) (a : Nat → Int) (b : Nat → Bool), w = .agg [y, .bool (b 0), iv (a 0), iv (a 1), .bool (b 1), iv (a 2), iv (a 3), .bool (b 2), iv (a 4), iv (a 5), .bool (b 3), iv (a 6), iv (a 7), .bool (b 4), .bool (b 5)] ∧ (k = 8 → b 1 = true ∧ a 2 = 0 ∧ a 3 = 3)
theorem Rw.mk' {k : Int} {y : AV} {a0 a1 a2 a3 a4 a5 a6 a7 : Int} {b0 b1 b2 b3 b4 b5 : Bool} (h : k = 8 → b1 = true ∧ a2 = 0 ∧ a3 = 3) : Rw k (.agg [y, .bool b0, iv a0, iv a1, .bool b1, iv a2, iv a3, .bool b2, iv a4, iv a5, .bool b3, iv a6, iv a7, .bool b4, .bool b5]) :=
  ⟨y, fun i => [a0, a1, a2, a3, a4, a5, a6, a7].getD i 0, fun i => [b0, b1, b2, b3, b4, b5].getD i false, rfl, h⟩
theorem tail641 (hR : BaseR12 P K F T) (t542 : Ty P (T 542) 3) (t545 : Ty P (T 545) 15) {k : Int} (hk : k ≠ 8) : Tri P K (F 641) [iv k] s (fun w s' => (∃ r q, w = .tuple [r, .bool q] ∧ Rw k r) ∧ Up s s') := by
  refine hR.f641.tri ?_
  unfold a641
  refine Vr (k := fun b2 => Vr (k := fun b4 => ?_))
  repeat' (refine Vr (k := ?_); first
    | exact WP.ret (Fin.mk (.ce t545) ⟨⟨_, _, rfl, Rw.mk' fun h => absurd h hk⟩, by repeat (first | exact Up.rfl | apply Up.cons | apply Up.app)⟩)
    | refine WP.cond rfl (fun _ => ?_) (fun _ => ?_)
    | refine WD.lk rfl .nil .ld ?_
    | (refine WD.ch .nil (WS.cl (player637 hR t542) ?_); rintro _ _ ⟨rfl, m, rfl⟩)
    | (refine WD.ch .nil (WS.cl (truth638 hR t542) ?_); rintro _ _ ⟨rfl, m, rfl⟩)
    | (refine WD.ch .nil (WS.cl (id639 hR t542) ?_); rintro _ _ ⟨rfl, m, rfl⟩)
    | (refine WD.ch .nil (WS.cl (big640 hR t542) ?_); rintro _ _ ⟨⟨x, y, rfl⟩, m, rfl⟩)
    | (refine WD.ch .nil (WS.cl (most644 hR) ?_); rintro _ _ ⟨rfl, rfl⟩)
    | (refine WD.ch .nil (WS.cl (to634 hR t542) ?_); rintro _ _ ⟨rfl, m, rfl⟩)
    | refine WD.ch .nil (WS.st ?_)
    | (refine WO.w (WS.cl (player637 hR t542) ?_); rintro _ _ ⟨rfl, m, rfl⟩)
    | (refine WO.w (WS.cl (truth638 hR t542) ?_); rintro _ _ ⟨rfl, m, rfl⟩)
    | (refine WO.w (WS.cl (id639 hR t542) ?_); rintro _ _ ⟨rfl, m, rfl⟩)
    | (refine WO.w (WS.cl (big640 hR t542) ?_); rintro _ _ ⟨⟨x, y, rfl⟩, m, rfl⟩)
    | (refine WO.w (WS.cl (most644 hR) ?_); rintro _ _ ⟨rfl, rfl⟩)
    | (refine WO.w (WS.cl (to634 hR t542) ?_); rintro _ _ ⟨rfl, m, rfl⟩)
    | refine WD.nil .nil ?_ (by repeat' (first | refine obn (by decide) rfl ?_ | refine obc ?_ ?_ | refine WRn.u rfl .ld ?_ | exact WRn.z | exact fun o h => nomatch h)))
end
end Go.Ev
set_option maxHeartbeats 32000000
set_option maxRecDepth 100000
namespace Go.Ev
section
variable {P : Program} {K : Orc} {rd : Option Nat} {nt : Nat} {l : Sl} {ds : List ADef} {s : SH} {Q Qn Qr : Po} {Qe : Nat → Po} {F : Nat → FuncId} {T : Nat → TypeId}
theorem table631 (hR : BaseR12 P K F T) (t542 : Ty P (T 542) 3) (t545 : Ty P (T 545) 15) {k : Int} : Tri P K (F 631) [iv k] s (fun w s' => (∃ r q, w = .tuple [r, .bool q] ∧ Rw k r) ∧ Up s s') := by
  refine hR.f631.tri ?_
  unfold a631
  by_cases hk : k = 8
  · subst hk
    refine Vr (k := fun b2 => Vr (k := fun b4 => ?_))
    repeat' (refine Vr (k := ?_); first
      | exact WP.ret (Fin.mk (.ce t545) ⟨⟨_, _, rfl, Rw.mk' fun _ => ⟨rfl, rfl, rfl⟩⟩, by repeat (first | exact Up.rfl | apply Up.cons | apply Up.app)⟩)
      | refine WP.cond rfl (fun _ => ?_) (fun _ => ?_)
      | refine WD.lk rfl .nil .ld ?_
      | (refine WD.ch .nil (WS.cl (player637 hR t542) ?_); rintro _ _ ⟨rfl, m, rfl⟩)
      | (refine WD.ch .nil (WS.cl (truth638 hR t542) ?_); rintro _ _ ⟨rfl, m, rfl⟩)
      | (refine WD.ch .nil (WS.cl (id639 hR t542) ?_); rintro _ _ ⟨rfl, m, rfl⟩)
      | (refine WD.ch .nil (WS.cl (big640 hR t542) ?_); rintro _ _ ⟨⟨x, y, rfl⟩, m, rfl⟩)
      | (refine WD.ch .nil (WS.cl (most644 hR) ?_); rintro _ _ ⟨rfl, rfl⟩)
      | (refine WD.ch .nil (WS.cl (to634 hR t542) ?_); rintro _ _ ⟨rfl, m, rfl⟩)
      | refine WD.ch .nil (WS.st ?_)
      | (refine WO.w (WS.cl (player637 hR t542) ?_); rintro _ _ ⟨rfl, m, rfl⟩)
      | (refine WO.w (WS.cl (truth638 hR t542) ?_); rintro _ _ ⟨rfl, m, rfl⟩)
      | (refine WO.w (WS.cl (id639 hR t542) ?_); rintro _ _ ⟨rfl, m, rfl⟩)
      | (refine WO.w (WS.cl (big640 hR t542) ?_); rintro _ _ ⟨⟨x, y, rfl⟩, m, rfl⟩)
      | (refine WO.w (WS.cl (most644 hR) ?_); rintro _ _ ⟨rfl, rfl⟩)
      | (refine WO.w (WS.cl (to634 hR t542) ?_); rintro _ _ ⟨rfl, m, rfl⟩)
      | refine WD.nil .nil ?_ (by repeat' (first | refine obn (by decide) rfl ?_ | refine obc ?_ ?_ | refine WRn.u rfl .ld ?_ | exact WRn.z | exact fun o h => nomatch h)))
  · refine Vr (k := fun b2 => Vr (k := fun b4 => ?_))
    repeat' (refine Vr (k := ?_); first
      | exact WP.ret (Fin.mk (.ce t545) ⟨⟨_, _, rfl, Rw.mk' fun h => absurd h hk⟩, by repeat (first | exact Up.rfl | apply Up.cons | apply Up.app)⟩)
      | refine WP.cond rfl (fun _ => ?_) (fun _ => ?_)
      | refine WD.lk rfl .nil .ld ?_
      | (refine WD.ch .nil (WS.cl (player637 hR t542) ?_); rintro _ _ ⟨rfl, m, rfl⟩)
      | (refine WD.ch .nil (WS.cl (truth638 hR t542) ?_); rintro _ _ ⟨rfl, m, rfl⟩)
      | (refine WD.ch .nil (WS.cl (id639 hR t542) ?_); rintro _ _ ⟨rfl, m, rfl⟩)
      | (refine WD.ch .nil (WS.cl (big640 hR t542) ?_); rintro _ _ ⟨⟨x, y, rfl⟩, m, rfl⟩)
      | (refine WD.ch .nil (WS.cl (most644 hR) ?_); rintro _ _ ⟨rfl, rfl⟩)
      | (refine WD.ch .nil (WS.cl (to634 hR t542) ?_); rintro _ _ ⟨rfl, m, rfl⟩)
      | refine WD.ch .nil (WS.st ?_)
      | (refine WO.w (WS.cl (tail641 hR t542 t545 hk) ?_); rintro _ s9 ⟨⟨r, q, rfl, y, a, b, rfl, -⟩, m, hp⟩; refine WO.pre hp ?_)
      | (refine WO.w (WS.cl (player637 hR t542) ?_); rintro _ _ ⟨rfl, m, rfl⟩)
      | (refine WO.w (WS.cl (truth638 hR t542) ?_); rintro _ _ ⟨rfl, m, rfl⟩)
      | (refine WO.w (WS.cl (id639 hR t542) ?_); rintro _ _ ⟨rfl, m, rfl⟩)
      | (refine WO.w (WS.cl (big640 hR t542) ?_); rintro _ _ ⟨⟨x, y, rfl⟩, m, rfl⟩)
      | (refine WO.w (WS.cl (most644 hR) ?_); rintro _ _ ⟨rfl, rfl⟩)
      | (refine WO.w (WS.cl (to634 hR t542) ?_); rintro _ _ ⟨rfl, m, rfl⟩)
      | refine WD.nil .nil ?_ (by repeat' (first | refine obn (by decide) rfl ?_ | refine obc ?_ ?_ | refine WRn.u rfl .ld ?_ | exact WRn.z | exact fun o h => nomatch h)))
theorem targets633 (hR : BaseR12 P K F T) (t542 : Ty P (T 542) 3) {k : Int} {e : Nat → Int} {lv tv w : AV} {Ll Lt : List (List AV)} (hl : Src s 1 lv Ll) (ht : Src s 2 tv Lt) (h1 : Lt.length ≤ 1000) (hT : ∀ r ∈ Lt, OkR [] rTg r) (hw : Rw k w) : Tri P K (F 633) [.agg (evRow e lv tv), w] s (fun w s' => (∃ q, w = .bool q) ∧ Up s s') := by
  obtain ⟨y, a, b, rfl, -⟩ := hw
  refine hR.f633.tri ?_
  unfold a633
  have p1 := hl.one
  have p2 := ht.one
  refine Vr (k := fun b2 => Vr (k := fun b3 => ?_))
  have hs1 : ∀ p, p ∈ s → p ∈ (b3, HO.r false [[y, .bool (b 0), iv (a 0), iv (a 1), .bool (b 1), iv (a 2), iv (a 3), .bool (b 2), iv (a 4), iv (a 5), .bool (b 3), iv (a 6), iv (a 7), .bool (b 4), .bool (b 5)]] 15) :: (b2, HO.r false [evRow e lv tv] 13) :: s := fun p hp => by simp [hp]
  have hz := fun {s' : SH} => zero642 (s := s') hR (a := fun i => e (i + 5)) ht.lenOf p2
  have hit := fun {s' : SH} (h : Src s' 2 tv Lt) => item643 (s := s') hR t542 (a := fun i => e (i + 5)) h h1 hT
  repeat' (refine Vr (k := ?_); first
    | exact ⟨⟨_, rfl⟩, by repeat (first | exact Up.rfl | apply Up.cons | apply Up.app)⟩
    | exact ⟨⟨_, rfl⟩, (Up.rfl.cons.cons).trans hU⟩
    | refine WP.cond rfl (fun _ => ?_) (fun _ => ?_)
    | refine WO.g2 rfl ?_ ?_
    | (refine WO.w (WS.cl hz ?_); rintro _ _ ⟨⟨q, rfl⟩, m, rfl⟩)
    | (refine WO.w (WS.cl (hit (ht.mono hs1)) ?_); rintro _ s9 ⟨⟨q, rfl⟩, m, hp⟩; refine WO.pre hp ?_)
    | (refine WO.w (WS.cl (hit ((ht.mono hs1).mono fun p hp => List.mem_append_right _ hp)) ?_); rintro _ s9 ⟨⟨q, rfl⟩, m, hp⟩; refine WO.pre hp ?_))
end
end Go.Ev
set_option maxHeartbeats 32000000
set_option maxRecDepth 100000
namespace Go.Ev
section
variable {P : Program} {K : Orc} {rd : Option Nat} {nt : Nat} {l : Sl} {ds : List ADef} {s : SH} {Q Qn Qr : Po} {Qe : Nat → Po} {F : Nat → FuncId} {T : Nat → TypeId}
theorem check613 (hR : BaseR12 P K F T) (t542 : Ty P (T 542) 3) (t545 : Ty P (T 545) 15) : ChkOk P K (F 613) := by
  intro s e lv tv Ll Lt hl ht hl1 ht1 hlT htT
  refine hR.f613.tri ?_
  unfold a613
  have p1 := hl.one
  have p2 := ht.one
  have q1 := hl.lenOf
  have q2 := ht.lenOf
  have good : ∀ {a : Nat → Int} {b : Nat → Bool}, (e 0 = 8 → b 1 = true ∧ a 2 = 0 ∧ a 3 = 3) → (true = true → b 1 = true → a 2 ≤ e 2 ∧ e 2 ≤ a 3) → e 0 = 8 → ∃ j : Nat, e 2 = Int.ofNat j ∧ j < 4 := fun {a b} hw h h8 => by
    obtain ⟨g1, g2, g3⟩ := hw h8
    obtain ⟨h1, h2⟩ := h rfl g1
    rw [g2] at h1
    rw [g3] at h2
    obtain ⟨j, hj⟩ := Int.eq_ofNat_of_zero_le h1
    exact ⟨j, hj, by rw [hj] at h2; exact Nat.lt_succ_of_le (Int.ofNat_le.1 h2)⟩
  refine Vr (k := fun b1 => ?_)
  repeat' (refine Vr (k := ?_); first
    | exact ⟨⟨3, rfl, fun h => absurd h (by decide)⟩, Up.rfl.cons⟩
    | refine WP.cond rfl (fun _ => ?_) (fun _ => ?_)
    | refine WO.g2 rfl ?_ ?_)
  refine Vr (k := WO.w (WS.cl (table631 hR t542 t545) ?_))
  rintro _ s2 ⟨⟨r, q, rfl, y, a, b, rfl, hw⟩, m, hp⟩
  refine WO.pre hp ?_
  refine WO.r (.mv rfl) (WO.r (.extract rfl rfl) (WO.r (.extract rfl rfl) (WO.a (.alloc rfl) fun b3 => WO.w (WS.st (WO.r (.mv rfl) (WO.nil ?_))))))
  refine WP.mid (fun l s' => ∃ q4, lk l 4 = some (.bool q4) ∧ Has b1 (.r false [evRow e lv tv] 13) s' ∧ Has b3 (.r false [[y, .bool (b 0), iv (a 0), iv (a 1), .bool (b 1), iv (a 2), iv (a 3), .bool (b 2), iv (a 4), iv (a 5), .bool (b 3), iv (a 6), iv (a 7), .bool (b 4), .bool (b 5)]] 15) s' ∧ Up s s' ∧ (q4 = true → e 0 = 8 → ∃ j : Nat, e 2 = Int.ofNat j ∧ j < 4) ∧ ∀ j x, lk [(1, .ptr (some ⟨b1, 0, 0⟩)), (3, .ptr (some ⟨b3, 0, 0⟩)), (4, .bool q4)] j = some x → lk l j = some x) ?_ ?_
  · cases q
    all_goals
      repeat' (refine Vr (k := ?_); first
        | exact ⟨rfl, _, rfl, zP, zP, (by repeat (first | exact Up.rfl | apply Up.cons | apply Up.app)), (by first | (intro h; cases h; done) | exact fun _ => good hw (by assumption)), sbs⟩
        | refine WO.r (.iaddrAi (j := 0) rfl (by decide)) ?_
        | refine WO.r (.iaddrAi (j := 1) rfl (by decide)) ?_
        | refine WO.r (.iaddrAi (j := 2) rfl (by decide)) ?_
        | refine WO.r (.iaddrAi (j := 3) rfl (by decide)) ?_
        | (refine WO.w (WS.cl (in632 hR) ?_); rintro _ _ ⟨⟨q, rfl, h⟩, m, rfl⟩; cases q))
  rintro l s3 ⟨q, -, g1, g3, hU, hG, hlk⟩
  refine WP.weak hlk (fun _ _ h => h) ?_
  refine WP.mid (fun l s' => ∃ q4, lk l 4 = some (.bool q4) ∧ Has b1 (.r false [evRow e lv tv] 13) s' ∧ Up s s' ∧ (q4 = true → e 0 = 8 → ∃ j : Nat, e 2 = Int.ofNat j ∧ j < 4) ∧ ∀ j x, lk [(1, .ptr (some ⟨b1, 0, 0⟩)), (4, .bool q4)] j = some x → lk l j = some x) ?_ ?_
  · cases q
    · refine Vr (k := ?_)
      exact ⟨rfl, _, rfl, g1, hU, (fun h => nomatch h), sbs⟩
    · repeat' (refine Vr (k := ?_); first
        | exact ⟨rfl, _, rfl, (by assumption), (by assumption), (fun _ => hG rfl), sbs⟩
        | refine WO.g2 rfl ?_ ?_
        | (refine WO.w (WS.cl (targets633 hR t542 (k := 0) (hl.mono hU.mem) (ht.mono hU.mem) ht1 htT ⟨y, a, b, rfl, fun h => absurd h (by decide)⟩) ?_); rintro _ s9 ⟨⟨q9, rfl⟩, hU9⟩; have g1 := g1.mono hU9.mem; have hU := hU.trans hU9))
  rintro l s3 ⟨q, -, g1, hU, hG, hlk⟩
  refine WP.weak hlk (fun _ _ h => h) ?_
  refine Vr (k := ?_)
  refine WP.loop (fun k l ds s' => ds = [] ∧ ∃ i q, k = Ll.length - i ∧ i ≤ Ll.length ∧ Up s s' ∧ Has b1 (.r false [evRow e lv tv] 13) s' ∧ (q = true → e 0 = 8 → ∃ j : Nat, e 2 = Int.ofNat j ∧ j < 4) ∧ ∀ j x, lk [(1, .ptr (some ⟨b1, 0, 0⟩)), (4, .bool q), (5, .int .i64 (.ofNat i))] j = some x → lk l j = some x) ?_ (n := Ll.length - 0) ⟨rfl, 0, q, rfl, Nat.zero_le _, hU, g1, hG, sbs⟩
  clear hG hlk hU g1
  rintro k l ds s' ⟨rfl, i, q, rfl, hi, hU, g1, hG, hlk⟩
  refine WP.weak hlk (fun _ _ h => h) ?_
  have hadd : binV .add (AV.int .i64 (.ofNat i)) (AV.int .i64 (.ofNat 1)) = some (AV.int .i64 (.ofNat (i + 1))) := add_n (by omega)
  refine Vr (k := WP.cond rfl (fun hlt0 => ?_) (fun hlt0 => ?_))
  · have hlt : i < Ll.length := Int.ofNat_lt.1 (of_decide_eq_true hlt0)
    obtain ⟨b, r, n1, cc, sl, ro, M, el, hb1, hn, hM⟩ := hl.at hlt
    obtain ⟨x, hx⟩ := (hlT _ (List.getElem_mem hlt)).n1
    rw [List.getElem?_eq_getElem hlt, hx] at hM
    have k1 : Has b (.r ro M 1) s' := hb1.mono hU.mem
    cases q
    · repeat' (refine Vr (k := ?_); first
        | exact ⟨Ll.length - (i + 1), by omega, rfl, i + 1, false, rfl, hlt, hU, g1, (fun h => nomatch h), sbs⟩
        | refine WD.skipc rfl rfl ?_
        | refine WD.nil .nil ?_ (fun o h => nomatch h))
    · refine Vr (k := WD.lk rfl .nil .ld (Vr (k := WD.pu (.ia el hn) (Vr (k := WD.lk rfl .nil .ld (Vr (k := WD.ch .nil (WS.cl (to634 hR t542) ?_))))))))
      rintro _ _ ⟨rfl, m, rfl⟩
      refine Vr (k := WD.ch .nil (WS.cl (in632 hR) ?_))
      rintro _ _ ⟨⟨q, rfl, -⟩, m2, rfl⟩
      refine Vr (k := WD.nil .nil ?_ ?_)
      · refine Vr (k := ?_)
        exact ⟨Ll.length - (i + 1), by omega, rfl, i + 1, _, rfl, hlt, hU.app.app, .app (.app g1), (fun _ => hG rfl), sbs⟩
      · repeat' (first | refine obn (by decide) (sameN_i 5 _) ?_ | refine obn (by decide) (hl.sm 5) ?_ | refine obc ?_ ?_ | refine WRn.u rfl .ld ?_ | exact WRn.z | exact fun o h => nomatch h)
  · refine WP.exit ?_
    cases q
    · refine Vr (k := ?_)
      exact ⟨⟨2, rfl, fun h => absurd h (by decide)⟩, hU⟩
    · repeat' (refine Vr (k := ?_); first
        | exact ⟨⟨2, rfl, fun h => absurd h (by decide)⟩, hU⟩
        | exact ⟨⟨0, rfl, fun _ => hG rfl⟩, hU⟩
        | refine WO.g2 rfl ?_ ?_
        | refine WP.cond rfl (fun _ => ?_) (fun _ => ?_))
end
end Go.Ev
namespace Go.Ev
def Fit : AV → Prop
  | .slice _ n c _ _ => n ≤ c ∧ n ≤ 1048576
  | _ => True
end Go.Ev
set_option maxHeartbeats 8000000
namespace Go.Ev
section
variable {P : Program} {K : Orc} {rd : Option Nat} {nt : Nat} {l : Sl} {ds : List ADef} {s : SH} {Q Qn Qr : Po} {Qe : Nat → Po} {F : Nat → FuncId} {T : Nat → TypeId}
theorem slcSrc {s1 : SH} {sz : Nat} {a : AV} {L : List (List AV)} {x i : Operand} {q : IntKind} {j : Nat} (h : Src s sz a L) (hf : Fit a) (hj : j ≤ L.length) (hx : opl l x = some a := by exact rfl) (hi : opl l i = some (.int q (.ofNat j)) := by exact rfl) : ∃ w, WR P (.slc sz x none (some i) none) l s1 w ∧ Src s sz w (L.take j) := by
  cases h with
  | nil => exact ⟨_, .slc_to hx hi (Nat.le_trans hj (Nat.zero_le _)), by rw [Nat.le_zero.1 hj]; exact .nil⟩
  | zero => exact ⟨_, .slc_to hx hi (Nat.le_trans hj (Nat.zero_le _)), by rw [Nat.le_zero.1 hj]; exact .zero⟩
  | emp =>
    have h0 := Nat.le_zero.1 hj
    subst h0
    refine ⟨.empty, WR.mk' (fun _ _ _ _ _ => rfl) (fun e H he => ?_), .emp⟩
    simp only [aval, opl_ok he hx, bndO, opl_ok he hi, bnd]
  | @rows b r n c sl ro L0 hb hn =>
    have hl : j ≤ n := by rw [List.length_take] at hj; omega
    refine ⟨_, .slc_to hx hi (Nat.le_trans hl hf.1), ?_⟩
    rw [List.take_take, Nat.min_eq_left hl]
    exact .rows hb (by omega)
theorem mmN (n k : Nat) : lfold (mm false) [.int .i64 (.ofNat k)] (.int .i64 (.ofNat n)) = some (.int .i64 (.ofNat (min n k))) := by
  show some (AV.int .i64 (match ilt (.ofNat k) (.ofNat n) with | true => .ofNat k | false => .ofNat n)) = _
  rw [ilt_eq]
  by_cases h : k < n
  · rw [decide_eq_true (show Int.ofNat k < Int.ofNat n from Int.ofNat_lt.2 h), Nat.min_eq_right (by omega)]
  · rw [decide_eq_false (show ¬ Int.ofNat k < Int.ofNat n from fun g => h (Int.ofNat_lt.1 g)), Nat.min_eq_left (by omega)]
theorem SlT.ints {a : AV} {L : List (List AV)} (h : SlT s [.i] a L) : ∀ q ∈ L, OkR [] [.i] q := fun q hq => by
  obtain ⟨x, rfl⟩ := (h.2.2 q hq).n1
  exact okr
theorem pm60 {x : Nat × HO} {m w t : SH} : (x :: (m ++ (w ++ t))).Perm ((x :: m) ++ (w ++ t)) := .refl _
theorem pm61 {x : Nat × HO} {m w j t : SH} : (w ++ ((x :: m) ++ (j ++ t))).Perm ((x :: (m ++ j)) ++ (w ++ t)) := pm2
theorem cut551 (hL : BaseL P K F T) {v : AV} {LD : List (List AV)} (hv : SlT s [tI] v LD) (hF : ∀ row ∈ LD, ∀ a ∈ row, Fit a) : Tri P K (F 551) [v] s (fun w s' => ∃ D, SrcN s' 0 1 w D ∧ CnT 10 [] [.i] D ∧ D.length ≤ 5 ∧ Up s s') := by
  refine hL.f551.tri ?_
  unfold a551
  have hl := hv.len
  refine Vr (k := ?_)
  refine WP.loop (fun k l ds s' => ds = [] ∧ ∃ i w Lw ow m D, k = LD.length - i ∧ i ≤ LD.length ∧ i ≤ 5 ∧ GrE 1 w Lw ow ∧ RowsN s 1 Lw D ∧ D.length = i ∧ CnT 10 [] [.i] D ∧ s'.Perm (m ++ (ow ++ s)) ∧ ∀ j x, lk [(0, v), (3, w), (4, .int .i64 (.ofNat i))] j = some x → lk l j = some x) ?_ (n := LD.length - 0) ⟨rfl, 0, _, [], [], [], [], rfl, Nat.zero_le _, Nat.zero_le _, .nil, .nil, rfl, cnt0, .refl _, sbs⟩
  rintro k l ds s' ⟨rfl, i, w, Lw, ow, m, D, rfl, hi, hi5, hG, hN, hDl, hD, hp, hlk⟩
  refine WP.pre hp (WP.weak hlk (fun _ _ h => h) ?_)
  have hLw := hN.len
  have fin : ∀ {s' : SH}, s' = m ++ (ow ++ s) → ∃ D, SrcN s' 0 1 w D ∧ CnT 10 [] [.i] D ∧ D.length ≤ 5 ∧ Up s s' := fun h => ⟨D, ⟨Lw, hG.src fun p hp => by rw [h]; simp [hp], hN.mono fun p hp => by rw [h]; simp [hp]⟩, hD, by omega, by rw [h]; exact Up.rfl.app.app⟩
  by_cases hlt : i < LD.length
  · have f1 : binV .lss (AV.int .i64 (.ofNat i)) (AV.int .i64 (.ofNat LD.length)) = some (.bool true) := lss_t hlt
    by_cases h5 : i < 5
    · have f2 : binV .lss (AV.int .i64 (.ofNat i)) (AV.int .i64 (.ofNat 5)) = some (.bool true) := lss_t h5
      obtain ⟨b, r, n0, c, sl, ro, M, row, e, hb1, hn, hM, hrow, hmem⟩ := hv.at hlt
      obtain ⟨a, _, rfl, ha, hr0⟩ := hrow.inv
      cases hr0.nil_inv
      obtain ⟨I, hI⟩ := ha.sl
      have hfa : Fit a := hF _ hmem a (List.mem_singleton.2 rfl)
      have hmm := mmN I.length 10
      have hIl := hI.len
      have hadd : binV .add (AV.int .i64 (.ofNat i)) (AV.int .i64 (.ofNat 1)) = some (AV.int .i64 (.ofNat (i + 1))) := add_n (by omega)
      have k1 : Has b (.r ro M 1) (m ++ (ow ++ s)) := .app (.app hb1)
      have hIs : Src s 1 a I := hI.1
      refine Vr (k := WP.drawn1 fun b27 => Vr (k := WD.pu (.ia e hn) (Vr (k := WD.pu (.ia e hn) (Vr (k := WD.pu (.mmx rfl hmm) (WD.px (slcSrc hIs hfa (Nat.min_le_left _ _)) fun w1 hw1 => ?_)))))))
      have pw := hw1.one
      refine WD.al (.bslice (bsrows1 rfl pw) rfl) rfl ?_
      refine WD.ch (.yes (show bit 8191 12 = true from rfl) rfl .here .nil) (WS.pre pm60 (WS.append_gre (N := [[w1]]) rfl hG rfl (Src.all .here) (by decide) (by simp; omega) (by decide) fun w2 ow2 j2 hG2 => ?_))
      refine Vr (k := ?_)
      refine ⟨LD.length - (i + 1), by omega, rfl, i + 1, w2, Lw ++ [[w1]], ow2, _, D ++ [([], I.take (min I.length 10))], rfl, hlt, h5, hG2, hN.snoc (r := []) hw1, by simp [hDl], hD.snocB (by omega) OkR.nil (by rw [List.length_take]; omega) (fun q hq => hI.ints q (List.mem_of_mem_take hq)), pm61, sbs⟩
    · have f2 : binV .lss (AV.int .i64 (.ofNat i)) (AV.int .i64 (.ofNat 5)) = some (.bool false) := lss_f h5
      refine Vr (k := ?_)
      exact fin rfl
  · have f1 : binV .lss (AV.int .i64 (.ofNat i)) (AV.int .i64 (.ofNat LD.length)) = some (.bool false) := lss_f hlt
    refine Vr (k := ?_)
    exact fin rfl
theorem WS.append_emp {R : AV → List ADef → SH → Prop} {sz bytes b : Nat} {ss x : Operand} {xv : AV} {N : List (List AV)} (hb : Has b (.r false [] sz) s) (hN : Src s sz xv N) (hz : sz ≠ 0) (h1 : N.length ≤ 1000000000) (h2 : bytes ≤ 1000)
    (k : ∀ w m, Src m sz w N → R w ds (m ++ s)) (hs : opl l ss = some (.slice (some ⟨b, 0, 0⟩) 0 0 false sz) := by exact rfl) (hx : opl l x = some xv := by exact rfl) : WS P K (.append sz bytes ss x) l ds s R := by
  by_cases h0 : N = []
  · subst h0
    exact WS.append_none hs hx hN hz (Nat.le_refl _) (k _ [] .zero)
  · have hl := List.length_pos_iff.2 h0
    refine WS.append_new hs hb (Nat.le_refl _) hx hN hz (by omega) (by omega) h2 fun b2 => ?_
    have := k (.slice (some ⟨b2, 0, 0⟩) (0 + N.length) (0 + N.length) true sz) [(b2, .r false N sz)] (by rw [Nat.zero_add]; exact Src.all .here)
    exact this
theorem bounded553 (hL : BaseL P K F T) (t50 : Ty P (T 50) 13) {e : Nat → Int} {lv tv : AV} {Ll Lt : List (List AV)} (hl : Src s 1 lv Ll) (ht : Src s 2 tv Lt) (hfl : Fit lv) (hft : Fit tv) : Tri P K (F 553) [.agg (evRow e lv tv)] s (fun w s' => ∃ lv' tv', w = .agg (evRow e lv' tv') ∧ Src s' 1 lv' (Ll.take (min Ll.length 60)) ∧ Src s' 2 tv' (Lt.take (min Lt.length 4)) ∧ Up s s') := by
  refine hL.f553.tri ?_
  unfold a553
  have p1 := hl.one
  have p2 := ht.one
  have q1 := hl.lenOf
  have q2 := ht.lenOf
  have m1 := mmN Ll.length 60
  have m2 := mmN Lt.length 4
  refine Vr (k := fun b1 => Vr (k := fun b2 => Vr (k := ?_)))
  refine WO.a (.bslice (L := []) rfl rfl) fun b3 => ?_
  refine Vr (k := WO.r (.mmx rfl m1) (WO.rx (slcSrc hl hfl (Nat.min_le_left _ _)) fun w1 hw1 => ?_))
  refine WO.w (WS.append_emp .here (hw1.mono fun p hp => by simp [hp]) (by decide) (by rw [List.length_take]; omega) (by decide) fun w2 m3 hw2 => ?_)
  have r2 := hw2.one
  refine Vr (k := WO.w (WS.store rfl rfl r2 (.app (.there (.there .here))) rfl rfl (Vr (k := ?_))))
  refine WO.a (.bslice (L := []) rfl rfl) fun b13 => ?_
  refine Vr (k := WO.r (.mmx rfl m2) (WO.rx (slcSrc ht hft (Nat.min_le_left _ _)) fun w3 hw3 => ?_))
  refine WO.w (WS.append_emp .here (hw3.mono fun p hp => by simp [hp]) (by decide) (by rw [List.length_take]; omega) (by decide) fun w4 m4 hw4 => ?_)
  have r4 := hw4.one
  refine Vr (k := WO.w (WS.store rfl rfl r4 (.app (.there (.app (.there (.there .here))))) rfl rfl (Vr (k := ?_))))
  refine WP.ret (Fin.mk (.ce t50) ?_)
  exact ⟨w2, w4, rfl, hw2.mono (fun p hp => by simp [hp]), hw4.mono (fun p hp => by simp [hp]), Up.rfl.cons.cons.cons.app.cons.app⟩
end
end Go.Ev
set_option maxHeartbeats 8000000
namespace Go.Ev
section
variable {P : Program} {K : Orc} {rd : Option Nat} {nt : Nat} {l : Sl} {ds : List ADef} {s : SH} {Q Qn Qr : Po} {Qe : Nat → Po} {F : Nat → FuncId} {T : Nat → TypeId}
@[reducible] def rEv : List CT := [.i, .i, .i, .i, .i, tI, .i, .i, .i, .i, .i, .i, .s rTg]
theorem OkR.ev {r : List AV} (h : OkR s rEv r) : ∃ (e : Nat → Int) (lv tv : AV), r = evRow e lv tv ∧ OkV s tI lv ∧ OkV s (.s rTg) tv := by
  obtain ⟨a0, _, rfl, h1⟩ := h.invi
  obtain ⟨a1, _, rfl, h2⟩ := h1.invi
  obtain ⟨a2, _, rfl, h3⟩ := h2.invi
  obtain ⟨a3, _, rfl, h4⟩ := h3.invi
  obtain ⟨a4, _, rfl, h5⟩ := h4.invi
  obtain ⟨lv, _, rfl, hl, h6⟩ := h5.inv
  obtain ⟨a5, _, rfl, h7⟩ := h6.invi
  obtain ⟨a6, _, rfl, h8⟩ := h7.invi
  obtain ⟨a7, _, rfl, h9⟩ := h8.invi
  obtain ⟨a8, _, rfl, h10⟩ := h9.invi
  obtain ⟨a9, _, rfl, h11⟩ := h10.invi
  obtain ⟨a10, _, rfl, h12⟩ := h11.invi
  obtain ⟨tv, _, rfl, ht, h13⟩ := h12.inv
  cases h13.nil_inv
  exact ⟨fun i => [a0, a1, a2, a3, a4, a5, a6, a7, a8, a9, a10].getD i 0, lv, tv, rfl, hl, ht⟩
theorem SlT.tgs {a : AV} {L : List (List AV)} (h : SlT s rTg a L) : ∀ q ∈ L, OkR [] rTg q := fun q hq => by
  obtain ⟨x, _, rfl, h1⟩ := (h.2.2 q hq).invi
  obtain ⟨y, _, rfl, h2⟩ := h1.invi
  cases h2.nil_inv
  exact okr
def n25 : Nat × HO → Prop
  | (_, .r _ _ sz) => sz ≠ 25
  | _ => False
theorem Src.n25 {s' : SH} {sz : Nat} {v : AV} {L : List (List AV)} (h : Src s sz v L) (hz : sz ≠ 25) (hs : ∀ p, p ∈ s → Ev.n25 p → p ∈ s') : Src s' sz v L := by
  cases h with
  | nil => exact .nil
  | zero => exact .zero
  | emp => exact .emp
  | rows hb hn => exact .rows (.of_mem (hs _ hb.mem hz)) hn
theorem RowsN.n25 {s' : SH} {m : Nat} {L : List (List AV)} {C : Cn} (h : RowsN s m L C) (hz : m ≠ 25) (hs : ∀ p, p ∈ s → Ev.n25 p → p ∈ s') : RowsN s' m L C := by
  induction h with
  | nil => exact .nil
  | cons h _ ih => exact .cons (h.n25 hz hs) ih
theorem SrcN.n25 {s' : SH} {k m : Nat} {v : AV} {C : Cn} (h : SrcN s k m v C) (hk : k + 1 ≠ 25) (hz : m ≠ 25) (hs : ∀ p, p ∈ s → Ev.n25 p → p ∈ s') : SrcN s' k m v C := by
  obtain ⟨L, h1, h2⟩ := h
  exact ⟨L, h1.n25 hk hs, h2.n25 hz hs⟩
theorem SrcS.n25 {s' : SH} {v : Nat → AV} {c : SC} (h : SrcS s v c) (hs : ∀ p, p ∈ s → Ev.n25 p → p ∈ s') : SrcS s' v c :=
  ⟨h.pl.n25 (by decide) hs, h.ob.n25 (by decide) (by decide) hs, h.lb.n25 (by decide) (by decide) hs, h.hd.n25 (by decide) (by decide) hs, h.gr.n25 (by decide) (by decide) hs, h.ex.n25 (by decide) (by decide) hs, h.fi.n25 (by decide) hs, h.st.n25 (by decide) (by decide) hs, h.wa.n25 (by decide) (by decide) hs, h.kt.n25 (by decide) hs⟩
theorem SrcN.sm {k m : Nat} {v : AV} {C : Cn} (h : SrcN s k m v C) (n : Nat) : sameN (n + 1) v v = true := by
  obtain ⟨L, h1, -⟩ := h
  exact h1.sm n
theorem bool_sm (b : Bool) (n : Nat) : sameN (n + 1) (.bool b) (.bool b) = true := by simp [sameN, same0]
theorem SrcS.sm {v : Nat → AV} {n : Nat → Int} {py : Bool} {c : SC} (h : SrcS s v c) : sameV (.agg (stRow v n py)) (.agg (stRow v n py)) = true := by
  show sameL (sameN 5) (stRow v n py) (stRow v n py) = true
  simp only [sameL, h.pl.sm 4, h.ob.sm 4, h.lb.sm 4, h.hd.sm 4, h.gr.sm 4, h.ex.sm 4, h.fi.sm 4, h.st.sm 4, h.wa.sm 4, h.kt.sm 4, sameN_i, bool_sm, Bool.and_true]
theorem parts25 {v : Nat → AV} {n : Nat → Int} {py : Bool} : partCells 25 (.agg (stRow v n py)) = some (stRow v n py) := rfl
theorem Tri.flat {f : FuncId} {args : List AV} {R : AV → SH → Prop} (h : Tri P K f args s (fun w s' => R w s' ∧ Up s s')) (hm : ∀ w s1 s2, s1.Perm s2 → R w s1 → R w s2) : Tri P K f args s (fun w s' => (∃ m, s' = m ++ s) ∧ R w s') := by
  intro H0 H hH
  obtain ⟨w, s', H', h1, h2, h3, m, h4⟩ := h H0 H hH
  exact ⟨w, _, H', h1, h2.perm h4, ⟨m, rfl⟩, hm _ _ _ h4 h3⟩
theorem pm62 {x y : Nat × HO} {a b t : SH} : (y :: (a ++ (b ++ (x :: t)))).Perm (x :: y :: (a ++ (b ++ t))) := pm2
theorem pm63 {x y z : Nat × HO} {a b t : SH} : (a ++ (b ++ (z :: x :: y :: t))).Perm (x :: y :: (a ++ (b ++ (z :: t)))) := pm2
theorem played502 (hL : BaseL P K F T) (hR : BaseR12 P K F T) (t41 : Ty P (T 41) 25) (t50 : Ty P (T 50) 13) (hChk : ChkOk P K (F 613)) {v ve : AV} {LD LE : List (List AV)} (hv : SlT s [tI] v LD) (hF : ∀ row ∈ LD, ∀ a ∈ row, Fit a) (he : SlT s rEv ve LE) (hG : ∀ row ∈ LE, ∀ a ∈ row, Fit a) :
    Tri P K (F 502) [v, ve] s (fun w s' => ∃ v' n py c b, w = .tuple [.agg (stRow v' n py), .bool b] ∧ SrcS s' v' c ∧ (b = true → ∃ N, ScT 180 N c) ∧ Up s s') := by
  refine hL.f502.tri ?_
  unfold a502
  refine Vr (k := fun b4 => Vr (k := WO.w (WS.cl (Tri.flat (R := fun w s' => ∃ D, SrcN s' 0 1 w D ∧ CnT 10 [] [.i] D ∧ D.length ≤ 5) ((cut551 hL (hv.mono fun p hp => by simp [hp]) hF).post ?_) ?_) ?_)))
  · rintro w s' ⟨D, h1, h2, h3, h4⟩
    exact ⟨⟨D, h1, h2, h3⟩, h4⟩
  · rintro w s1 s2 hp ⟨D, h1, h2, h3⟩
    exact ⟨D, h1.mono fun p hq => hp.subset hq, h2, h3⟩
  rintro w1 _ ⟨⟨m1, rfl⟩, D, hD1, hD2, hD5⟩
  refine WO.w (WS.cl (Tri.flat (R := fun w s' => ∃ v' n py c k, w = .tuple [.agg (stRow v' n py), iv k] ∧ SrcS s' v' c ∧ (k = 0 → ∃ N, ScT 100 N c)) ((start550 hR t41 hD1 hD2 hD5).post ?_) ?_) ?_)
  · rintro w s' ⟨v', n, py, c, k, h1, h2, h3, h4⟩
    exact ⟨⟨v', n, py, c, k, h1, h2, h3⟩, h4⟩
  · rintro w s1 s2 hp ⟨v', n, py, c, k, h1, h2, h3⟩
    exact ⟨v', n, py, c, k, h1, h2.mono fun p hq => hp.subset hq, h3⟩
  rintro _ _ ⟨⟨m2, rfl⟩, v', n, py, c, k, rfl, hS, hc⟩
  refine Vr (k := fun b6 => ?_)
  have hU0 : Up s (m2 ++ (m1 ++ ((b4, HO.r false [zSt] 25) :: s))) := Up.rfl.cons.app.app
  by_cases hk : k = 0
  · have hk0 := eqk (k := 0) hk
    obtain ⟨N, hN⟩ := hc hk
    have hle := he.len
    refine WO.w (WS.store rfl rfl parts25 .here rfl rfl (Vr (k := ?_)))
    refine WP.pre (s' := (b4, .r false [zSt] 25) :: (b6, .r false [stRow v' n py] 25) :: (m2 ++ (m1 ++ s))) pm62 ?_
    refine WP.loop (fun k l ds s' => ds = [] ∧ ∃ i v n py c X, k = LE.length - i ∧ i ≤ LE.length ∧ i ≤ 40 ∧ SrcS X v c ∧ ScT (100 + 2 * i) N c ∧ Up s X ∧ s'.Perm ((b4, .r false [zSt] 25) :: (b6, .r false [stRow v n py] 25) :: X) ∧ ∀ j x, lk [(1, ve), (4, .ptr (some ⟨b4, 0, 0⟩)), (6, .ptr (some ⟨b6, 0, 0⟩)), (8, .int .i64 (.ofNat i))] j = some x → lk l j = some x) ?_ (n := LE.length - 0) ⟨rfl, 0, v', n, py, c, _, rfl, Nat.zero_le _, Nat.zero_le _, hS.n25 ?_, hN, Up.rfl.app.app, .refl _, sbs⟩
    · rintro k l ds s' ⟨rfl, i, v, n, py, c, X, rfl, hi, hi40, hS, hN, hX, hp, hlk⟩
      refine WP.pre hp (WP.weak hlk (fun _ _ h => h) ?_)
      have hadd : binV .add (AV.int .i64 (.ofNat i)) (AV.int .i64 (.ofNat 1)) = some (AV.int .i64 (.ofNat (i + 1))) := add_n (by omega)
      by_cases hgo : i < LE.length ∧ i < 40
      · obtain ⟨hlt, h40⟩ := hgo
        have f1 : binV .lss (AV.int .i64 (.ofNat i)) (AV.int .i64 (.ofNat LE.length)) = some (.bool true) := lss_t hlt
        have f2 : binV .lss (AV.int .i64 (.ofNat i)) (AV.int .i64 (.ofNat 40)) = some (.bool true) := lss_t h40
        obtain ⟨b, r, n0, cc, sl, ro, M, row, e, hb1, hn, hM, hrow, hmem⟩ := he.at hlt
        obtain ⟨ee, lv, tv, rfl, hlv, htv⟩ := hrow.ev
        obtain ⟨Ll, hLl⟩ := hlv.sl
        obtain ⟨Lt, hLt⟩ := htv.sl
        have k1 : Has b (.r ro M 13) X := hb1.mono hX.mem
        refine Vr (k := WP.drawn1 fun b9 => Vr (k := WD.lk rfl .nil .ld (Vr (k := WD.pu (.ia e hn) (Vr (k := ?_))))))
        have hs0 : ∀ p, p ∈ s → p ∈ (b9, HO.gone) :: (b4, .r false [zSt] 25) :: (b6, .r false [stRow v n py] 25) :: X := fun p hp => by simp [hX.mem p hp]
        refine WD.ch .nil (WS.cl (Tri.flat (R := fun w s' => ∃ lv' tv', w = .agg (evRow ee lv' tv') ∧ Src s' 1 lv' (Ll.take (min Ll.length 60)) ∧ Src s' 2 tv' (Lt.take (min Lt.length 4))) ((bounded553 hL t50 (hLl.1.mono hs0) (hLt.1.mono hs0) (hG _ hmem _ (by simp)) (hG _ hmem _ (by simp))).post ?_) ?_) ?_)
        · rintro w s' ⟨a, b, h1, h2, h3, h4⟩
          exact ⟨⟨a, b, h1, h2, h3⟩, h4⟩
        · rintro w s1 s2 hp ⟨a, b, h1, h2, h3⟩
          exact ⟨a, b, h1, h2.mono fun p hq => hp.subset hq, h3.mono fun p hq => hp.subset hq⟩
        rintro _ _ ⟨⟨m3, rfl⟩, lv', tv', rfl, hl', ht'⟩
        have hle60 : (Ll.take (min Ll.length 60)).length ≤ 60 := by rw [List.length_take]; omega
        have hle4 : (Lt.take (min Lt.length 4)).length ≤ 4 := by rw [List.length_take]; omega
        refine WD.ch .nil (WS.cl (Tri.flat (R := fun w s' => ∃ v' n' py' c' k, w = .tuple [.agg (stRow v' n' py'), iv k] ∧ SrcS s' v' c' ∧ ScT (100 + 2 * (i + 1)) N c') ((apply552 hR t41 hChk (hS.mono fun p hp => by simp [hp]) hN (by omega) (by omega) (by omega) hl' ht' (by omega) (by omega) (fun r hr => hLl.ints r (List.mem_of_mem_take hr)) (fun r hr => hLt.tgs r (List.mem_of_mem_take hr))).post ?_) ?_) ?_)
        · rintro w s' ⟨a, b, cc, d, f, h1, h2, h3, h4⟩
          exact ⟨⟨a, b, cc, d, f, h1, h2, h3⟩, h4⟩
        · rintro w s1 s2 hp ⟨a, b, cc, d, f, h1, h2, h3⟩
          exact ⟨a, b, cc, d, f, h1, h2.mono fun p hq => hp.subset hq, h3⟩
        rintro _ _ ⟨⟨m4, rfl⟩, v2, n2, py2, c2, k2, rfl, hS2, hN2⟩
        refine Vr (k := ?_)
        refine WD.al (.alloc rfl) rfl ?_
        refine WD.ch (.yes (show bit 1535 10 = true from rfl) rfl (.app (.app .here)) .nil) ?_
        refine WS.store rfl rfl parts25 (.app (.app .here)) rfl rfl ?_
        refine Vr (k := ?_)
        refine WD.nil .nil ?_ (obn (by decide) hS.sm (WRn.u rfl .ld (WRn.u rfl .ld WRn.z)) (fun i hi => by rw [List.mem_singleton.1 hi]; rfl))
        refine WP.pre (s' := (b4, .r false [zSt] 25) :: (b6, .r false [stRow v n py] 25) :: (m4 ++ (m3 ++ ((b9, .r false [stRow v2 n2 py2] 25) :: X)))) pm63 ?_
        have hX2 : Up s (m4 ++ (m3 ++ ((b9, HO.r false [stRow v2 n2 py2] 25) :: X))) := hX.cons.app.app
        refine Vr (k := WP.cond rfl (fun _ => ?_) (fun _ => ?_))
        · refine Vr (k := ?_)
          refine ⟨LE.length - (i + 1), by omega, rfl, i + 1, v2, n2, py2, c2, _, rfl, hlt, h40, hS2.n25 ?_, hN2, hX2, .refl _, sbs⟩
          intro p hp h25
          simp only [List.mem_append, List.mem_cons] at hp ⊢
          rcases hp with h | h | rfl | rfl | rfl | h
          · exact .inl h
          · exact .inr (.inl h)
          · exact h25.elim
          · exact absurd rfl h25
          · exact absurd rfl h25
          · exact .inr (.inr (.inr h))
        · refine Vr (k := ?_)
          exact ⟨LE.length - (i + 1), by omega, rfl, i + 1, v, n, py, c, _, rfl, hlt, h40, hS.mono (fun p hp => by simp [hp]), hN.up (by omega), hX2, .refl _, sbs⟩
      · have hout : ∀ {x : SH}, x = (b4, HO.r false [stRow v n py] 25) :: (b6, .r false [stRow v n py] 25) :: X → ∃ v' n' py' c' b, AV.tuple [.agg (stRow v n py), .bool true] = .tuple [.agg (stRow v' n' py'), .bool b] ∧ SrcS x v' c' ∧ (b = true → ∃ N, ScT 180 N c') ∧ Up s x := fun hx => by
          subst hx
          exact ⟨v, n, py, c, true, rfl, hS.mono fun p hp => by simp [hp], fun _ => ⟨N, hN.up (by omega)⟩, hX.cons.cons⟩
        by_cases hlt : i < LE.length
        · have f1 : binV .lss (AV.int .i64 (.ofNat i)) (AV.int .i64 (.ofNat LE.length)) = some (.bool true) := lss_t hlt
          have f2 : binV .lss (AV.int .i64 (.ofNat i)) (AV.int .i64 (.ofNat 40)) = some (.bool false) := lss_f (fun h => hgo ⟨hlt, h⟩)
          refine Vr (k := ?_)
          exact WP.ret (Fin.mk (.ce t41 (.tmp rfl .nil)) (hout rfl))
        · have f1 : binV .lss (AV.int .i64 (.ofNat i)) (AV.int .i64 (.ofNat LE.length)) = some (.bool false) := lss_f hlt
          refine Vr (k := ?_)
          exact WP.ret (Fin.mk (.ce t41 (.tmp rfl .nil)) (hout rfl))
    · intro p hp h25
      simp only [List.mem_append, List.mem_cons] at hp ⊢
      rcases hp with h | h | rfl | h
      · exact .inl h
      · exact .inr (.inl h)
      · exact absurd rfl h25
      · exact .inr (.inr h)
  · have hk0 := nek (k := 0) hk
    refine WO.w (WS.store rfl rfl parts25 .here rfl rfl (WO.pre (s' := (b6, .r false [stRow v' n py] 25) :: (m2 ++ (m1 ++ ((b4, .r false [zSt] 25) :: s)))) (.refl _) (Vr (k := ?_))))
    refine WP.ret (Fin.mk (.ce t41 (.tmp rfl .nil)) ?_)
    exact ⟨v', n, py, c, false, rfl, hS.n25 (fun p hp h25 => by
      simp only [List.mem_append, List.mem_cons] at hp ⊢
      rcases hp with h | h | rfl | h
      · exact .inr (.inl h)
      · exact .inr (.inr (.inl h))
      · exact absurd rfl h25
      · exact .inr (.inr (.inr (.inr h)))), (fun h => nomatch h), Up.rfl.cons.app.app.cons⟩
end
end Go.Ev
set_option maxHeartbeats 8000000
namespace Go.Ev
section
variable {P : Program} {K : Orc} {rd : Option Nat} {nt : Nat} {l : Sl} {ds : List ADef} {s : SH} {Q Qn Qr : Po} {Qe : Nat → Po} {F : Nat → FuncId} {T : Nat → TypeId}
def eqC (g : Bool) (sz : Nat) (p : EqP) : AC := (.seq (.ops [⟨(some 4), (.mv (.const (.bool false))), none⟩]) (.seq (.seq (.ops [⟨(some 6), (.mv (.tmp 0)), none⟩, ⟨(some 7), (.lenS (.tmp 6)), none⟩, ⟨(some 8), (.mv (.tmp 1)), none⟩, ⟨(some 9), (.lenS (.tmp 8)), none⟩, ⟨(some 10), (.eql true .pi (.tmp 7) (.tmp 9)), none⟩]) (.cond (.tmp 10) (.seq (.ops [⟨(some 4), (.mv (.const (.bool false))), none⟩]) .ret) .skip)) (.seq (.seq (.ops [⟨(some 11), (.mv (.tmp 0)), none⟩, ⟨(some 12), (.lenS (.tmp 11)), none⟩, ⟨(some 13), (.mv (.const (.int .i64 (.ofNat 0)))), none⟩]) (.block 0 (.loop (.seq (.ops [⟨(some 14), (.arith .lss (.tmp 13) (.tmp 12)), none⟩]) (.seq (.cond (.tmp 14) .skip (.exit 0)) (.seq (.block 1 (.seq (.ops [⟨(some 15), (.mv (.tmp 13)), none⟩, ⟨(some 5), (.mv (.tmp 15)), none⟩]) (.seq (.drawn 0 [⟨⟨(some 16), (.mv (.tmp 0)), none⟩, .pure, 0, 0, 0⟩, ⟨⟨(some 17), (.mv (.tmp 5)), none⟩, .pure, 0, 0, 0⟩, ⟨⟨(some 18), (.iaddrS sz (.tmp 16) (.tmp 17)), none⟩, .pure, 0, 0, 3⟩, ⟨⟨(some 19), (.load g sz (.tmp 18)), none⟩, .read, 0, 0, 7⟩, ⟨⟨(some 20), (.mv (.tmp 1)), none⟩, .pure, 0, 0, 0⟩, ⟨⟨(some 21), (.mv (.tmp 5)), none⟩, .pure, 0, 0, 0⟩, ⟨⟨(some 22), (.iaddrS sz (.tmp 20) (.tmp 21)), none⟩, .pure, 0, 0, 48⟩, ⟨⟨(some 23), (.load g sz (.tmp 22)), none⟩, .read, 0, 0, 112⟩, ⟨⟨(some 24), (.eql true p (.tmp 19) (.tmp 23)), none⟩, .pure, 0, 0, 255⟩]) (.cond (.tmp 24) (.seq (.ops [⟨(some 4), (.mv (.const (.bool false))), none⟩]) .ret) .skip)))) (.ops [⟨(some 25), (.arith .add (.tmp 13) (.const (.int .i64 (.ofNat 1)))), none⟩, ⟨(some 13), (.mv (.tmp 25)), none⟩]))))))) (.seq (.ops [⟨(some 4), (.mv (.const (.bool true))), none⟩]) .ret))))
theorem eqI (n : Int) : eqBy 20 .pi (iv n) (iv n) = some true := by rw [eqB_i, decide_eq_true rfl]
theorem eqBo (b : Bool) : eqBy 20 .pb (.bool b) (.bool b) = some true := by cases b <;> rfl
def SameC (P : Program) (K : Orc) (f : FuncId) (s : SH) (v w : AV) : Prop := Tri P K f [v, w] s (fun u s' => u = .bool true ∧ ∃ m, s' = m ++ s)
theorem equalG {f : FuncId} {g : Bool} {sz : Nat} {p : EqP} (h : FnK P K f 26 [.tmp 4] (eqC g sz p)) {v w : AV} {L : List (List AV)} (hv : Src s sz v L) (hw : Src s sz w L) (hz : sz ≠ 0) (hg : g = true ∨ sz = 1) (hn : L.length ≤ 5000) (hl : ∀ row ∈ L, row.length = sz) (he : ∀ row ∈ L, eqBy 20 p (elv g row) (elv g row) = some true) : SameC P K f s v w := by
  refine h.tri ?_
  unfold eqC
  have l0 := hv.lenOf
  have l1 := hw.lenOf
  have h10 := eqI (.ofNat L.length)
  refine Vr (k := ?_)
  refine WP.loop (fun k l ds s' => ds = [] ∧ s' = s ∧ ∃ q, k = L.length - q ∧ q ≤ L.length ∧ ∀ i x, lk [(0, v), (1, w), (12, iv (.ofNat L.length)), (13, iv (.ofNat q))] i = some x → lk l i = some x) ?_ (n := L.length - 0)
    ⟨rfl, rfl, 0, rfl, Nat.zero_le _, sbs⟩
  rintro k l ds s' ⟨rfl, rfl, q, rfl, hq, hlk⟩
  refine WP.weak hlk (fun _ _ h => h) ?_
  by_cases hlt : q < L.length
  · have f1 : binV .lss (iv (.ofNat q)) (iv (.ofNat L.length)) = some (.bool true) := lss_t hlt
    obtain ⟨ba, ra, na, ca, sla, roa, Ma, ea, hba, hna, hMa⟩ := hv.at hlt
    obtain ⟨bb, rb, nb, cb, slb, rob, Mb, eb, hbb, hnb, hMb⟩ := hw.at hlt
    have hmem := List.getElem_mem hlt
    rw [List.getElem?_eq_getElem hlt] at hMa hMb
    have hadd : binV .add (iv (.ofNat q)) (iv (.ofNat 1)) = some (iv (.ofNat (q + 1))) := add_n (by omega)
    have h24 := he _ hmem
    have hsz := hl _ hmem
    refine Vr (k := WD.pu (.ia ea hna (hs := hz)) (WD.ld rfl .nil (.load rfl hba hMa (take_all hsz) (ldv_elv hg hsz)) (Vr (k := WD.pu (.ia eb hnb (hs := hz)) (WD.ld rfl .nil (.load rfl hbb hMb (take_all hsz) (ldv_elv hg hsz)) (Vr (k := ?_)))))))
    exact ⟨L.length - (q + 1), by omega, rfl, rfl, q + 1, rfl, hlt, sbs⟩
  · have f1 : binV .lss (iv (.ofNat q)) (iv (.ofNat L.length)) = some (.bool false) := lss_f hlt
    refine Vr (k := ?_)
    exact ⟨rfl, [], rfl⟩
theorem ints454 (hS : BaseSl P K F T) {v w : AV} {L : List (List AV)} (hv : Src s 1 v L) (hw : Src s 1 w L) (hn : L.length ≤ 5000) (hT : ∀ r ∈ L, OkR [] [.i] r) : SameC P K (F 454) s v w :=
  equalG (g := false) (sz := 1) (p := .pi) hS.f454 hv hw (by decide) (.inr rfl) hn (fun r hr => (hT r hr).1) fun r hr => by
    obtain ⟨x, rfl⟩ := (hT r hr).n1
    exact eqI x
theorem tgs466 (hS : BaseSl P K F T) {v w : AV} {L : List (List AV)} (hv : Src s 2 v L) (hw : Src s 2 w L) (hn : L.length ≤ 5000) (hT : ∀ r ∈ L, OkR [] rTg r) : SameC P K (F 466) s v w :=
  equalG (g := true) (sz := 2) (p := (.agg [⟨0, ⟨1, ⟨false, .pi⟩⟩⟩, ⟨1, ⟨1, ⟨false, .pi⟩⟩⟩])) hS.f466 hv hw (by decide) (.inl rfl) hn (fun r hr => (hT r hr).1) fun r hr => by
    obtain ⟨x, _, rfl, h1⟩ := (hT r hr).invi
    obtain ⟨y, _, rfl, h2⟩ := h1.invi
    cases h2.nil_inv
    have h : ∀ n : Int, ieq n n = true := fun n => ieq_iff.2 rfl
    simp [elv, eqBy, primEq, lfold, part, lget, keq, h]
theorem effs465 (hS : BaseSl P K F T) {v w : AV} {L : List (List AV)} (hv : Src s 4 v L) (hw : Src s 4 w L) (hn : L.length ≤ 5000) (hT : ∀ r ∈ L, OkR [] rEf r) : SameC P K (F 465) s v w :=
  equalG (g := true) (sz := 4) (p := (.agg [⟨0, ⟨1, ⟨false, .pi⟩⟩⟩, ⟨1, ⟨1, ⟨false, .pi⟩⟩⟩, ⟨2, ⟨1, ⟨false, .pi⟩⟩⟩, ⟨3, ⟨1, ⟨false, .pi⟩⟩⟩])) hS.f465 hv hw (by decide) (.inl rfl) hn (fun r hr => (hT r hr).1) fun r hr => by
    obtain ⟨a, b, c, d, rfl⟩ := (hT r hr).ef
    have h : ∀ n : Int, ieq n n = true := fun n => ieq_iff.2 rfl
    simp [elv, eqBy, primEq, lfold, part, lget, keq, h]
theorem pls455 (hS : BaseSl P K F T) {v w : AV} {L : List (List AV)} (hv : Src s 8 v L) (hw : Src s 8 w L) (hn : L.length ≤ 5000) (hT : ∀ r ∈ L, OkR [] rPl r) : SameC P K (F 455) s v w :=
  equalG (g := true) (sz := 8) (p := (.agg [⟨0, ⟨1, ⟨false, .pi⟩⟩⟩, ⟨1, ⟨4, ⟨true, (.agg [⟨0, ⟨1, ⟨false, .pi⟩⟩⟩, ⟨1, ⟨1, ⟨false, .pi⟩⟩⟩, ⟨2, ⟨1, ⟨false, .pi⟩⟩⟩, ⟨3, ⟨1, ⟨false, .pi⟩⟩⟩])⟩⟩⟩, ⟨5, ⟨1, ⟨false, .pb⟩⟩⟩, ⟨6, ⟨1, ⟨false, .pb⟩⟩⟩, ⟨7, ⟨1, ⟨false, .pb⟩⟩⟩])) hS.f455 hv hw (by decide) (.inl rfl) hn (fun r hr => (hT r hr).1) fun r hr => by
    obtain ⟨a, b, rfl⟩ := (hT r hr).pl
    have h : ∀ n : Int, ieq n n = true := fun n => ieq_iff.2 rfl
    have hm : ∀ p q r, ltake 4 (ldrop 1 [iv (a 0), iv (a 1), iv (a 2), iv (a 3), iv (a 4), AV.bool p, .bool q, .bool r]) = some [iv (a 1), iv (a 2), iv (a 3), iv (a 4)] := fun _ _ _ => rfl
    cases b 0 <;> cases b 1 <;> cases b 2 <;> simp [elv, eqBy, primEq, lfold, part, lget, keq, h, hm]
theorem same433 (hT : BaseSt P K F T) (hS : BaseSl P K F T) {v w : AV} {L : List (List AV)} (hv : Src s 1 v L) (hw : Src s 1 w L) (hn : L.length ≤ 5000) (hL : ∀ r ∈ L, OkR [] [.i] r) : SameC P K (F 433) s v w := by
  refine hT.f433.tri ?_
  unfold a433
  refine Vr (k := WO.w (WS.cl (ints454 hS hv hw hn hL) ?_))
  rintro _ _ ⟨rfl, m, rfl⟩
  refine Vr (k := ?_)
  exact ⟨rfl, m, rfl⟩
theorem same457 (hT : BaseSt P K F T) (hS : BaseSl P K F T) {v w : AV} {L : List (List AV)} (hv : Src s 2 v L) (hw : Src s 2 w L) (hn : L.length ≤ 5000) (hL : ∀ r ∈ L, OkR [] rTg r) : SameC P K (F 457) s v w := by
  refine hT.f457.tri ?_
  unfold a457
  refine Vr (k := WO.w (WS.cl (tgs466 hS hv hw hn hL) ?_))
  rintro _ _ ⟨rfl, m, rfl⟩
  refine Vr (k := ?_)
  exact ⟨rfl, m, rfl⟩
theorem same456 (hT : BaseSt P K F T) (hS : BaseSl P K F T) {v w : AV} {L : List (List AV)} (hv : Src s 4 v L) (hw : Src s 4 w L) (hn : L.length ≤ 5000) (hL : ∀ r ∈ L, OkR [] rEf r) : SameC P K (F 456) s v w := by
  refine hT.f456.tri ?_
  unfold a456
  refine Vr (k := WO.w (WS.cl (effs465 hS hv hw hn hL) ?_))
  rintro _ _ ⟨rfl, m, rfl⟩
  refine Vr (k := ?_)
  exact ⟨rfl, m, rfl⟩
theorem same435 (hT : BaseSt P K F T) (hS : BaseSl P K F T) {v w : AV} {L : List (List AV)} (hv : Src s 8 v L) (hw : Src s 8 w L) (hn : L.length ≤ 5000) (hL : ∀ r ∈ L, OkR [] rPl r) : SameC P K (F 435) s v w := by
  refine hT.f435.tri ?_
  unfold a435
  refine Vr (k := WO.w (WS.cl (pls455 hS hv hw hn hL) ?_))
  rintro _ _ ⟨rfl, m, rfl⟩
  refine Vr (k := ?_)
  exact ⟨rfl, m, rfl⟩
end
end Go.Ev
