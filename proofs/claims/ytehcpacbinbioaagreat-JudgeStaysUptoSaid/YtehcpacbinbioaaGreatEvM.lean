/- A machine that is proved sound, and walks by it. Conditions: none. -/
import Derived.Test.YtehcpacbinbioaaGreatEvL
set_option linter.all false
set_option maxHeartbeats 8000000
namespace Go.Ev
section
variable {P : Program} {K : Orc} {rd : Option Nat} {nt : Nat} {l : Sl} {ds : List ADef} {s : SH} {Q Qn Qr : Po} {Qe : Nat → Po} {F : Nat → FuncId} {T : Nat → TypeId}
def upd {α : Type} (o : Nat → α) (k : Nat) (x : α) : Nat → α := fun i => if i = k then x else o i
def rest (k : Nat) (o : Nat → SH) (t : SH) : SH := own (upd o k []) t
theorem own_at {o : Nat → SH} {t : SH} : ∀ {k : Nat}, k ≤ 9 → (own o t).Perm (o k ++ rest k o t)
  | 0, _ => by show (o 0 ++ (o 1 ++ (o 2 ++ (o 3 ++ (o 4 ++ (o 5 ++ (o 6 ++ (o 7 ++ (o 8 ++ (o 9 ++ t)))))))))).Perm (o 0 ++ ([] ++ (o 1 ++ (o 2 ++ (o 3 ++ (o 4 ++ (o 5 ++ (o 6 ++ (o 7 ++ (o 8 ++ (o 9 ++ t)))))))))))
               exact .refl _
  | 1, _ => by show (o 0 ++ (o 1 ++ (o 2 ++ (o 3 ++ (o 4 ++ (o 5 ++ (o 6 ++ (o 7 ++ (o 8 ++ (o 9 ++ t)))))))))).Perm (o 1 ++ (o 0 ++ ([] ++ (o 2 ++ (o 3 ++ (o 4 ++ (o 5 ++ (o 6 ++ (o 7 ++ (o 8 ++ (o 9 ++ t)))))))))))
               exact pm2
  | 2, _ => by show (o 0 ++ (o 1 ++ (o 2 ++ (o 3 ++ (o 4 ++ (o 5 ++ (o 6 ++ (o 7 ++ (o 8 ++ (o 9 ++ t)))))))))).Perm (o 2 ++ (o 0 ++ (o 1 ++ ([] ++ (o 3 ++ (o 4 ++ (o 5 ++ (o 6 ++ (o 7 ++ (o 8 ++ (o 9 ++ t)))))))))))
               exact pm2
  | 3, _ => by show (o 0 ++ (o 1 ++ (o 2 ++ (o 3 ++ (o 4 ++ (o 5 ++ (o 6 ++ (o 7 ++ (o 8 ++ (o 9 ++ t)))))))))).Perm (o 3 ++ (o 0 ++ (o 1 ++ (o 2 ++ ([] ++ (o 4 ++ (o 5 ++ (o 6 ++ (o 7 ++ (o 8 ++ (o 9 ++ t)))))))))))
               exact pm2
  | 4, _ => by show (o 0 ++ (o 1 ++ (o 2 ++ (o 3 ++ (o 4 ++ (o 5 ++ (o 6 ++ (o 7 ++ (o 8 ++ (o 9 ++ t)))))))))).Perm (o 4 ++ (o 0 ++ (o 1 ++ (o 2 ++ (o 3 ++ ([] ++ (o 5 ++ (o 6 ++ (o 7 ++ (o 8 ++ (o 9 ++ t)))))))))))
               exact pm2
  | 5, _ => by show (o 0 ++ (o 1 ++ (o 2 ++ (o 3 ++ (o 4 ++ (o 5 ++ (o 6 ++ (o 7 ++ (o 8 ++ (o 9 ++ t)))))))))).Perm (o 5 ++ (o 0 ++ (o 1 ++ (o 2 ++ (o 3 ++ (o 4 ++ ([] ++ (o 6 ++ (o 7 ++ (o 8 ++ (o 9 ++ t)))))))))))
               exact pm2
  | 6, _ => by show (o 0 ++ (o 1 ++ (o 2 ++ (o 3 ++ (o 4 ++ (o 5 ++ (o 6 ++ (o 7 ++ (o 8 ++ (o 9 ++ t)))))))))).Perm (o 6 ++ (o 0 ++ (o 1 ++ (o 2 ++ (o 3 ++ (o 4 ++ (o 5 ++ ([] ++ (o 7 ++ (o 8 ++ (o 9 ++ t)))))))))))
               exact pm2
  | 7, _ => by show (o 0 ++ (o 1 ++ (o 2 ++ (o 3 ++ (o 4 ++ (o 5 ++ (o 6 ++ (o 7 ++ (o 8 ++ (o 9 ++ t)))))))))).Perm (o 7 ++ (o 0 ++ (o 1 ++ (o 2 ++ (o 3 ++ (o 4 ++ (o 5 ++ (o 6 ++ ([] ++ (o 8 ++ (o 9 ++ t)))))))))))
               exact pm2
  | 8, _ => by show (o 0 ++ (o 1 ++ (o 2 ++ (o 3 ++ (o 4 ++ (o 5 ++ (o 6 ++ (o 7 ++ (o 8 ++ (o 9 ++ t)))))))))).Perm (o 8 ++ (o 0 ++ (o 1 ++ (o 2 ++ (o 3 ++ (o 4 ++ (o 5 ++ (o 6 ++ (o 7 ++ ([] ++ (o 9 ++ t)))))))))))
               exact pm2
  | 9, _ => by show (o 0 ++ (o 1 ++ (o 2 ++ (o 3 ++ (o 4 ++ (o 5 ++ (o 6 ++ (o 7 ++ (o 8 ++ (o 9 ++ t)))))))))).Perm (o 9 ++ (o 0 ++ (o 1 ++ (o 2 ++ (o 3 ++ (o 4 ++ (o 5 ++ (o 6 ++ (o 7 ++ (o 8 ++ ([] ++ t)))))))))))
               exact pm2
  | _ + 10, h => absurd h (by omega)
theorem rest_upd {o : Nat → SH} {t x : SH} {k : Nat} : rest k (upd o k x) t = rest k o t := by
  have : upd (upd o k x) k [] = upd o k [] := by
    funext i
    unfold upd
    split <;> rfl
  unfold rest
  rw [this]
theorem own_upd {o : Nat → SH} {t x : SH} {k : Nat} (hk : k ≤ 9) : (own (upd o k x) t).Perm (x ++ rest k o t) := by
  have := own_at (o := upd o k x) (t := t) hk
  rw [rest_upd] at this
  rwa [show upd o k x k = x from if_pos rfl] at this
theorem OwnS.u0 {v : Nat → AV} {c : SC} {o : Nat → SH} (h : OwnS v c o) {a : AV} {C : List (List AV)} {x : SH} (hx : GrE 8 a C x) : OwnS (upd v 0 a) { c with pl := C } (upd o 0 x) := ⟨hx, h.ob, h.lb, h.hd, h.gr, h.ex, h.fi, h.st, h.wa, h.kt⟩
theorem OwnS.u1 {v : Nat → AV} {c : SC} {o : Nat → SH} (h : OwnS v c o) {a : AV} {C : Cn} {x : SH} (hx : OwnN 13 4 a C x) : OwnS (upd v 1 a) { c with ob := C } (upd o 1 x) := ⟨h.pl, hx, h.lb, h.hd, h.gr, h.ex, h.fi, h.st, h.wa, h.kt⟩
theorem OwnS.u2 {v : Nat → AV} {c : SC} {o : Nat → SH} (h : OwnS v c o) {a : AV} {C : Cn} {x : SH} (hx : OwnN 0 1 a C x) : OwnS (upd v 2 a) { c with lb := C } (upd o 2 x) := ⟨h.pl, h.ob, hx, h.hd, h.gr, h.ex, h.fi, h.st, h.wa, h.kt⟩
theorem OwnS.u3 {v : Nat → AV} {c : SC} {o : Nat → SH} (h : OwnS v c o) {a : AV} {C : Cn} {x : SH} (hx : OwnN 0 1 a C x) : OwnS (upd v 3 a) { c with hd := C } (upd o 3 x) := ⟨h.pl, h.ob, h.lb, hx, h.gr, h.ex, h.fi, h.st, h.wa, h.kt⟩
theorem OwnS.u4 {v : Nat → AV} {c : SC} {o : Nat → SH} (h : OwnS v c o) {a : AV} {C : Cn} {x : SH} (hx : OwnN 0 1 a C x) : OwnS (upd v 4 a) { c with gr := C } (upd o 4 x) := ⟨h.pl, h.ob, h.lb, h.hd, hx, h.ex, h.fi, h.st, h.wa, h.kt⟩
theorem OwnS.u5 {v : Nat → AV} {c : SC} {o : Nat → SH} (h : OwnS v c o) {a : AV} {C : Cn} {x : SH} (hx : OwnN 0 1 a C x) : OwnS (upd v 5 a) { c with ex := C } (upd o 5 x) := ⟨h.pl, h.ob, h.lb, h.hd, h.gr, hx, h.fi, h.st, h.wa, h.kt⟩
theorem OwnS.u6 {v : Nat → AV} {c : SC} {o : Nat → SH} (h : OwnS v c o) {a : AV} {C : List (List AV)} {x : SH} (hx : GrS 1 a C x) : OwnS (upd v 6 a) { c with fi := C } (upd o 6 x) := ⟨h.pl, h.ob, h.lb, h.hd, h.gr, h.ex, hx, h.st, h.wa, h.kt⟩
theorem OwnS.u7 {v : Nat → AV} {c : SC} {o : Nat → SH} (h : OwnS v c o) {a : AV} {C : Cn} {x : SH} (hx : OwnN 6 2 a C x) : OwnS (upd v 7 a) { c with st := C } (upd o 7 x) := ⟨h.pl, h.ob, h.lb, h.hd, h.gr, h.ex, h.fi, hx, h.wa, h.kt⟩
theorem OwnS.u8 {v : Nat → AV} {c : SC} {o : Nat → SH} (h : OwnS v c o) {a : AV} {C : Cn} {x : SH} (hx : OwnN 6 2 a C x) : OwnS (upd v 8 a) { c with wa := C } (upd o 8 x) := ⟨h.pl, h.ob, h.lb, h.hd, h.gr, h.ex, h.fi, h.st, hx, h.kt⟩
theorem OwnS.u9 {v : Nat → AV} {c : SC} {o : Nat → SH} (h : OwnS v c o) {a : AV} {C : List (List AV)} {x : SH} (hx : GrE 2 a C x) : OwnS (upd v 9 a) { c with kt := C } (upd o 9 x) := ⟨h.pl, h.ob, h.lb, h.hd, h.gr, h.ex, h.fi, h.st, h.wa, hx⟩
def StX (bs : Nat) (v : Nat → AV) (n : Nat → Int) (py : Bool) (c : SC) (t s : SH) : Prop := ∃ o m, OwnS v c o ∧ s.Perm ((bs, .r false [stRow v n py] 25) :: (m ++ own o t))
end
end Go.Ev
set_option maxHeartbeats 8000000
namespace Go.Ev
section
variable {P : Program} {K : Orc} {rd : Option Nat} {nt : Nat} {l : Sl} {ds : List ADef} {s : SH} {Q Qn Qr : Po} {Qe : Nat → Po} {F : Nat → FuncId} {T : Nat → TypeId}
theorem CnT.z {B N : Nat} {C : Cn} (h : CnT B [] [.i] C ∧ C.length = N) {i : Nat} {I : List (List AV)} (hI : I.length ≤ B) (hq : ∀ q ∈ I, OkR [] [.i] q) : CnT B [] [.i] (C.set i ([], I)) ∧ (C.set i ([], I)).length = N := ⟨h.1.set OkR.nil hI hq, by rw [List.length_set]; exact h.2⟩
theorem pm1 {x y : Nat × HO} {m ol o1 o2 r ow ok : SH} (h1 : ow.Perm (ok ++ r)) (h2 : ok.Perm (x :: (o1 ++ o2))) : (y :: (m ++ (ol ++ ow))).Perm (x :: y :: (m ++ (ol ++ ((o1 ++ o2) ++ r)))) := perm_ct fun c w h0 ha hb hq => by
  have e1 := hq _ _ h1
  have e2 := hq _ _ h2
  simp only [ha, hb] at e1 e2 ⊢
  omega
theorem pm3 {x y : Nat × HO} {m ol o1 o2 r ow ok : SH} (h1 : ow.Perm (ok ++ r)) (h2 : ok.Perm (x :: (ol ++ o2))) : (x :: y :: (m ++ (ol ++ ((o1 ++ o2) ++ r)))).Perm (y :: ((m ++ o1) ++ ow)) := perm_ct fun c w h0 ha hb hq => by
  have e1 := hq _ _ h1
  have e2 := hq _ _ h2
  simp only [ha, hb] at e1 e2 ⊢
  omega
theorem pm4 {y : Nat × HO} {m ol r ow ow' ok : SH} (h1 : ow.Perm (ok ++ r)) (h2 : ow'.Perm (ol ++ r)) : (y :: (m ++ (ol ++ ow))).Perm (y :: ((m ++ ok) ++ ow')) := perm_ct fun c w h0 ha hb hq => by
  have e1 := hq _ _ h1
  have e2 := hq _ _ h2
  simp only [ha, hb] at e1 e2 ⊢
  omega
theorem set619 (hR : BaseR12 P K F T) {bs : Nat} {v : Nat → AV} {n : Nat → Int} {py : Bool} {c : SC} {B N p : Nat} {z : Int} {o : Nat → SH} {m ol t : SH} {w : AV} {Lw : List (List AV)} (hO : OwnS v c o) (hc : ScT B N c) (hp : s.Perm ((bs, .r false [stRow v n py] 25) :: (m ++ (ol ++ own o t)))) (hw : GrS 1 w Lw ol) (hLw : Lw.length ≤ B) (hLt : ∀ r ∈ Lw, OkR [] [.i] r) (hpN : p < N) :
    Tri P K (F 619) [.ptr (some ⟨bs, 0, 0⟩), iv z, iv (.ofNat p), w] s (fun _ s' => ∃ v' c', StX bs v' n py c' t s' ∧ ScT B N c' ∧ c'.ob = c.ob) := by
  refine hR.f619.tri ?_
  unfold a619
  have pw := hw.one
  refine Vr (k := ?_)
  refine WP.cond rfl (fun _ => ?_) (fun _ => ?_)
  · obtain ⟨b, L, a, o1, o2, hv, hi, hrow, hG, hpk, hcl⟩ := hO.lb.open (i := p) (by rw [hc.lb.2]; exact hpN)
    have k1 := (hc.lb.1.li (i := p) (by rw [hc.lb.2]; exact hpN)).1.nil_inv
    rw [k1] at hrow
    have hrow : L[Nat.add 0 p]? = some [a] := by rw [show Nat.add 0 p = p from Nat.zero_add p]; exact hrow
    refine WP.pre (hp.trans (pm1 (own_at (k := 2) (by decide)) hpk)) ?_
    refine Vr (k := WO.r (.ia hv hi) (Vr (k := WO.w (WS.store rfl rfl pw .here hrow rfl (Vr (k := ?_))))))
    obtain ⟨o', h1, h2⟩ := hcl [] w Lw ol hw
    refine Fin.mk .nil ⟨upd v 2 (v 2), _, ⟨_, m ++ o1, hO.u2 h2, ?_⟩, { hc with lb := CnT.z hc.lb hLw hLt }, rfl⟩
    exact pm3 (own_upd (k := 2) (by decide)) (by rw [show Nat.add 0 p = p from Nat.zero_add p]; exact h1)
  refine Vr (k := ?_)
  refine WP.cond rfl (fun _ => ?_) (fun _ => ?_)
  · obtain ⟨b, L, a, o1, o2, hv, hi, hrow, hG, hpk, hcl⟩ := hO.hd.open (i := p) (by rw [hc.hd.2]; exact hpN)
    have k1 := (hc.hd.1.li (i := p) (by rw [hc.hd.2]; exact hpN)).1.nil_inv
    rw [k1] at hrow
    have hrow : L[Nat.add 0 p]? = some [a] := by rw [show Nat.add 0 p = p from Nat.zero_add p]; exact hrow
    refine WP.pre (hp.trans (pm1 (own_at (k := 3) (by decide)) hpk)) ?_
    refine Vr (k := WO.r (.ia hv hi) (Vr (k := WO.w (WS.store rfl rfl pw .here hrow rfl (Vr (k := ?_))))))
    obtain ⟨o', h1, h2⟩ := hcl [] w Lw ol hw
    refine Fin.mk .nil ⟨upd v 3 (v 3), _, ⟨_, m ++ o1, hO.u3 h2, ?_⟩, { hc with hd := CnT.z hc.hd hLw hLt }, rfl⟩
    exact pm3 (own_upd (k := 3) (by decide)) (by rw [show Nat.add 0 p = p from Nat.zero_add p]; exact h1)
  refine Vr (k := ?_)
  refine WP.cond rfl (fun _ => ?_) (fun _ => ?_)
  · refine WP.pre hp ?_
    refine Vr (k := WO.w (WS.store rfl rfl pw .here rfl rfl (Vr (k := ?_))))
    refine Fin.mk .nil ⟨upd v 6 w, _, ⟨_, m ++ o 6, hO.u6 hw, ?_⟩, { hc with fi := ⟨hLw, hLt⟩ }, rfl⟩
    exact pm4 (own_at (k := 6) (by decide)) (own_upd (k := 6) (by decide))
  refine Vr (k := ?_)
  refine WP.cond rfl (fun _ => ?_) (fun _ => ?_)
  · obtain ⟨b, L, a, o1, o2, hv, hi, hrow, hG, hpk, hcl⟩ := hO.gr.open (i := p) (by rw [hc.gr.2]; exact hpN)
    have k1 := (hc.gr.1.li (i := p) (by rw [hc.gr.2]; exact hpN)).1.nil_inv
    rw [k1] at hrow
    have hrow : L[Nat.add 0 p]? = some [a] := by rw [show Nat.add 0 p = p from Nat.zero_add p]; exact hrow
    refine WP.pre (hp.trans (pm1 (own_at (k := 4) (by decide)) hpk)) ?_
    refine Vr (k := WO.r (.ia hv hi) (Vr (k := WO.w (WS.store rfl rfl pw .here hrow rfl (Vr (k := ?_))))))
    obtain ⟨o', h1, h2⟩ := hcl [] w Lw ol hw
    refine Fin.mk .nil ⟨upd v 4 (v 4), _, ⟨_, m ++ o1, hO.u4 h2, ?_⟩, { hc with gr := CnT.z hc.gr hLw hLt }, rfl⟩
    exact pm3 (own_upd (k := 4) (by decide)) (by rw [show Nat.add 0 p = p from Nat.zero_add p]; exact h1)
  refine Vr (k := ?_)
  refine WP.cond rfl (fun _ => ?_) (fun _ => ?_)
  · obtain ⟨b, L, a, o1, o2, hv, hi, hrow, hG, hpk, hcl⟩ := hO.ex.open (i := p) (by rw [hc.ex.2]; exact hpN)
    have k1 := (hc.ex.1.li (i := p) (by rw [hc.ex.2]; exact hpN)).1.nil_inv
    rw [k1] at hrow
    have hrow : L[Nat.add 0 p]? = some [a] := by rw [show Nat.add 0 p = p from Nat.zero_add p]; exact hrow
    refine WP.pre (hp.trans (pm1 (own_at (k := 5) (by decide)) hpk)) ?_
    refine Vr (k := WO.r (.ia hv hi) (Vr (k := WO.w (WS.store rfl rfl pw .here hrow rfl (Vr (k := ?_))))))
    obtain ⟨o', h1, h2⟩ := hcl [] w Lw ol hw
    refine Fin.mk .nil ⟨upd v 5 (v 5), _, ⟨_, m ++ o1, hO.u5 h2, ?_⟩, { hc with ex := CnT.z hc.ex hLw hLt }, rfl⟩
    exact pm3 (own_upd (k := 5) (by decide)) (by rw [show Nat.add 0 p = p from Nat.zero_add p]; exact h1)
  refine Vr (k := ?_)
  exact Fin.mk .nil ⟨v, c, ⟨o, m ++ ol, hO, by rw [List.append_assoc]; exact hp⟩, hc, rfl⟩
end
end Go.Ev
set_option maxHeartbeats 8000000
namespace Go.Ev
section
variable {P : Program} {K : Orc} {rd : Option Nat} {nt : Nat} {l : Sl} {ds : List ADef} {s : SH} {Q Qn Qr : Po} {Qe : Nat → Po} {F : Nat → FuncId} {T : Nat → TypeId}
theorem WP.mid {a b : AC} (I : Sl → SH → Prop) (h1 : WP P K rd nt a l ds s (fun l ds s => ds = [] ∧ I l s) Qe Qr) (h2 : ∀ l s, I l s → WP P K rd nt b l [] s Qn Qe Qr) : WP P K rd nt (.seq a b) l ds s Qn Qe Qr :=
  WP.seq (h1.post (fun l ds s h => by obtain ⟨rfl, h⟩ := h; exact h2 l s h) (fun _ _ _ _ h => h) (fun _ _ _ h => h))
def Its (B n : Nat) (v : AV) (As : List (Option AV)) (m t s : SH) : Prop := ∃ L C ob oi, GrS 7 v L ob ∧ OwnR 2 L C oi ∧ CnT B sIt rTg C ∧ C.length = n ∧ L.map List.getLast? = As ∧ s.Perm (m ++ ((ob ++ oi) ++ t))
theorem set_last {L : List (List AV)} {i : Nat} {r r' : List AV} {a : AV} (h : L[i]? = some (r ++ [a])) : (L.set i (r' ++ [a])).map List.getLast? = L.map List.getLast? := by
  rw [List.map_set]
  obtain ⟨hi, e⟩ := List.getElem?_eq_some_iff.1 h
  have : (L.map List.getLast?)[i]'(by simpa using hi) = (r' ++ [a]).getLast? := by simp [e]
  rw [← this]
  exact List.set_getElem_self _
theorem own_open {m k : Nat} {v : AV} {L : List (List AV)} {C : Cn} {ob oi : SH} (h1 : GrS (k + 1) v L ob) (h2 : OwnR m L C oi) {i : Nat} (hi : i < C.length) : ∃ b sl a o1 o2, v = .slice (some ⟨b, 0, 0⟩) L.length L.length sl (k + 1) ∧ i < L.length ∧ L[i]? = some (C[i].1 ++ [a]) ∧ GrS m a C[i].2 o1 ∧ (ob ++ oi).Perm ((b, .r false L (k + 1)) :: (o1 ++ o2)) ∧
    ∀ r' I' o1', GrS m a I' o1' → ∃ oi', (([(b, .r false (L.set i (r' ++ [a])) (k + 1))] : SH) ++ oi').Perm ((b, .r false (L.set i (r' ++ [a])) (k + 1)) :: (o1' ++ o2)) ∧ GrS (k + 1) v (L.set i (r' ++ [a])) [(b, .r false (L.set i (r' ++ [a])) (k + 1))] ∧ OwnR m (L.set i (r' ++ [a])) (C.set i (r', I')) oi' ∧ (L.set i (r' ++ [a])).map List.getLast? = L.map List.getLast? := by
  have hL := h2.len
  obtain ⟨a, o1, o2, h3, h4, h5, h6⟩ := h2.open hi
  obtain ⟨b, sl, rfl, rfl, hg⟩ := h1.open (i := i) (by omega)
  refine ⟨b, sl, a, o1, o2, rfl, by omega, h3, h4, h5.cons _, fun r' I' o1' hG => ?_⟩
  obtain ⟨o', k1, k2⟩ := h6 r' a I' o1' hG
  exact ⟨o', k1.cons _, hg _, k2, set_last h3⟩
theorem pm5 {x : Nat × HO} {m o t o1 o2 : SH} (h : o.Perm (x :: (o1 ++ o2))) : (m ++ (o ++ t)).Perm (x :: (m ++ ((o1 ++ o2) ++ t))) := perm_ct fun c w h0 ha hb hq => by
  have e1 := hq _ _ h
  simp only [ha, hb] at e1 ⊢
  omega
theorem pm6 {x y : Nat × HO} {m o t : SH} : (x :: (m ++ (([y] ++ o) ++ t))).Perm (x :: y :: (m ++ (o ++ t))) := pm2
theorem gone622 (hR : BaseR12 P K F T) {v : AV} {B n : Nat} {As : List (Option AV)} {id : Int} {m t : SH} (hB : B ≤ 900000000) (hs : Its B n v As m t s) : Tri P K (F 622) [v, iv id] s (fun _ s' => Its B n v As m t s') := by
  refine hR.f622.tri ?_
  unfold a622
  obtain ⟨L, C, ob, oi, hg, hO, hC, hn, hAs, hp⟩ := hs
  have hl : lenOf v = some n := by rw [hg.lenOf, hO.len, hn]
  have hnB : n ≤ B := hn ▸ hC.len
  refine Vr (k := ?_)
  refine WP.loop (fun k l ds s' => ds = [] ∧ ∃ i, k = n - i ∧ i ≤ n ∧ Its B n v As m t s' ∧ ∀ j x, lk [(0, v), (1, iv id), (4, .int .i64 (.ofNat i))] j = some x → lk l j = some x) ?_ (n := n - 0) ⟨rfl, 0, rfl, Nat.zero_le _, ⟨L, C, ob, oi, hg, hO, hC, hn, hAs, hp⟩, sbs⟩
  rintro k l ds s' ⟨rfl, i, rfl, hi, hs, hlk⟩
  refine WP.weak hlk (fun _ _ h => h) ?_
  have hadd : binV .add (AV.int .i64 (.ofNat i)) (AV.int .i64 (.ofNat 1)) = some (AV.int .i64 (.ofNat (i + 1))) := add_n (by omega)
  refine Vr (k := WP.cond rfl (fun hlt0 => ?_) (fun hlt0 => ?_))
  rotate_left
  · exact WP.exit (Vr (k := Fin.mk .nil hs))
  have hlt : i < n := Int.ofNat_lt.1 (of_decide_eq_true hlt0)
  refine WP.skip (WP.seq (WP.block (WP.mid (fun l s' => Its B n v As m t s' ∧ ∀ j x, lk [(0, v), (1, iv id), (4, .int .i64 (.ofNat i))] j = some x → lk l j = some x) ?_ ?_)))
  · obtain ⟨L, C, ob, oi, hg, hO, hC, hn, hAs, hp⟩ := hs
    obtain ⟨b, sl, a, o1, o2, hv, hi2, hrow, hG, hpk, hcl⟩ := own_open hg hO (i := i) (by omega)
    obtain ⟨k1, k2, k3⟩ := hC.li (i := i) (by omega)
    obtain ⟨z, hz⟩ := k1.i6
    rw [hz] at hrow
    have hrow : L[Nat.add 0 i]? = some [iv (z 0), iv (z 1), iv (z 2), iv (z 3), iv (z 4), iv (z 5), a] := by rw [show Nat.add 0 i = i from Nat.zero_add i]; exact hrow
    refine WP.pre (hp.trans (pm5 hpk)) ?_
    refine Vr (k := WO.r (.ia hv hi2) (Vr (k := WP.cond rfl (fun _ => ?_) (fun _ => ?_))))
    · refine Vr (k := WO.r (.ia hv hi2) (Vr (k := WO.w (WS.store rfl rfl rfl .here hrow rfl (Vr (k := ?_))))))
      obtain ⟨oi', h1, h2, h3, h4⟩ := hcl [iv (z 0), iv (z 1), iv (z 2), iv (-1), iv (z 4), iv (z 5)] _ o1 hG
      refine ⟨rfl, ⟨_, _, _, oi', h2, h3, hC.set okr k2 k3, by rw [List.length_set]; exact hn, h4.trans hAs, ?_⟩, sbs⟩
      exact (pm5 (by rw [show Nat.add 0 i = i from Nat.zero_add i]; exact h1)).symm
    · refine Vr (k := ?_)
      exact ⟨rfl, ⟨L, C, ob, oi, hg, hO, hC, hn, hAs, (pm5 hpk).symm⟩, sbs⟩
  · rintro l s' ⟨hs, hlk⟩
    refine WP.weak hlk (fun _ _ h => h) ?_
    obtain ⟨L, C, ob, oi, hg, hO, hC, hn, hAs, hp⟩ := hs
    refine Vr (k := ?_)
    refine WP.loop (fun k l ds s' => ds = [] ∧ ∃ q L C ob oi, ∃ (hi : i < C.length), k = C[i].2.length - q ∧ q ≤ C[i].2.length ∧ GrS 7 v L ob ∧ OwnR 2 L C oi ∧ CnT B sIt rTg C ∧ C.length = n ∧ L.map List.getLast? = As ∧ s'.Perm (m ++ ((ob ++ oi) ++ t)) ∧ ∀ j x, lk [(0, v), (1, iv id), (4, .int .i64 (.ofNat i)), (5, .int .i64 (.ofNat q))] j = some x → lk l j = some x) ?_ (n := (C[i]'(by omega)).2.length - 0) ⟨rfl, 0, L, C, ob, oi, by omega, rfl, Nat.zero_le _, hg, hO, hC, hn, hAs, hp, sbs⟩
    rintro k l ds s' ⟨rfl, q, L, C, ob, oi, hiC, rfl, hq, hg, hO, hC, hn, hAs, hp, hlk⟩
    refine WP.weak hlk (fun _ _ h => h) ?_
    obtain ⟨b, sl, a, o1, o2, hv, hi2, hrow, hG, hpk, hcl⟩ := own_open hg hO hiC
    obtain ⟨k1, k2, k3⟩ := hC.li hiC
    have hsame : L.set i (C[i].1 ++ [a]) = L := by
      obtain ⟨h, e⟩ := List.getElem?_eq_some_iff.1 hrow
      rw [← e]; exact List.set_getElem_self h
    obtain ⟨z, hz⟩ := k1.i6
    rw [hz] at hrow
    have hrow : L[Nat.add 0 i]? = some [iv (z 0), iv (z 1), iv (z 2), iv (z 3), iv (z 4), iv (z 5), a] := by rw [show Nat.add 0 i = i from Nat.zero_add i]; exact hrow
    have hla : lenOf a = some C[i].2.length := hG.lenOf
    have p1 := hG.one
    have hadd2 : binV .add (AV.int .i64 (.ofNat q)) (AV.int .i64 (.ofNat 1)) = some (AV.int .i64 (.ofNat (q + 1))) := add_n (by omega)
    refine WP.pre (hp.trans (pm5 hpk)) ?_
    refine Vr (k := WO.r (.ia hv hi2) (Vr (k := WP.cond rfl (fun hlt1 => ?_) (fun hlt1 => ?_))))
    rotate_left
    · refine WP.exit (Vr (k := ?_))
      exact ⟨n - (i + 1), by omega, rfl, i + 1, rfl, hlt, ⟨L, C, ob, oi, hg, hO, hC, hn, hAs, (pm5 hpk).symm⟩, sbs⟩
    have hlt2 : q < C[i].2.length := Int.ofNat_lt.1 (of_decide_eq_true hlt1)
    obtain ⟨b1, sl1, ha, ho1, hg1⟩ := hG.open hlt2
    obtain ⟨za, hza⟩ : ∃ za zb, C[i].2[q] = [iv za, iv zb] := by
      obtain ⟨a0, _, h0, h1⟩ := (k3 _ (List.getElem_mem hlt2)).invi
      obtain ⟨a1, _, h2, h3⟩ := h1.invi
      exact ⟨a0, a1, by rw [h0, h2, h3.nil_inv]⟩
    obtain ⟨zb, hza⟩ := hza
    have hrow1 : C[i].2[Nat.add 0 q]? = some [iv za, iv zb] := by rw [show Nat.add 0 q = q from Nat.zero_add q, List.getElem?_eq_getElem hlt2, hza]
    have hperm : ∀ x, (x :: (m ++ ((o1 ++ o2) ++ t))).Perm (x :: (b1, HO.r false C[i].2 2) :: (m ++ (o2 ++ t))) := fun x => by rw [ho1]; exact pm2
    refine WP.pre (hperm _) ?_
    refine Vr (k := WO.r (.ia hv hi2) (Vr (k := WO.r (.ia ha hlt2) (Vr (k := WP.cond rfl (fun _ => ?_) (fun _ => ?_))))))
    · refine Vr (k := WO.r (.ia hv hi2) (Vr (k := WO.r (.ia ha hlt2) (Vr (k := WO.w (WS.store rfl rfl rfl (.there .here) hrow1 rfl (Vr (k := ?_))))))))
      obtain ⟨oi', h1, h2, h3, h4⟩ := hcl C[i].1 _ _ (hg1 [iv za, iv (-1)])
      rw [hsame] at h1 h2 h3
      have hlen : ((C.set i (C[i].1, C[i].2.set q [iv za, iv (-1)]))[i]'(by rw [List.length_set]; exact hiC)).2.length = C[i].2.length := by simp
      refine ⟨C[i].2.length - (q + 1), by omega, rfl, q + 1, L, C.set i (C[i].1, C[i].2.set q [iv za, iv (-1)]), _, oi', by rw [List.length_set]; exact hiC, by rw [hlen], by rw [hlen]; exact hlt2, h2, h3, hC.set k1 (by rw [List.length_set]; exact k2) (fun r hr => ?_), by rw [List.length_set]; exact hn, hAs, ?_, sbs⟩
      · rcases List.mem_or_eq_of_mem_set hr with hr | rfl
        · exact k3 r hr
        · exact okr
      · refine ((pm5 h1).trans ?_).symm
        rw [show Nat.add 0 q = q from Nat.zero_add q]
        exact pm6
    · refine Vr (k := ?_)
      exact ⟨C[i].2.length - (q + 1), by omega, rfl, q + 1, L, C, ob, oi, hiC, rfl, hlt2, hg, hO, hC, hn, hAs, ((pm5 hpk).trans (hperm _)).symm, sbs⟩
end
end Go.Ev
set_option maxHeartbeats 8000000
namespace Go.Ev
section
variable {P : Program} {K : Orc} {rd : Option Nat} {nt : Nat} {l : Sl} {ds : List ADef} {s : SH} {Q Qn Qr : Po} {Qe : Nat → Po} {F : Nat → FuncId} {T : Nat → TypeId}
def isFld (k : Int) : Bool := decide (k = 3) || decide (k = 4) || decide (k = 5) || decide (k = 6) || decide (k = 10) || decide (k = 11) || decide (k = 12) || decide (k = 13) || decide (k = 14)
def isObj (k : Int) : Bool := decide (k = 2) || decide (k = 25) || isFld k
def isNam (k : Int) : Bool := decide (k = 1) || decide (k = 7) || decide (k = 8) || decide (k = 9) || decide (k = 20) || decide (k = 21) || decide (k = 23) || decide (k = 24) || decide (k = 26)
theorem object577 (hR : BaseR12 P K F T) {k : Int} : Tri P K (F 577) [iv k] s (fun w s' => w = .tuple [.bool (isObj k), .bool (isFld k)] ∧ s' = s) := by
  refine hR.f577.tri ?_
  unfold a577
  repeat' (refine Vr (k := ?_); first | refine WP.cond rfl (fun h => ?_) (fun h => ?_) | (refine ⟨?_, rfl⟩; simp_all [isObj, isFld, negB, tupV]; done))
theorem named579 (hR : BaseR12 P K F T) {k : Int} : Tri P K (F 579) [iv k] s (fun w s' => w = .bool (isNam k) ∧ s' = s) := by
  refine hR.f579.tri ?_
  unfold a579
  repeat' (refine Vr (k := ?_); first | refine WP.cond rfl (fun h => ?_) (fun h => ?_) | (refine ⟨?_, rfl⟩; simp_all [isNam, negB, tupV]; done))
end
end Go.Ev
set_option maxHeartbeats 8000000
namespace Go.Ev
section
variable {P : Program} {K : Orc} {rd : Option Nat} {nt : Nat} {l : Sl} {ds : List ADef} {s : SH} {Q Qn Qr : Po} {Qe : Nat → Po} {F : Nat → FuncId} {T : Nat → TypeId}
theorem OwnR.erase {m : Nat} {L : List (List AV)} {C : Cn} {o : SH} (h : OwnR m L C o) : ∀ {i : Nat} (hi : i < C.length), ∃ o1 o', OwnR m (L.eraseIdx i) (C.eraseIdx i) o' ∧ o.Perm (o1 ++ o') := by
  induction h with
  | nil => intro i hi; cases hi
  | @snoc r a I L C o o1 hs h ih =>
    intro i hi
    have hL := hs.len
    rw [List.length_append, List.length_singleton] at hi
    by_cases hlt : i < C.length
    · obtain ⟨p1, o', h1, h2⟩ := ih hlt
      refine ⟨p1, o1 ++ o', ?_, (h2.append_left o1).trans pm2⟩
      rw [List.eraseIdx_append_of_lt_length (by omega), List.eraseIdx_append_of_lt_length hlt]
      exact .snoc h1 h
    · have hie : i = C.length := by omega
      subst hie
      refine ⟨o1, o, ?_, .refl _⟩
      rw [List.eraseIdx_append_of_length_le (by omega), List.eraseIdx_append_of_length_le (Nat.le_refl _), hL]
      simpa using hs
theorem CnT.erase {B : Nat} {sc inn : List CT} {C : Cn} (h : CnT B sc inn C) (i : Nat) : CnT B sc inn (C.eraseIdx i) :=
  ⟨Nat.le_trans (List.length_eraseIdx_le ..) h.len, fun p hp => h.row p (List.mem_of_mem_eraseIdx hp)⟩
theorem GrE.slc {sz : Nat} {v : AV} {L : List (List AV)} {o : SH} (h : GrE sz v L o) {i : Nat} (hi : i < L.length) : ∃ b, v = .slice (some ⟨b, 0, 0⟩) L.length L.length true sz ∧ o = [(b, .r false L sz)] := by
  cases h with
  | nil => cases hi
  | rows hne => exact ⟨_, rfl, rfl⟩
theorem pm7 {x : Nat × HO} {a j m oi t p o' : SH} (h : oi.Perm (p ++ o')) : (a ++ (([] : SH) ++ (j ++ (m ++ (([x] ++ oi) ++ t))))).Perm ((j ++ (m ++ (x :: p))) ++ ((a ++ o') ++ t)) := perm_ct fun c w h0 ha hb hq => by
  have e1 := hq _ _ h
  simp only [h0, ha, hb] at e1 ⊢
  omega
theorem cut584 (hR : BaseR12 P K F T) {v : AV} {C : Cn} {B i : Nat} {inn : List CT} {id : Int} {m o t : SH} (hO : OwnN 6 2 v C o) (hC : CnT B sIt inn C) (hB : B ≤ 900000000) (hf : findO C id = some i) (hp : s.Perm (m ++ (o ++ t))) : Tri P K (F 584) [v, iv id] s (fun w s' => ∃ o' m', OwnN 6 2 w (C.eraseIdx i) o' ∧ s'.Perm (m' ++ (o' ++ t))) := by
  refine hR.f584.tri (WP.pre hp ?_)
  unfold a584
  have hb := hC.len
  obtain ⟨hi, -⟩ := List.findIdx?_eq_some_iff_getElem.1 hf
  have hsrc : SrcN (m ++ (o ++ t)) 6 2 v C := hO.src fun p hp => by simp [hp]
  refine Vr (k := WO.w (WS.cl (item616 hR hsrc hC hB (id := id)) ?_))
  rintro _ _ ⟨rfl, rfl⟩
  obtain ⟨L, ob, oi, h1, h2, rfl⟩ := hO
  have hL := h2.len
  obtain ⟨b, rfl, rfl⟩ := h1.slc (i := i) (by omega)
  rw [hf]
  have hh : Has b (.r false (L ++ []) 7) (m ++ (([(b, HO.r false L 7)] ++ oi) ++ t)) := by rw [List.append_nil]; exact .app .here
  have hadd : binV .add (idxV (some i)) (AV.int .i64 (.ofNat 1)) = some (AV.int .i64 (.ofNat (i + 1))) := add_n (by omega)
  have hs1 : Src (m ++ (([(b, HO.r false L 7)] ++ oi) ++ t)) 7 (.slice (some ⟨b, 0, 0⟩) i L.length true 7) (L.take i) := by
    have := Src.rows (r := 0) (n := i) (c := L.length) (sl := true) hh (by simp; omega)
    simpa using this
  refine Vr (k := WO.r (.slc_to rfl rfl (by omega)) (WO.w (WS.append0 hs1 (by decide) (by rw [List.length_take]; omega) (by decide) fun w1 o1 hG1 => Vr (k := ?_))))
  have hh2 : Has b (.r false (L ++ []) 7) (o1 ++ (m ++ (([(b, HO.r false L 7)] ++ oi) ++ t))) := .app hh
  refine WO.rx (WR.slc_tail (n := L.length) (j := i + 1) rfl rfl rfl (by simp) hh2 (by omega) (by omega) (by decide)) fun v3 hS => ?_
  refine WO.w (WS.append_gre (m := []) rfl hG1 rfl hS (by decide) (by simp; omega) (by decide) fun w2 o2 j2 hG2 => Vr (k := ?_))
  obtain ⟨p1, o', h3, h4⟩ := h2.erase hi
  rw [← List.eraseIdx_eq_take_drop_succ] at hG2
  exact ⟨o2 ++ o', _, ⟨_, _, _, hG2, h3, rfl⟩, pm7 h4⟩
end
end Go.Ev
set_option maxHeartbeats 8000000
namespace Go.Ev
section
variable {P : Program} {K : Orc} {rd : Option Nat} {nt : Nat} {l : Sl} {ds : List ADef} {s : SH} {Q Qn Qr : Po} {Qe : Nat → Po} {F : Nat → FuncId} {T : Nat → TypeId}
@[reducible] def obj13 (a : Nat → Int) (b : Nat → Bool) : List AV := [iv (a 0), iv (a 1), iv (a 2), iv (a 3), iv (a 4), .bool (b 0), .bool (b 1), .bool (b 2), iv (a 5), iv (a 6), iv (a 7), iv (a 8), .bool (b 3)]
@[reducible] def obj14 (a : Nat → Int) (b : Nat → Bool) (v : AV) : List AV := [iv (a 0), iv (a 1), iv (a 2), iv (a 3), iv (a 4), .bool (b 0), .bool (b 1), .bool (b 2), iv (a 5), iv (a 6), iv (a 7), iv (a 8), .bool (b 3), v]
theorem CnT.up {B B' : Nat} {sc inn : List CT} {C : Cn} (h : CnT B sc inn C) (hB : B ≤ B') : CnT B' sc inn C := ⟨by have := h.len; omega, fun p hp => by have := h.row p hp; exact ⟨this.1, by omega, this.2.2⟩⟩
theorem ScT.up {B B' N : Nat} {c : SC} (h : ScT B N c) (hB : B ≤ B') : ScT B' N c :=
  { h with ob := h.ob.up hB, lb := ⟨h.lb.1.up hB, h.lb.2⟩, hd := ⟨h.hd.1.up hB, h.hd.2⟩, gr := ⟨h.gr.1.up hB, h.gr.2⟩, ex := ⟨h.ex.1.up hB, h.ex.2⟩, fi := ⟨by have := h.fi.1; omega, h.fi.2⟩, st := h.st.up hB, wa := h.wa.up hB, kt := ⟨by have := h.kt.1; omega, h.kt.2⟩ }
theorem CnT.snoc {B : Nat} {sc inn : List CT} {C : Cn} (h : CnT B sc inn C) {r : List AV} {I : List (List AV)} (hr : OkR [] sc r) (hI : I.length ≤ B + 1) (hq : ∀ q ∈ I, OkR [] inn q) : CnT (B + 1) sc inn (C ++ [(r, I)]) :=
  ⟨by have := h.len; simp; omega, fun p hp => by
    rcases List.mem_append.1 hp with hp | hp
    · exact (h.up (Nat.le_succ B)).row p hp
    · rw [List.mem_singleton.1 hp]; exact ⟨hr, hI, hq⟩⟩
theorem pm8 {x : Nat × HO} {m ow ok r : SH} (h : ow.Perm (ok ++ r)) : (x :: (m ++ ow)).Perm (x :: (m ++ (ok ++ r))) := (h.append_left m).cons _
theorem pm9 {x y z : Nat × HO} {m ob oi r : SH} : (x :: y :: z :: (m ++ ((ob ++ oi) ++ r))).Perm ((x :: y :: z :: m) ++ (ob ++ (oi ++ r))) := by simp
theorem pm10 {x y z : Nat × HO} {m j o2 oi r ow : SH} (h : ow.Perm ((o2 ++ oi) ++ r)) : (o2 ++ ((x :: y :: z :: m) ++ (j ++ (oi ++ r)))).Perm (z :: ((x :: y :: (m ++ j)) ++ ow)) := perm_ct fun c w h0 ha hb hq => by
  have e1 := hq _ _ h
  simp only [ha, hb] at e1 ⊢
  omega
theorem CnT.snoc' {B : Nat} {sc inn : List CT} {C : Cn} (h : CnT B sc inn C) {r : List AV} (hr : OkR [] sc r) : CnT (B + 1) sc inn (C ++ [(r, [])]) := h.snoc hr (Nat.zero_le _) (fun q h => by cases h)
theorem pm11 {x y : Nat × HO} {s m z ow mz : SH} (h : s.Perm (mz ++ (z ++ (y :: (m ++ ow))))) : (x :: s).Perm (y :: ((mz ++ (z ++ m)) ++ ([x] ++ ow))) := perm_ct fun c w h0 ha hb hq => by
  have e1 := hq _ _ h
  simp only [h0, ha, hb] at e1 ⊢
  omega
theorem pm12 {x x2 y : Nat × HO} {s m z ow mz : SH} (h : s.Perm (mz ++ (z ++ (y :: (m ++ ow))))) : (x :: x2 :: s).Perm (y :: ((x2 :: (mz ++ (z ++ m))) ++ ([x] ++ ow))) := perm_ct fun c w h0 ha hb hq => by
  have e1 := hq _ _ h
  simp only [h0, ha, hb] at e1 ⊢
  omega
theorem pm13 {x y : Nat × HO} {s m z ow mz : SH} (h : s.Perm (mz ++ (z ++ (y :: (m ++ ow))))) : (x :: s).Perm ((x :: mz) ++ (z ++ (y :: (m ++ ow)))) := h.cons x
theorem pm14 {x y : Nat × HO} {m z j ow mz : SH} : (z ++ ((x :: mz) ++ (j ++ (y :: (m ++ ow))))).Perm (y :: ((x :: (mz ++ (j ++ m))) ++ (z ++ ow))) := pm2
theorem addTail (hR : BaseR12 P K F T) {bs b4 : Nat} {v : Nat → AV} {n : Nat → Int} {py : Bool} {c : SC} {B N p : Nat} {o : Nat → SH} {m ol t : SH} {w : AV} {Lw : List (List AV)} {a : Nat → Int} {bb : Nat → Bool} (hO : OwnS v c o) (hc : ScT B N c) (hw : GrS 1 w Lw ol) (hLw : Lw.length ≤ B) (hLt : ∀ r ∈ Lw, OkR [] [.i] r) (ha : a 2 = Int.ofNat p) (hpN : p < N)
    (h4 : Has b4 (.r false [obj14 a bb nilS] 14) s) (hp : s.Perm ((bs, .r false [stRow v n py] 25) :: (m ++ (ol ++ own o t)))) (hlk : ∀ j x, lk [(0, .ptr (some ⟨bs, 0, 0⟩)), (4, .ptr (some ⟨b4, 0, 0⟩)), (6, w)] j = some x → lk l j = some x) :
    WP P K none 74 (.seq (.ops [⟨(some 64), (.faddr 4 (.tmp 4)), none⟩, ⟨(some 65), (.load false 1 (.tmp 64)), none⟩, ⟨(some 66), (.eql true .pi (.tmp 65) (.const (.int .i64 (.ofNat 5)))), none⟩]) (.cond (.tmp 66) (.ops [⟨(some 67), (.mv (.tmp 0)), none⟩, ⟨(some 68), (.faddr 4 (.tmp 4)), none⟩, ⟨(some 69), (.load false 1 (.tmp 68)), none⟩, ⟨(some 70), (.faddr 2 (.tmp 4)), none⟩, ⟨(some 71), (.load false 1 (.tmp 70)), none⟩, ⟨(some 72), (.mv (.tmp 6)), none⟩, ⟨(some 73), (.call (.func (F 619)) [(.tmp 67), (.tmp 69), (.tmp 71), (.tmp 72)]), none⟩]) .skip)) l [] s
      (Fin P [] fun _ s' => ∃ v' n' c', StX bs v' n' py c' t s' ∧ ScT B N c') (fun _ _ _ _ => False) (Fin P [] fun _ s' => ∃ v' n' c', StX bs v' n' py c' t s' ∧ ScT B N c') := by
  refine WP.weak hlk (fun _ _ h => h) ?_
  refine Vr (k := WP.cond rfl (fun _ => ?_) (fun _ => ?_))
  · have hset := set619 hR (z := a 4) hO hc hp hw hLw hLt hpN
    rw [← ha] at hset
    refine Vr (k := WO.w (WS.cl hset ?_))
    rintro _ s9 ⟨v', c', hX, hc', -⟩
    refine Vr (k := ?_)
    exact Fin.mk .nil ⟨v', n, c', hX, hc'⟩
  · refine Vr (k := ?_)
    exact Fin.mk .nil ⟨v, n, c, ⟨o, m ++ ol, hO, by rw [List.append_assoc]; exact hp⟩, hc⟩
theorem add583 (hR : BaseR12 P K F T) {bs : Nat} {v : Nat → AV} {n : Nat → Int} {py : Bool} {c : SC} {B N p : Nat} {t : SH} {a : Nat → Int} {bb : Nat → Bool} {first : Bool} (hs : StX bs v n py c t s) (hc : ScT B N c) (hB : B ≤ 800000000) (ha : a 2 = Int.ofNat p) (hpN : p < N) :
    Tri P K (F 583) [.ptr (some ⟨bs, 0, 0⟩), .agg (obj14 a bb nilS), .bool first] s (fun _ s' => ∃ v' n' c', StX bs v' n' py c' t s' ∧ ScT (B + 2) N c') := by
  obtain ⟨o, m, hO, hp⟩ := hs
  refine hR.f583.tri (WP.pre (hp.trans (pm8 (own_at (k := 1) (by decide)))) ?_)
  unfold a583
  obtain ⟨k1, hk1⟩ : ∃ k, binV .add (iv (n 6)) (AV.int .i64 (.ofNat 1)) = some (iv k) := ⟨_, add_w _ _⟩
  obtain ⟨k2, hk2⟩ : ∃ k, binV .add (iv (n 7)) (AV.int .i64 (.ofNat 1)) = some (iv k) := ⟨_, add_w _ _⟩
  refine Vr (k := fun b4 => Vr (k := WP.cond rfl (fun _ => ?_) (fun _ => ?_)))
  · refine Vr (k := ?_)
    refine WP.pre (s' := (b4, .r false [obj14 (upd (upd a 0 (n 6)) 6 (n 7)) (upd bb 1 true) nilS] 14) :: (bs, .r false [stRow v (upd (upd n 6 k1) 7 k2) py] 25) :: (m ++ (o 1 ++ rest 1 o t))) (.refl _) ?_
    have ha1 : (upd (upd a 0 (n 6)) 6 (n 7)) 2 = Int.ofNat p := ha
    generalize hA : (upd (upd a 0 (n 6)) 6 (n 7)) = a1 at ha1
    generalize hBb : (upd bb 1 true) = b1
    generalize hn1 : (upd (upd n 6 k1) 7 k2) = n1
    obtain ⟨L, ob, oi, g1, g2, g3⟩ := hO.ob
    have hL := g2.len
    have hLB := hc.ob.len
    rw [g3]
    refine Vr (k := WP.drawn1 fun b41 => Vr (k := WD.al (.bslice (bsrows1 rfl rfl) rfl) rfl ?_))
    refine WD.ch (.yes (show bit 126 6 = true from rfl) rfl .here .nil) (WS.pre pm9 (WS.append_gre (N := [obj14 a1 b1 nilS]) rfl g1 rfl (Src.all .here) (by decide) (by simp; omega) (by decide) fun w2 o2 j2 hG2 => ?_))
    have p2 := hG2.one
    refine Vr (k := WD.ch .nil (WS.store rfl rfl p2 (.app (.there (.there .here))) rfl rfl (Vr (k := ?_))))
    have hO2 : OwnS (upd v 1 w2) { c with ob := c.ob ++ [(obj13 a1 b1, [])] } (upd o 1 (o2 ++ oi)) := hO.u1 ⟨_, _, _, hG2, .snoc (r := obj13 a1 b1) (o1 := []) g2 .nil, rfl⟩
    have how : ∀ q ∈ c.ob ++ [(obj13 a1 b1, [])], ∃ j : Nat, q.1[2]? = some (iv (.ofNat j)) ∧ j < N := fun q hq => by
      rcases List.mem_append.1 hq with hq | hq
      · exact hc.ow q hq
      · rw [List.mem_singleton.1 hq]; exact ⟨p, by show some (iv (a1 2)) = _; rw [ha1], hpN⟩
    have hc2 : ScT (B + 1) N { c with ob := c.ob ++ [(obj13 a1 b1, [])] } := { hc.up (Nat.le_succ B) with ob := hc.ob.snoc' okr, ow := how }
    have hzone := fun {s' : SH} (h : SrcS s' (upd v 1 w2) { c with ob := c.ob ++ [(obj13 a1 b1, [])] }) => zone621 (s := s') hR (n := n1) (py := py) (z := a1 4) h hc2 (by omega) hpN
    rw [← ha1] at hzone
    refine WD.ch .nil (WS.pre (pm10 (own_upd (k := 1) (x := o2 ++ oi) (by decide))) (WS.cl (hzone (hO2.src.mono fun q hq => List.mem_cons_of_mem _ (List.mem_append_right _ hq))) ?_))
    rintro w3 s3 ⟨Lz, oz, mz, hGz, hLz, hTz, hpz⟩
    refine Vr (k := ?_)
    have hc3 := hc2.up (Nat.le_succ (B + 1))
    have hsz : Src s3 1 w3 Lz := hGz.src fun q hq => hpz.symm.subset (List.mem_append_right _ (List.mem_append_left _ hq))
    have h4 : Has b4 (.r false [obj14 a1 b1 nilS] 14) s3 := Has.of_mem (hpz.symm.subset (by simp))
    refine WP.cond rfl (fun _ => ?_) (fun _ => ?_)
    · refine Vr (k := WO.a (.bslice (bsrows1 rfl rfl) rfl) fun b56 => Vr (k := ?_))
      by_cases hz : Lz = []
      · subst hz
        refine WO.w (WS.append_none rfl rfl (hsz.mono fun q hq => List.mem_cons_of_mem _ hq) (by decide) (Nat.le_refl _) (WO.r (.mv rfl) (WO.nil ?_)))
        exact addTail hR hO2 hc3 (GrS.rows (sl := false) (b := b56) (L := [[iv (a1 0)]]) (by simp)) (by simp) (fun r hr => by rw [List.mem_singleton.1 hr]; exact okr) ha1 hpN (.there h4) (pm11 hpz) sbs
      · refine WO.w (WS.append_new rfl .here (Nat.le_refl _) rfl (hsz.mono fun q hq => List.mem_cons_of_mem _ hq) (by decide) (by have := List.length_pos_iff.2 hz; simp; omega) (by simp; omega) (by decide) fun b57 => WO.r (.mv rfl) (WO.nil ?_))
        have hG57 : GrS 1 (.slice (some ⟨b57, 0, 0⟩) (1 + Lz.length) (1 + Lz.length) true 1) ([iv (a1 0)] :: Lz) [(b57, .r false ([iv (a1 0)] :: Lz) 1)] := by
          have := GrS.rows (sz := 1) (b := b57) (sl := true) (L := [iv (a1 0)] :: Lz) (by simp)
          rwa [List.length_cons, Nat.add_comm] at this
        exact addTail hR hO2 hc3 hG57 (by simp; omega) (fun r hr => by
          rcases List.mem_cons.1 hr with rfl | hr
          · exact okr
          · exact hTz r hr) ha1 hpN (.there (.there h4)) (pm12 hpz) sbs
    · refine Vr (k := WO.a (.bslice (bsrows1 rfl rfl) rfl) fun b62 => ?_)
      refine WO.w (WS.pre (pm13 hpz) (WS.append_gre (N := [[iv (a1 0)]]) rfl hGz rfl (Src.all .here) (by decide) (by simp; omega) (by decide) fun w4 o4 j4 hG4 => WO.r (.mv rfl) (WO.nil ?_)))
      exact addTail hR hO2 hc3 hG4.toS (by simp; omega) (fun r hr => by
          rcases List.mem_append.1 hr with hr | hr
          · exact hTz r hr
          · rw [List.mem_singleton.1 hr]; exact okr) ha1 hpN (bb := b1) (.app (.app (.app (.there (.there .here))))) pm14 sbs
  · refine Vr (k := ?_)
    refine WP.pre (s' := (b4, .r false [obj14 (upd a 0 (n 6)) (upd bb 9 false) nilS] 14) :: (bs, .r false [stRow v (upd n 6 k1) py] 25) :: (m ++ (o 1 ++ rest 1 o t))) (.refl _) ?_
    have ha1 : (upd a 0 (n 6)) 2 = Int.ofNat p := ha
    generalize hA : (upd a 0 (n 6)) = a1 at ha1
    generalize hBb : (upd bb 9 false) = b1
    generalize hn1 : (upd n 6 k1) = n1
    obtain ⟨L, ob, oi, g1, g2, g3⟩ := hO.ob
    have hL := g2.len
    have hLB := hc.ob.len
    rw [g3]
    refine Vr (k := WP.drawn1 fun b41 => Vr (k := WD.al (.bslice (bsrows1 rfl rfl) rfl) rfl ?_))
    refine WD.ch (.yes (show bit 126 6 = true from rfl) rfl .here .nil) (WS.pre pm9 (WS.append_gre (N := [obj14 a1 b1 nilS]) rfl g1 rfl (Src.all .here) (by decide) (by simp; omega) (by decide) fun w2 o2 j2 hG2 => ?_))
    have p2 := hG2.one
    refine Vr (k := WD.ch .nil (WS.store rfl rfl p2 (.app (.there (.there .here))) rfl rfl (Vr (k := ?_))))
    have hO2 : OwnS (upd v 1 w2) { c with ob := c.ob ++ [(obj13 a1 b1, [])] } (upd o 1 (o2 ++ oi)) := hO.u1 ⟨_, _, _, hG2, .snoc (r := obj13 a1 b1) (o1 := []) g2 .nil, rfl⟩
    have how : ∀ q ∈ c.ob ++ [(obj13 a1 b1, [])], ∃ j : Nat, q.1[2]? = some (iv (.ofNat j)) ∧ j < N := fun q hq => by
      rcases List.mem_append.1 hq with hq | hq
      · exact hc.ow q hq
      · rw [List.mem_singleton.1 hq]; exact ⟨p, by show some (iv (a1 2)) = _; rw [ha1], hpN⟩
    have hc2 : ScT (B + 1) N { c with ob := c.ob ++ [(obj13 a1 b1, [])] } := { hc.up (Nat.le_succ B) with ob := hc.ob.snoc' okr, ow := how }
    have hzone := fun {s' : SH} (h : SrcS s' (upd v 1 w2) { c with ob := c.ob ++ [(obj13 a1 b1, [])] }) => zone621 (s := s') hR (n := n1) (py := py) (z := a1 4) h hc2 (by omega) hpN
    rw [← ha1] at hzone
    refine WD.ch .nil (WS.pre (pm10 (own_upd (k := 1) (x := o2 ++ oi) (by decide))) (WS.cl (hzone (hO2.src.mono fun q hq => List.mem_cons_of_mem _ (List.mem_append_right _ hq))) ?_))
    rintro w3 s3 ⟨Lz, oz, mz, hGz, hLz, hTz, hpz⟩
    refine Vr (k := ?_)
    have hc3 := hc2.up (Nat.le_succ (B + 1))
    have hsz : Src s3 1 w3 Lz := hGz.src fun q hq => hpz.symm.subset (List.mem_append_right _ (List.mem_append_left _ hq))
    have h4 : Has b4 (.r false [obj14 a1 b1 nilS] 14) s3 := Has.of_mem (hpz.symm.subset (by simp))
    refine WP.cond rfl (fun _ => ?_) (fun _ => ?_)
    · refine Vr (k := WO.a (.bslice (bsrows1 rfl rfl) rfl) fun b56 => Vr (k := ?_))
      by_cases hz : Lz = []
      · subst hz
        refine WO.w (WS.append_none rfl rfl (hsz.mono fun q hq => List.mem_cons_of_mem _ hq) (by decide) (Nat.le_refl _) (WO.r (.mv rfl) (WO.nil ?_)))
        exact addTail hR hO2 hc3 (GrS.rows (sl := false) (b := b56) (L := [[iv (a1 0)]]) (by simp)) (by simp) (fun r hr => by rw [List.mem_singleton.1 hr]; exact okr) ha1 hpN (.there h4) (pm11 hpz) sbs
      · refine WO.w (WS.append_new rfl .here (Nat.le_refl _) rfl (hsz.mono fun q hq => List.mem_cons_of_mem _ hq) (by decide) (by have := List.length_pos_iff.2 hz; simp; omega) (by simp; omega) (by decide) fun b57 => WO.r (.mv rfl) (WO.nil ?_))
        have hG57 : GrS 1 (.slice (some ⟨b57, 0, 0⟩) (1 + Lz.length) (1 + Lz.length) true 1) ([iv (a1 0)] :: Lz) [(b57, .r false ([iv (a1 0)] :: Lz) 1)] := by
          have := GrS.rows (sz := 1) (b := b57) (sl := true) (L := [iv (a1 0)] :: Lz) (by simp)
          rwa [List.length_cons, Nat.add_comm] at this
        exact addTail hR hO2 hc3 hG57 (by simp; omega) (fun r hr => by
          rcases List.mem_cons.1 hr with rfl | hr
          · exact okr
          · exact hTz r hr) ha1 hpN (.there (.there h4)) (pm12 hpz) sbs
    · refine Vr (k := WO.a (.bslice (bsrows1 rfl rfl) rfl) fun b62 => ?_)
      refine WO.w (WS.pre (pm13 hpz) (WS.append_gre (N := [[iv (a1 0)]]) rfl hGz rfl (Src.all .here) (by decide) (by simp; omega) (by decide) fun w4 o4 j4 hG4 => WO.r (.mv rfl) (WO.nil ?_)))
      exact addTail hR hO2 hc3 hG4.toS (by simp; omega) (fun r hr => by
          rcases List.mem_append.1 hr with hr | hr
          · exact hTz r hr
          · rw [List.mem_singleton.1 hr]; exact okr) ha1 hpN (bb := b1) (.app (.app (.app (.there (.there .here))))) pm14 sbs
end
end Go.Ev
set_option maxHeartbeats 8000000
namespace Go.Ev
section
variable {P : Program} {K : Orc} {rd : Option Nat} {nt : Nat} {l : Sl} {ds : List ADef} {s : SH} {Q Qn Qr : Po} {Qe : Nat → Po} {F : Nat → FuncId} {T : Nat → TypeId}
theorem WS.append_grs {R : AV → List ADef → SH → Prop} {sz bytes : Nat} {ss x : Operand} {sv xv : AV} {L N : List (List AV)} {m o t : SH} (ho : GrS sz sv L o) (hN : Src (m ++ (o ++ t)) sz xv N) (hne : N ≠ []) (hz : sz ≠ 0) (h1 : L.length + N.length ≤ 1000000000) (h2 : bytes ≤ 1000)
    (k : ∀ v o' j, GrE sz v (L ++ N) o' → R v ds (o' ++ (m ++ (j ++ t)))) (hs : opl l ss = some sv := by exact rfl) (hx : opl l x = some xv := by exact rfl) : WS P K (.append sz bytes ss x) l ds (m ++ (o ++ t)) R := by
  cases ho with
  | nil => exact WS.append_gre hs .nil hx hN hz h1 h2 k
  | @rows b sl L hL =>
    cases sl with
    | true => exact WS.append_gre hs (.rows hL) hx hN hz h1 h2 k
    | false =>
      refine WS.append_new hs (.app .here) (by omega) hx hN hz (by have := List.length_pos_iff.2 hne; omega) h1 h2 fun b' => ?_
      have := k (.slice (some ⟨b', 0, 0⟩) (L.length + N.length) (L.length + N.length) true sz) [(b', .r false (L ++ N) sz)] [(b, .r false L sz)] (by rw [← List.length_append]; exact .rows (by simp [hL]))
      simp only [List.drop_zero, List.take_length]
      exact this
@[reducible] def evRow (e : Nat → Int) (lv tv : AV) : List AV := [iv (e 0), iv (e 1), iv (e 2), iv (e 3), iv (e 4), lv, iv (e 5), iv (e 6), iv (e 7), iv (e 8), iv (e 9), iv (e 10), tv]
theorem pm15 {x y : Nat × HO} {m o1 o2 r ow ok : SH} (h1 : ow.Perm (ok ++ r)) (h2 : ok.Perm (x :: (o1 ++ o2))) : (y :: (m ++ ow)).Perm (x :: y :: (m ++ ((o1 ++ o2) ++ r))) := pm1 (ol := []) h1 h2
theorem pm16 {x y : Nat × HO} {m o1 o2 r ow ok : SH} (h1 : ow.Perm (ok ++ r)) (h2 : ok.Perm (x :: (o1 ++ o2))) : (x :: y :: (m ++ ((o1 ++ o2) ++ r))).Perm (y :: (m ++ ow)) := (pm15 h1 h2).symm
theorem pm17 {x y z : Nat × HO} {m2 Y : SH} : (m2 ++ (z :: x :: y :: Y)).Perm (x :: y :: z :: (m2 ++ Y)) := pm2
theorem pm18 {x y z : Nat × HO} {m2 m Y : SH} : (x :: y :: z :: (m2 ++ (m ++ Y))).Perm (x :: y :: ((z :: (m2 ++ m)) ++ Y)) := by simp
theorem thingFin {bs b i : Nat} {v : Nat → AV} {n' : Nat → Int} {py : Bool} {c : SC} {B N : Nat} {o : Nat → SH} {m t o2 : SH} {L : List (List AV)} {a' : AV} {z z' : Nat → Int} {zb' : Nat → Bool} {I' : List (List AV)} {o1' : SH} (hO : OwnS v c o) (hc : ScT B N c) (hi : i < c.ob.length) (hz : z' 2 = z 2) (hob : ∃ zb, c.ob[i].1 = obj13 z zb)
    (hcl : ∃ o', o'.Perm ((b, .r false (L.set i (obj13 z' zb' ++ [a'])) 14) :: (o1' ++ o2)) ∧ OwnN 13 4 (v 1) (c.ob.set i (obj13 z' zb', I')) o') (hI : I'.length ≤ B + 1) (hq : ∀ q ∈ I', OkR [] rEf q)
    (hp : s.Perm ((b, .r false (L.set (Nat.add 0 i) (obj14 z' zb' a')) 14) :: (bs, .r false [stRow v n' py] 25) :: (m ++ ((o1' ++ o2) ++ rest 1 o t)))) : ∃ v' n' c', StX bs v' n' py c' t s ∧ ScT (B + 2) N c' := by
  obtain ⟨o', h1, h2⟩ := hcl
  obtain ⟨zb, hob⟩ := hob
  refine ⟨upd v 1 (v 1), n', _, ⟨_, m, hO.u1 h2, hp.trans ?_⟩, ?_⟩
  · rw [show Nat.add 0 i = i from Nat.zero_add i]
    exact pm16 (own_upd (k := 1) (by decide)) h1
  · refine ScT.up (B := B + 1) { hc.up (Nat.le_succ B) with ob := (hc.ob.up (Nat.le_succ B)).set okr hI hq, ow := fun p hp => ?_ } (by omega)
    rcases List.mem_or_eq_of_mem_set hp with hp | rfl
    · exact hc.ow p hp
    · obtain ⟨j, hj, hjN⟩ := hc.ow _ (List.getElem_mem hi)
      rw [hob] at hj
      refine ⟨j, ?_, hjN⟩
      show some (iv (z' 2)) = _
      rw [hz]; exact hj
end
end Go.Ev
set_option maxHeartbeats 8000000
namespace Go.Ev
section
variable {P : Program} {K : Orc} {rd : Option Nat} {nt : Nat} {l : Sl} {ds : List ADef} {s : SH} {Q Qn Qr : Po} {Qe : Nat → Po} {F : Nat → FuncId} {T : Nat → TypeId}
theorem pm19 {x y z : Nat × HO} {m2 m o1 o2 R : SH} : (x :: y :: z :: (m2 ++ (m ++ ((o1 ++ o2) ++ R)))).Perm (x :: y :: ((z :: (m2 ++ (m ++ o1))) ++ ((([] : SH) ++ o2) ++ R))) := pm2
theorem pm20 {w x y z : Nat × HO} {m2 m o1 o2 R : SH} : (w :: x :: y :: z :: (m2 ++ (m ++ ((o1 ++ o2) ++ R)))).Perm ((w :: x :: y :: z :: (m2 ++ m)) ++ (o1 ++ (o2 ++ R))) := by simp
theorem pm21 {w x y z : Nat × HO} {m2 m o3 j o2 R : SH} : (o3 ++ ((w :: x :: y :: z :: (m2 ++ m)) ++ (j ++ (o2 ++ R)))).Perm (x :: y :: ((w :: z :: (m2 ++ (m ++ j))) ++ ((o3 ++ o2) ++ R))) := pm2
theorem thing578 (hR : BaseR12 P K F T) {bs i : Nat} {v : Nat → AV} {n : Nat → Int} {py : Bool} {c : SC} {B N : Nat} {t : SH} {e : Nat → Int} {lv tv : AV} (hs : StX bs v n py c t s) (hc : ScT B N c) (hB : B ≤ 800000000) (hf : findO c.ob (e 1) = some i) (hlv : partCells 1 lv = some [lv]) (htv : partCells 1 tv = some [tv]) :
    Tri P K (F 578) [.ptr (some ⟨bs, 0, 0⟩), .agg (evRow e lv tv)] s (fun _ s' => ∃ v' n' c', StX bs v' n' py c' t s' ∧ ScT (B + 2) N c') := by
  obtain ⟨o, m, hO, hp⟩ := hs
  obtain ⟨hi, -⟩ := List.findIdx?_eq_some_iff_getElem.1 hf
  obtain ⟨b, L, a, o1, o2, hv, hi2, hrow, hG, hpk, hcl⟩ := hO.ob.open hi
  obtain ⟨k1, k2, k3⟩ := hc.ob.li hi
  obtain ⟨z, zb, hz⟩ := k1.ob13
  have hrow : L[Nat.add 0 i]? = some (obj14 z zb a) := by rw [show Nat.add 0 i = i from Nat.zero_add i, hrow, hz]; rfl
  have p1 := hG.one
  have hsub : ∀ p, p ∈ o 1 → p ∈ (b, HO.r false L 14) :: (bs, .r false [stRow v n py] 25) :: (m ++ ((o1 ++ o2) ++ rest 1 o t)) := fun p hp => by
    have := hpk.subset hp
    simp at this ⊢
    rcases this with h | h | h
    · exact .inl h
    · exact .inr (.inr (.inr (.inl h)))
    · exact .inr (.inr (.inr (.inr (.inl h))))
  refine hR.f578.tri (WP.pre (hp.trans (pm15 (own_at (k := 1) (by decide)) hpk)) ?_)
  unfold a578
  refine Vr (k := fun b3 => Vr (k := WD.lk rfl .nil .ld ?_))
  have hsrc := hO.ob.src hsub
  refine Vr (k := WD.ch .nil (WS.cl (find581 hR (hsrc.mono fun p hp => List.mem_cons_of_mem _ hp) hc.ob (by omega)) ?_))
  rintro _ _ ⟨rfl, m2, rfl⟩
  rw [hf]
  have hsm : sameV (v 1) (v 1) = true := by obtain ⟨L', h, -⟩ := hsrc; exact h.sm 5
  refine WD.pu (.ia hv hi2) (WD.pu (.mv rfl) (WD.nil .nil ?_ (ob1 rfl rfl hsm .ld .ld)))
  refine WP.pre pm17 ?_
  have fin : ∀ (z' : Nat → Int) (zb' : Nat → Bool) (n' : Nat → Int) {s' : SH}, z' 2 = z 2 → s'.Perm ((b, .r false (L.set (Nat.add 0 i) (obj14 z' zb' a)) 14) :: (bs, .r false [stRow v n' py] 25) :: (b3, .r false [evRow e lv tv] 13) :: (m2 ++ (m ++ ((o1 ++ o2) ++ rest 1 o t)))) → ∃ v' n' c', StX bs v' n' py c' t s' ∧ ScT (B + 2) N c' := fun z' zb' n' s' h2 hp' =>
    thingFin hO hc hi h2 ⟨zb, hz⟩ (hcl (obj13 z' zb') a _ o1 hG) (by omega) k3 (hp'.trans pm18)
  obtain ⟨k5, hk5⟩ : ∃ k, binV .add (iv (z 5)) (iv (e 3)) = some (iv k) := ⟨_, add_w _ _⟩
  obtain ⟨k7, hk7⟩ : ∃ k, binV .add (iv (n 7)) (AV.int .i64 (.ofNat 1)) = some (iv k) := ⟨_, add_w _ _⟩
  refine Vr (k := ?_)
  refine WP.cond rfl (fun _ => ?_) (fun _ => ?_)
  · refine Vr (k := WO.w (WS.store rfl rfl rfl .here hrow rfl (Vr (k := ?_))))
    exact Fin.mk .nil (fin z (upd zb 0 _) n rfl (.refl _))
  refine Vr (k := ?_)
  refine WP.cond rfl (fun _ => ?_) (fun _ => ?_)
  · refine Vr (k := WO.w (WS.store rfl rfl rfl .here hrow rfl (Vr (k := ?_))))
    exact Fin.mk .nil (fin z (upd zb 1 _) n rfl (.refl _))
  refine Vr (k := ?_)
  refine WP.cond rfl (fun _ => ?_) (fun _ => ?_)
  · refine Vr (k := WO.w (WS.store rfl rfl rfl .here hrow rfl (Vr (k := ?_))))
    exact Fin.mk .nil (fin z (upd zb 3 _) n rfl (.refl _))
  refine Vr (k := ?_)
  refine WP.cond rfl (fun _ => ?_) (fun _ => ?_)
  · refine WP.drawn0 (WD.pu (.mv rfl) (WD.pu (.mv rfl) (WD.pu (.nilchk rfl rfl) (WD.pu (.faddr rfl) (WD.ld rfl .nil (.load rfl .here hrow rfl rfl) (Vr (k := ?_)))))))
    refine WD.ch .nil (WS.cl (clamp618 hR) ?_)
    rintro _ _ ⟨⟨k, rfl⟩, rfl⟩
    refine Vr (k := WD.ch .nil (WS.store rfl rfl rfl .here hrow rfl (Vr (k := ?_))))
    exact Fin.mk .nil (fin (upd z 5 k) zb n rfl (.refl _))
  refine Vr (k := ?_)
  refine WP.cond rfl (fun _ => ?_) (fun _ => ?_)
  · refine Vr (k := WO.w (WS.store rfl rfl rfl .here hrow rfl (Vr (k := ?_))))
    exact Fin.mk .nil (fin (upd z 5 0) zb n rfl (.refl _))
  refine Vr (k := ?_)
  refine WP.cond rfl (fun _ => ?_) (fun _ => ?_)
  · refine WP.seq (WP.drawn1 fun b78 => WD.pu (.mv rfl) (WD.pu (.mv rfl) (WD.pu (.nilchk rfl rfl) (WD.pu (.faddr rfl) (WD.ld rfl .nil (.load rfl (.there .here) hrow rfl rfl) (Vr (k := ?_)))))))
    refine WD.al (.bslice (bsrows1 rfl rfl) rfl) rfl ?_
    refine WD.ch (.yes (show bit 131070 16 = true from rfl) rfl .here .nil) (WS.pre pm20 (WS.append_grs (N := [[iv (e 2), iv (e 3), iv (e 4), iv (n 7)]]) hG (Src.all .here) (by simp) (by decide) (by simp; omega) (by decide) fun w2 o3 j3 hG2 => ?_))
    have p2 := hG2.one
    refine WD.pu (.nilchk rfl rfl) (WD.pu (.faddr rfl) (WD.ch .nil (WS.store rfl rfl p2 (.app (.there .here)) hrow rfl (Vr (k := ?_)))))
    exact Fin.mk .nil (thingFin (n' := upd n 7 k7) hO hc hi (z' := z) (zb' := zb) rfl ⟨zb, hz⟩ (hcl (obj13 z zb) w2 _ o3 hG2.toS) (by simp; omega) (fun q hq => by
      rcases List.mem_append.1 hq with hq | hq
      · exact k3 q hq
      · rw [List.mem_singleton.1 hq]; exact okr) pm21)
  refine Vr (k := ?_)
  refine WP.cond rfl (fun _ => ?_) (fun _ => ?_)
  · refine Vr (k := WO.w (WS.store rfl rfl rfl .here hrow rfl (Vr (k := ?_))))
    exact Fin.mk .nil (thingFin hO hc hi (z' := z) (zb' := zb) rfl ⟨zb, hz⟩ (hcl (obj13 z zb) nilS [] [] .nil) (Nat.zero_le _) (fun q h => by cases h) pm19)
  refine Vr (k := ?_)
  refine WP.cond rfl (fun _ => ?_) (fun _ => ?_)
  · refine Vr (k := WO.w (WS.store rfl rfl rfl .here hrow rfl (Vr (k := ?_))))
    exact Fin.mk .nil (fin (upd z 7 _) zb n rfl (.refl _))
  refine Vr (k := ?_)
  refine WP.cond rfl (fun _ => ?_) (fun _ => ?_)
  · refine Vr (k := WO.w (WS.store rfl rfl rfl .here hrow rfl (Vr (k := ?_))))
    exact Fin.mk .nil (fin (upd z 8 _) zb n rfl (.refl _))
  · refine Vr (k := ?_)
    have hL : L.set (Nat.add 0 i) (obj14 z zb a) = L := by
      obtain ⟨h, e⟩ := List.getElem?_eq_some_iff.1 hrow
      rw [← e]; exact List.set_getElem_self h
    exact Fin.mk .nil (fin z zb n rfl (by rw [hL]))
end
end Go.Ev
set_option maxHeartbeats 8000000
namespace Go.Ev
section
variable {P : Program} {K : Orc} {rd : Option Nat} {nt : Nat} {l : Sl} {ds : List ADef} {s : SH} {Q Qn Qr : Po} {Qe : Nat → Po} {F : Nat → FuncId} {T : Nat → TypeId}
theorem pm22 {x y : Nat × HO} {m r ow : SH} (h1 : ow.Perm ([x] ++ r)) : (y :: (m ++ ow)).Perm (x :: y :: (m ++ r)) := perm_ct fun c w h0 ha hb hq => by
  have e1 := hq _ _ h1
  simp only [h0, ha, hb] at e1 ⊢
  omega
theorem pm23 {x y z : Nat × HO} {m r : SH} : (x :: y :: z :: (m ++ r)).Perm (y :: z :: ((x :: m) ++ r)) := pm2
theorem pm24 {x y z : Nat × HO} {m r ow : SH} (h : ow.Perm ([x] ++ r)) : (z :: x :: y :: (m ++ r)).Perm (y :: ((z :: m) ++ ow)) := perm_ct fun c w h0 ha hb hq => by
  have e1 := hq _ _ h
  simp only [h0, ha, hb] at e1 ⊢
  omega
theorem WR.iaddrAi {l : Sl} {n sz : Nat} {x i : Operand} {b r o : Nat} {q : IntKind} {j : Nat} {z : Int} (hz : z = Int.ofNat j) (hj : j < n) (hx : opl l x = some (.ptr (some ⟨b, r, o⟩)) := by exact rfl) (hi : opl l i = some (.int q z) := by exact rfl) : WR P (.iaddrA n sz x i) l s (.ptr (some ⟨b, r, Nat.add o (Nat.mul j sz)⟩)) := by
  subst hz
  refine WR.mk' (fun _ _ _ _ _ => rfl) (fun e H he => ?_)
  have h1 : Nat.blt j n = true := Nat.ble_eq_true_of_le hj
  simp only [aval, opl_ok he hx, opl_ok he hi, h1, elemAt]
theorem pm13' {x : Nat × HO} {m y : SH} : (x :: (m ++ y)).Perm ((x :: m) ++ y) := .refl _
theorem pm25 {x : Nat × HO} {o m j H : SH} : (o ++ ((x :: m) ++ (j ++ H))).Perm ((x :: (m ++ j)) ++ (o ++ H)) := pm2
theorem pm26 {y : Nat × HO} {H m ow mm oo : SH} (h : H.Perm (y :: (m ++ ow))) : (mm ++ (oo ++ H)).Perm (y :: ((mm ++ m) ++ (oo ++ ow))) := perm_ct fun c w h0 ha hb hq => by
  have e1 := hq _ _ h
  simp only [ha, hb] at e1 ⊢
  omega
theorem personFin {bs bp A : Nat} {v : Nat → AV} {n' : Nat → Int} {py : Bool} {c : SC} {B N : Nat} {o : Nat → SH} {m t : SH} {r' : List AV} (hO : OwnS v c o) (hc : ScT B N c) (hcl : GrE 8 (v 0) (c.pl.set A r') [(bp, .r false (c.pl.set A r') 8)]) (hr : OkR [] rPl r')
    (hp : s.Perm ((bp, .r false (c.pl.set (Nat.add 0 A) r') 8) :: (bs, .r false [stRow v n' py] 25) :: (m ++ rest 0 o t))) : ∃ v' n' c', StX bs v' n' py c' t s ∧ ScT (B + 2) N c' := by
  refine ⟨upd v 0 (v 0), n', _, ⟨_, m, hO.u0 hcl, hp.trans ?_⟩, ?_⟩
  · rw [show Nat.add 0 A = A from Nat.zero_add A]
    exact (pm22 (own_upd (k := 0) (by decide))).symm
  · refine ScT.up (B := B) { hc with pl := ⟨by rw [List.length_set]; exact hc.pl.1, fun r hr2 => ?_⟩ } (by omega)
    rcases List.mem_or_eq_of_mem_set hr2 with h | rfl
    · exact hc.pl.2 r h
    · exact hr
theorem person580 (hR : BaseR12 P K F T) {bs A : Nat} {v : Nat → AV} {n : Nat → Int} {py : Bool} {c : SC} {B N : Nat} {t : SH} {e : Nat → Int} {lv tv : AV} {Ll : List (List AV)} (hs : StX bs v n py c t s) (hc : ScT B N c) (hB : B ≤ 800000000) (hA : e 1 = Int.ofNat A) (hAN : A < N) (hlv : Src t 1 lv Ll) (htv : partCells 1 tv = some [tv])
    (hm : e 0 = 8 → ∃ j : Nat, e 2 = Int.ofNat j ∧ j < 4) (hl : e 0 = 26 → ∃ hA : A < c.lb.length, Ll.length = c.lb[A].2.length ∧ ∀ r ∈ Ll, ∃ j, j < c.lb[A].2.length ∧ r = [iv (.ofNat j)]) :
    Tri P K (F 580) [.ptr (some ⟨bs, 0, 0⟩), .agg (evRow e lv tv)] s (fun _ s' => ∃ v' n' c', StX bs v' n' py c' t s' ∧ ScT (B + 2) N c') := by
  obtain ⟨o, m, hO, hp⟩ := hs
  have hAl : A < c.pl.length := by rw [hc.pl.1]; exact hAN
  obtain ⟨bp, hv, ho0, hcl⟩ := hO.pl.open hAl
  have hat := own_at (o := o) (t := t) (k := 0) (by decide)
  rw [ho0] at hat
  obtain ⟨z, zb, hz⟩ := (hc.pl.2 _ (List.getElem_mem hAl)).pl
  have hrow : c.pl[Nat.add 0 A]? = some [iv (z 0), iv (z 1), iv (z 2), iv (z 3), iv (z 4), .bool (zb 0), .bool (zb 1), .bool (zb 2)] := by rw [show Nat.add 0 A = A from Nat.zero_add A, List.getElem?_eq_getElem hAl, hz]
  have p1 := hlv.one
  have hsame : c.pl.set (Nat.add 0 A) [iv (z 0), iv (z 1), iv (z 2), iv (z 3), iv (z 4), .bool (zb 0), .bool (zb 1), .bool (zb 2)] = c.pl := by
    obtain ⟨h, e⟩ := List.getElem?_eq_some_iff.1 hrow
    rw [← e]; exact List.set_getElem_self h
  refine hR.f580.tri (WP.pre (hp.trans (pm22 hat)) ?_)
  unfold a580
  obtain ⟨k5, hk5⟩ : ∃ k, binV .add (iv (z 0)) (iv (e 3)) = some (iv k) := ⟨_, add_w _ _⟩
  obtain ⟨k9, hk9⟩ : ∃ k, binV .add (iv (n 0)) (AV.int .i64 (.ofNat 1)) = some (iv k) := ⟨_, add_w _ _⟩
  refine Vr (k := fun b3 => Vr (k := ?_))
  refine WD.pu (.iai hv hAl hA) (Vr (k := ?_))
  have fin : ∀ (z' : Nat → Int) (zb' : Nat → Bool) (n' : Nat → Int) {s' : SH}, s'.Perm ((b3, .r false [evRow e lv tv] 13) :: (bp, .r false (c.pl.set (Nat.add 0 A) [iv (z' 0), iv (z' 1), iv (z' 2), iv (z' 3), iv (z' 4), .bool (zb' 0), .bool (zb' 1), .bool (zb' 2)]) 8) :: (bs, .r false [stRow v n' py] 25) :: (m ++ rest 0 o t)) → ∃ v' n' c', StX bs v' n' py c' t s' ∧ ScT (B + 2) N c' := fun z' zb' n' s' hp' =>
    personFin hO hc (hcl _) okr (hp'.trans (pm23 : _))
  refine WP.cond rfl (fun _ => ?_) (fun _ => ?_)
  · refine Vr (k := WO.w (WS.cl (add583 hR (a := fun i => [0, e 2, e 1, e 1, e 3, 0, 0, 0, 0].getD i 0) (bb := fun i => [false, false, negB false (decide (e 4 = Int.ofNat 1)), false].getD i false) (first := false) (p := A) (v := v) (n := n) (py := py) (c := c) (t := t) (N := N) (B := B) ⟨o, (b3, .r false [evRow e lv tv] 13) :: m, hO, pm24 hat⟩ hc hB hA hAN) ?_))
    rintro _ s9 h
    refine Vr (k := ?_)
    exact Fin.mk .nil h
  refine Vr (k := ?_)
  refine WP.cond rfl (fun _ => ?_) (fun _ => ?_)
  · refine WP.drawn0 (WD.pu (.mv rfl) (WD.pu (.mv rfl) (WD.pu (.nilchk rfl rfl) (WD.pu (.faddr rfl) (WD.ld rfl .nil (.load rfl (.there .here) hrow rfl rfl) (Vr (k := ?_)))))))
    refine WD.ch .nil (WS.cl (clamp618 hR) ?_)
    rintro _ _ ⟨⟨k, rfl⟩, rfl⟩
    refine Vr (k := WD.ch .nil (WS.store rfl rfl rfl (.there .here) hrow rfl (Vr (k := ?_))))
    exact Fin.mk .nil (fin (upd z 0 k) zb n (.refl _))
  refine Vr (k := ?_)
  refine WP.cond rfl (fun hk => ?_) (fun _ => ?_)
  · obtain ⟨j, hj, hj4⟩ := hm (by simpa [negB] using hk)
    rcases (by omega : j = 0 ∨ j = 1 ∨ j = 2 ∨ j = 3) with rfl | rfl | rfl | rfl
    · obtain ⟨k8, hk8⟩ : ∃ k, binV .add (iv (z 1)) (iv (e 3)) = some (iv k) := ⟨_, add_w _ _⟩
      refine WP.drawn0 (WD.pu (.mv rfl) (WD.pu (.faddr rfl) (WD.lk rfl .nil .ld (Vr (k := ?_)))))
      refine WD.pu (.iaddrAi hj (by decide)) (WD.ld rfl .nil (.load rfl (.there .here) hrow rfl rfl) (Vr (k := ?_)))
      refine WD.ch .nil (WS.cl (clamp618 hR) ?_)
      rintro _ _ ⟨⟨k, rfl⟩, rfl⟩
      refine WD.pu (.mmx rfl rfl) (Vr (k := ?_))
      refine WD.pu (.iaddrAi hj (by decide)) (WD.ch .nil (WS.store rfl rfl rfl (.there .here) hrow rfl (WD.nil .nil ?_ (ob1 rfl rfl (sameN_i 5 _) .ld .ld))))
      exact Fin.mk .nil (fin (upd z 1 _) zb n (.refl _))
    · obtain ⟨k8, hk8⟩ : ∃ k, binV .add (iv (z 2)) (iv (e 3)) = some (iv k) := ⟨_, add_w _ _⟩
      refine WP.drawn0 (WD.pu (.mv rfl) (WD.pu (.faddr rfl) (WD.lk rfl .nil .ld (Vr (k := ?_)))))
      refine WD.pu (.iaddrAi hj (by decide)) (WD.ld rfl .nil (.load rfl (.there .here) hrow rfl rfl) (Vr (k := ?_)))
      refine WD.ch .nil (WS.cl (clamp618 hR) ?_)
      rintro _ _ ⟨⟨k, rfl⟩, rfl⟩
      refine WD.pu (.mmx rfl rfl) (Vr (k := ?_))
      refine WD.pu (.iaddrAi hj (by decide)) (WD.ch .nil (WS.store rfl rfl rfl (.there .here) hrow rfl (WD.nil .nil ?_ (ob1 rfl rfl (sameN_i 5 _) .ld .ld))))
      exact Fin.mk .nil (fin (upd z 2 _) zb n (.refl _))
    · obtain ⟨k8, hk8⟩ : ∃ k, binV .add (iv (z 3)) (iv (e 3)) = some (iv k) := ⟨_, add_w _ _⟩
      refine WP.drawn0 (WD.pu (.mv rfl) (WD.pu (.faddr rfl) (WD.lk rfl .nil .ld (Vr (k := ?_)))))
      refine WD.pu (.iaddrAi hj (by decide)) (WD.ld rfl .nil (.load rfl (.there .here) hrow rfl rfl) (Vr (k := ?_)))
      refine WD.ch .nil (WS.cl (clamp618 hR) ?_)
      rintro _ _ ⟨⟨k, rfl⟩, rfl⟩
      refine WD.pu (.mmx rfl rfl) (Vr (k := ?_))
      refine WD.pu (.iaddrAi hj (by decide)) (WD.ch .nil (WS.store rfl rfl rfl (.there .here) hrow rfl (WD.nil .nil ?_ (ob1 rfl rfl (sameN_i 5 _) .ld .ld))))
      exact Fin.mk .nil (fin (upd z 3 _) zb n (.refl _))
    · obtain ⟨k8, hk8⟩ : ∃ k, binV .add (iv (z 4)) (iv (e 3)) = some (iv k) := ⟨_, add_w _ _⟩
      refine WP.drawn0 (WD.pu (.mv rfl) (WD.pu (.faddr rfl) (WD.lk rfl .nil .ld (Vr (k := ?_)))))
      refine WD.pu (.iaddrAi hj (by decide)) (WD.ld rfl .nil (.load rfl (.there .here) hrow rfl rfl) (Vr (k := ?_)))
      refine WD.ch .nil (WS.cl (clamp618 hR) ?_)
      rintro _ _ ⟨⟨k, rfl⟩, rfl⟩
      refine WD.pu (.mmx rfl rfl) (Vr (k := ?_))
      refine WD.pu (.iaddrAi hj (by decide)) (WD.ch .nil (WS.store rfl rfl rfl (.there .here) hrow rfl (WD.nil .nil ?_ (ob1 rfl rfl (sameN_i 5 _) .ld .ld))))
      exact Fin.mk .nil (fin (upd z 4 _) zb n (.refl _))
  refine Vr (k := ?_)
  refine WP.cond rfl (fun _ => ?_) (fun _ => ?_)
  · refine Vr (k := WO.w (WS.store rfl rfl rfl (.there .here) hrow rfl (Vr (k := ?_))))
    exact Fin.mk .nil (fin z (upd zb 0 _) n (.refl _))
  refine Vr (k := ?_)
  refine WP.cond rfl (fun _ => ?_) (fun _ => ?_)
  · refine Vr (k := WO.w (WS.store rfl rfl rfl (.there .here) hrow rfl (Vr (k := ?_))))
    exact Fin.mk .nil (fin z (upd zb 1 _) n (.refl _))
  refine Vr (k := ?_)
  refine WP.cond rfl (fun _ => ?_) (fun _ => ?_)
  · refine Vr (k := WO.w (WS.store rfl rfl rfl (.there .here) hrow rfl (Vr (k := ?_))))
    exact Fin.mk .nil (fin z (upd zb 2 _) n (.refl _))
  refine Vr (k := ?_)
  refine WP.cond rfl (fun _ => ?_) (fun _ => ?_)
  · refine Vr (k := ?_)
    exact Fin.mk .nil (fin z zb (upd (upd n 0 k9) 1 (e 1)) (by rw [hsame]; exact .refl _))
  refine Vr (k := ?_)
  refine WP.cond rfl (fun _ => ?_) (fun _ => ?_)
  · refine Vr (k := ?_)
    exact Fin.mk .nil (fin z zb (upd (upd n 3 (e 1)) 4 (e 3)) (by rw [hsame]; exact .refl _))
  refine Vr (k := ?_)
  refine WP.cond rfl (fun hk => ?_) (fun _ => ?_)
  · obtain ⟨hA2, hlen, hper⟩ := hl (by simpa [negB] using hk)
    have hll := hlv.lenOf
    obtain ⟨H0, hH0⟩ : ∃ H0, H0 = (b3, HO.r false [evRow e lv tv] 13) :: (bp, .r false c.pl 8) :: (bs, .r false [stRow v n py] 25) :: (m ++ rest 0 o t) := ⟨_, rfl⟩
    have hsub : ∀ p, p ∈ own o t → p ∈ H0 := fun p hp => by
      have := hat.subset hp
      rw [hH0]
      rcases List.mem_append.1 this with h | h
      · exact List.mem_cons_of_mem _ (List.mem_cons.2 (.inl (List.mem_singleton.1 h)))
      · exact List.mem_cons_of_mem _ (List.mem_cons_of_mem _ (List.mem_cons_of_mem _ (List.mem_append_right _ h)))
    have hsrc := hO.src (t := t)
    have hlb := hsrc.lb.mono hsub
    have htl := hlv.mono fun p hp => hsub p (by simp [own, hp])
    have hs3 : Has b3 (.r false [evRow e lv tv] 13) H0 := by rw [hH0]; exact .here
    have hsb : Has bs (.r false [stRow v n py] 25) H0 := by rw [hH0]; exact .there (.there .here)
    have hPH : H0.Perm ((bs, .r false [stRow v n py] 25) :: (((b3, HO.r false [evRow e lv tv] 13) :: m) ++ own o t)) := by rw [hH0]; exact pm24 hat
    obtain ⟨b, r, n0, cc, sl, ro, M, a, ee, hb1, hn, hM, ha⟩ := hlb.at (i := A) hA2
    obtain ⟨k1, k2, k3⟩ := hc.lb.1.li (i := A) hA2
    rw [k1.nil_inv] at hM
    have hLB := hc.lb.1.len
    refine Vr (k := ?_)
    refine WP.loop (fun k l ds s' => ds = [] ∧ ∃ i w L' oo mm, k = Ll.length - i ∧ i ≤ Ll.length ∧ GrE 1 w L' oo ∧ L'.length = i ∧ (∀ r ∈ L', OkR [] [.i] r) ∧ s'.Perm (mm ++ (oo ++ H0)) ∧ ∀ j x, lk [(0, .ptr (some ⟨bs, 0, 0⟩)), (3, .ptr (some ⟨b3, 0, 0⟩)), (5, w), (6, .int .i64 (.ofNat i))] j = some x → lk l j = some x) ?_ (n := Ll.length - 0) ⟨rfl, 0, _, [], [], [], rfl, Nat.zero_le _, .nil, rfl, (fun r h => by cases h), by rw [hH0]; exact .refl _, sbs⟩
    rintro k l ds s' ⟨rfl, i, w, L', oo, mm, rfl, hi, hG, hLi, hT', hp', hlk⟩
    refine WP.pre hp' (WP.weak hlk (fun _ _ h => h) ?_)
    have hadd : binV .add (AV.int .i64 (.ofNat i)) (AV.int .i64 (.ofNat 1)) = some (AV.int .i64 (.ofNat (i + 1))) := add_n (by omega)
    have q3 : Has b3 (.r false [evRow e lv tv] 13) (mm ++ (oo ++ H0)) := .app (.app hs3)
    refine Vr (k := WP.cond rfl (fun hlt0 => ?_) (fun hlt0 => ?_))
    · have hlt : i < Ll.length := Int.ofNat_lt.1 (of_decide_eq_true hlt0)
      obtain ⟨bl, rl, nl, cl, sll, rol, Ml, el, hbl, hnl, hMl⟩ := htl.at hlt
      obtain ⟨j, hj, hjr⟩ := hper _ (List.getElem_mem hlt)
      have hMl : Ml[rl + i]? = some [iv (.ofNat j)] := hMl.trans (by rw [List.getElem?_eq_getElem hlt, hjr])
      obtain ⟨ba, ra, na, ca, sla, roa, Ma, ea, hba, hna, hMa⟩ := ha.at hj
      obtain ⟨x, hx⟩ := (k3 _ (List.getElem_mem hj)).n1
      have hMa : Ma[ra + j]? = some [iv x] := hMa.trans (by rw [List.getElem?_eq_getElem hj, hx])
      have g1 : Has (b3) (.r false [evRow e lv tv] 13) H0 := hs3
      refine WP.skip (WP.seq (WP.block (WP.drawn1 fun b134 => ?_)))
      refine Vr (k := WD.pu (.iai ee hn hA) (Vr (k := WD.pu (.ia el hnl) (Vr (k := WD.pu (.ia ea hna) (Vr (k := WD.al (.bslice (bsrows1 rfl rfl) rfl) rfl ?_)))))))
      refine WD.ch (.yes (show bit 131071 16 = true from rfl) rfl .here .nil) (WS.pre pm13' (WS.append_gre (N := [[iv x]]) rfl hG rfl (Src.all .here) (by decide) (by simp; omega) (by decide) fun w2 o2 j2 hG2 => ?_))
      refine Vr (k := ?_)
      refine ⟨Ll.length - (i + 1), by omega, rfl, i + 1, w2, _, o2, _, rfl, hlt, hG2, by simp [hLi], fun r hr => ?_, pm25, sbs⟩
      rcases List.mem_append.1 hr with h | h
      · exact hT' r h
      · rw [List.mem_singleton.1 h]; exact okr
    · refine WP.exit ?_
      have hie : i = Ll.length := by have := of_decide_eq_false hlt0; simp at this; omega
      obtain ⟨b9, L9, a9, o91, o92, hv9, hi9, hrow9, hG9, hpk9, hcl9⟩ := hO.lb.open (i := A) hA2
      rw [k1.nil_inv] at hrow9
      have hrow9 : L9[Nat.add 0 A]? = some [a9] := by rw [show Nat.add 0 A = A from Nat.zero_add A]; exact hrow9
      have pw := hG.one
      refine WP.pre ((pm26 hPH).trans (pm1 (own_at (k := 2) (by decide)) hpk9)) ?_
      refine Vr (k := WD.pu (.iai hv9 hi9 hA) (WD.ch .nil (WS.store rfl rfl pw .here hrow9 rfl (Vr (k := ?_)))))
      obtain ⟨o', h1, h2⟩ := hcl9 [] w L' oo hG.toS
      refine Fin.mk .nil ⟨upd v 2 (v 2), n, _, ⟨_, (mm ++ ((b3, HO.r false [evRow e lv tv] 13) :: m)) ++ o91, hO.u2 h2, ?_⟩, ScT.up (B := B) { hc with lb := CnT.z hc.lb (by omega) hT' } (by omega)⟩
      exact pm3 (own_upd (k := 2) (by decide)) (by rw [show Nat.add 0 A = A from Nat.zero_add A]; exact h1)
  refine Vr (k := ?_)
  exact Fin.mk .nil (fin z zb n (by rw [hsame]))
end
end Go.Ev
set_option maxHeartbeats 8000000
namespace Go.Ev
section
variable {P : Program} {K : Orc} {rd : Option Nat} {nt : Nat} {l : Sl} {ds : List ADef} {s : SH} {Q Qn Qr : Po} {Qe : Nat → Po} {F : Nat → FuncId} {T : Nat → TypeId}
theorem own_push {o : Nat → SH} {t : SH} {x : Nat × HO} : (own o (x :: t)).Perm (x :: own o t) := pm2
section
variable {bs : Nat} {v : Nat → AV} {n : Nat → Int} {py : Bool} {c : SC} {t : SH}
theorem StX.push {x : Nat × HO} (h : StX bs v n py c t s) : StX bs v n py c (x :: t) (x :: s) := by
  obtain ⟨o, m, hO, hp⟩ := h
  refine ⟨o, m, hO, (hp.cons x).trans ((List.Perm.swap _ _ _).trans (List.Perm.cons _ ?_))⟩
  exact List.perm_middle.symm.trans (own_push.symm.append_left m)
theorem StX.pop {x : Nat × HO} (h : StX bs v n py c (x :: t) s) : StX bs v n py c t s := by
  obtain ⟨o, m, hO, hp⟩ := h
  exact ⟨o, x :: m, hO, hp.trans ((List.Perm.cons _ ((own_push.append_left m).trans List.perm_middle)))⟩
theorem StX.perm {s' : SH} (h : StX bs v n py c t s) (hp : s'.Perm s) : StX bs v n py c t s' := by
  obtain ⟨o, m, hO, h⟩ := h
  exact ⟨o, m, hO, hp.trans h⟩
theorem StX.gro {m' : SH} (h : StX bs v n py c t s) : StX bs v n py c t (m' ++ s) := by
  obtain ⟨o, m, hO, h⟩ := h
  exact ⟨o, m' ++ m, hO, (h.append_left m').trans pm2⟩
theorem own_t {o : Nat → SH} {t : SH} {p : Nat × HO} (h : p ∈ t) : p ∈ own o t := by simp [own, h]
theorem StX.mem (h : StX bs v n py c t s) : ∀ p, p ∈ t → p ∈ s := by
  obtain ⟨o, m, hO, h⟩ := h
  exact fun p hp => h.symm.subset (List.mem_cons_of_mem _ (List.mem_append_right _ (own_t hp)))
theorem StX.src (h : StX bs v n py c t s) : SrcS s v c := by
  obtain ⟨o, m, hO, h⟩ := h
  exact hO.src.mono fun p hp => h.symm.subset (List.mem_cons_of_mem _ (List.mem_append_right _ hp))
theorem StX.has (h : StX bs v n py c t s) : Has bs (.r false [stRow v n py] 25) s := by
  obtain ⟨o, m, hO, h⟩ := h
  exact .of_mem (h.symm.subset (List.mem_cons_self ..))
theorem obk2 {hs : List SH} {is : List Nat} {op : AOp} {v : AV} {a : Nat} {s0 s1 s2 : SH} (h0 : hs.reverse[0]? = some s0) (h1 : hs.reverse[1]? = some s1) (h2 : hs.reverse[2]? = some s2) (sm : sameV v v = true) (w0 : WR P op l s0 v) (w1 : WR P op l s1 v) (w2 : WR P op l s2 v) (hi : ∀ i ∈ is, bit a i = false := by intro i hi; cases hi) : ∀ o ∈ [(⟨op, l, v, a, 0, 2⟩ : OB)], OBok P hs is o := by
  intro o ho
  rw [List.mem_singleton.1 ho]
  refine ⟨hi, Nat.zero_le _, sm, fun k _ hk => ?_⟩
  rcases (by have : k ≤ 2 := hk; omega : k = 0 ∨ k = 1 ∨ k = 2) with rfl | rfl | rfl
  · exact ⟨_, h0, w0⟩
  · exact ⟨_, h1, w1⟩
  · exact ⟨_, h2, w2⟩
theorem GrE.ofS {sz : Nat} {v : AV} {L L' : List (List AV)} {o o' : SH} (h : GrE sz v L o) (h' : GrS sz v L' o') : GrE sz v L' o' := by
  cases h with
  | nil => cases h' with | nil => exact .nil
  | rows hL =>
    generalize hv : AV.slice _ _ _ true sz = v at h'
    cases h' with
    | nil => cases hv
    | @rows b' sl L' hL' =>
      injection hv with h1 h2 h3 h4 h5
      subst h4
      exact .rows hL'
end
end
end Go.Ev
set_option maxHeartbeats 8000000
namespace Go.Ev
section
variable {P : Program} {K : Orc} {rd : Option Nat} {nt : Nat} {l : Sl} {ds : List ADef} {s : SH} {Q Qn Qr : Po} {Qe : Nat → Po} {F : Nat → FuncId} {T : Nat → TypeId}
theorem pm29 {y : Nat × HO} {m ow ok r : SH} {s : SH} (h1 : s.Perm (y :: (m ++ ow))) (h2 : ow.Perm (ok ++ r)) : s.Perm ((y :: m) ++ (ok ++ r)) := h1.trans ((h2.append_left m).cons y)
theorem gone7 (hR : BaseR12 P K F T) {bs : Nat} {v : Nat → AV} {n : Nat → Int} {py : Bool} {c : SC} {B N : Nat} {t : SH} {id : Int} (hs : StX bs v n py c t s) (hc : ScT B N c) (hB : B ≤ 800000000) : Tri P K (F 622) [v 7, iv id] s (fun _ s' => ∃ v' c', StX bs v' n py c' t s' ∧ ScT B N c') := by
  obtain ⟨o, m, hO, hp⟩ := hs
  obtain ⟨L, ob, oi, g1, g2, g3⟩ := hO.st
  have hat := own_at (o := o) (t := t) (k := 7) (by decide)
  rw [g3] at hat
  refine (gone622 hR (by omega) ⟨L, c.st, ob, oi, g1.toS, g2, hc.st, rfl, rfl, pm29 hp hat⟩).post ?_
  rintro _ s' ⟨L', C', ob', oi', k1, k2, k3, k4, -, k6⟩
  exact ⟨upd v 7 (v 7), _, ⟨_, m, hO.u7 ⟨L', ob', oi', g1.ofS k1, k2, rfl⟩, k6.trans (((own_upd (k := 7) (by decide)).symm.append_left m).cons _)⟩, { hc with st := k3 }⟩
theorem gone8 (hR : BaseR12 P K F T) {bs : Nat} {v : Nat → AV} {n : Nat → Int} {py : Bool} {c : SC} {B N : Nat} {t : SH} {id : Int} (hs : StX bs v n py c t s) (hc : ScT B N c) (hB : B ≤ 800000000) : Tri P K (F 622) [v 8, iv id] s (fun _ s' => ∃ v' c', StX bs v' n py c' t s' ∧ ScT B N c') := by
  obtain ⟨o, m, hO, hp⟩ := hs
  obtain ⟨L, ob, oi, g1, g2, g3⟩ := hO.wa
  have hat := own_at (o := o) (t := t) (k := 8) (by decide)
  rw [g3] at hat
  refine (gone622 hR (by omega) ⟨L, c.wa, ob, oi, g1.toS, g2, hc.wa, rfl, rfl, pm29 hp hat⟩).post ?_
  rintro _ s' ⟨L', C', ob', oi', k1, k2, k3, k4, -, k6⟩
  exact ⟨upd v 8 (v 8), _, ⟨_, m, hO.u8 ⟨L', ob', oi', g1.ofS k1, k2, rfl⟩, k6.trans (((own_upd (k := 8) (by decide)).symm.append_left m).cons _)⟩, { hc with wa := k3 }⟩
theorem OwnR.nil_inv {m : Nat} {L : List (List AV)} {C : Cn} {o : SH} (h : OwnR m L C o) (hC : C = []) : L = [] ∧ o = [] := by
  cases h with
  | nil => exact ⟨rfl, rfl⟩
  | snoc _ _ => simp at hC
theorem OwnR.one {m : Nat} {L : List (List AV)} {C : Cn} {o : SH} {a : AV} (h : OwnR m L C o) (hn : C.length = 1) (hL : L.map List.getLast? = [some a]) : ∃ r I, L = [r ++ [a]] ∧ C = [(r, I)] ∧ GrS m a I o := by
  cases h with
  | nil => cases hn
  | @snoc r a' I L C o o1 hs h =>
    have h0 : C = [] := List.eq_nil_of_length_eq_zero (by simpa using hn)
    subst h0
    obtain ⟨rfl, rfl⟩ := hs.nil_inv rfl
    have : a' = a := by simpa using hL
    subst this
    exact ⟨r, I, rfl, rfl, by rw [List.append_nil]; exact h⟩
theorem pm30 {x y : Nat × HO} {X m ow ok r : SH} (h1 : X.Perm (y :: (m ++ ow))) (h2 : ow.Perm (ok ++ r)) : (x :: X).Perm ((y :: m) ++ (([x] ++ (ok ++ [])) ++ r)) := perm_ct fun c w h0 ha hb hq => by
  have e1 := hq _ _ h1
  have e2 := hq _ _ h2
  simp only [h0, ha, hb] at e1 e2 ⊢
  omega
theorem pm31 {y : Nat × HO} {m b ow ok r : SH} (h2 : ow.Perm (ok ++ r)) : ((y :: m) ++ ((b ++ ok) ++ r)).Perm (y :: ((m ++ b) ++ ow)) := perm_ct fun c w h0 ha hb hq => by
  have e2 := hq _ _ h2
  simp only [ha, hb] at e2 ⊢
  omega
theorem goneOne (hR : BaseR12 P K F T) {bs b : Nat} {v : Nat → AV} {n : Nat → Int} {py : Bool} {c : SC} {B N : Nat} {t X : SH} {id k : Int} (hs : StX bs v n py c t X) (hc : ScT B N c) (hB : B ≤ 800000000) (hB1 : 1 ≤ B) : Tri P K (F 622) [.slice (some ⟨b, 0, 0⟩) 1 1 false 7, iv id] ((b, .r false [[iv 0, iv 0, iv 0, iv k, iv 0, iv 0, v 9]] 7) :: X) (fun _ s' => ∃ (v' : Nat → AV) (c' : SC) (z' : Nat → Int), StX bs v' n py c' t s' ∧ v' 9 = v 9 ∧ ScT B N c' ∧ Has b (.r false [[iv (z' 0), iv (z' 1), iv (z' 2), iv (z' 3), iv (z' 4), iv (z' 5), v 9]] 7) s') := by
  obtain ⟨o, m, hO, hp⟩ := hs
  have hat := own_at (o := o) (t := t) (k := 9) (by decide)
  refine (gone622 (n := 1) (As := [some (v 9)]) hR (by omega) ⟨[[iv 0, iv 0, iv 0, iv k, iv 0, iv 0] ++ [v 9]], [([iv 0, iv 0, iv 0, iv k, iv 0, iv 0], c.kt)], [(b, .r false [[iv 0, iv 0, iv 0, iv k, iv 0, iv 0, v 9]] 7)], o 9 ++ [], .rows (by simp), .snoc (L := []) (C := []) .nil hO.kt.toS, ⟨hB1, fun p hp => by rw [List.mem_singleton.1 hp]; exact ⟨okr, hc.kt⟩⟩, rfl, rfl, pm30 hp hat⟩).post ?_
  rintro _ s' ⟨L', C', ob', oi', k1, k2, k3, k4, k5, k6⟩
  obtain ⟨r, I, rfl, rfl, hg⟩ := k2.one k4 k5
  obtain ⟨j1, j2, j3⟩ := k3.row _ (List.mem_singleton.2 rfl)
  obtain ⟨z, hz⟩ := j1.i6
  have hz : r = _ := hz
  subst hz
  obtain ⟨b', sl, e1, e2, -⟩ := k1.open (i := 0) (by simp)
  cases e1
  refine ⟨upd v 9 (v 9), _, z, ⟨_, m ++ ob', hO.u9 (hO.kt.ofS hg), k6.trans (pm31 (own_upd (k := 9) (by decide)))⟩, rfl, { hc with kt := ⟨j2, j3⟩ }, ?_⟩
  subst e2
  exact .of_mem (k6.symm.subset (by simp))
end
end Go.Ev
set_option maxHeartbeats 8000000
namespace Go.Ev
section
variable {P : Program} {K : Orc} {rd : Option Nat} {nt : Nat} {l : Sl} {ds : List ADef} {s : SH} {Q Qn Qr : Po} {Qe : Nat → Po} {F : Nat → FuncId} {T : Nat → TypeId}
theorem pm27 {y : Nat × HO} {s3 s2 s1 m4 o4 mz oz m ow : SH} (h1 : s3.Perm (m4 ++ (o4 ++ s2))) (h2 : s2.Perm (mz ++ (oz ++ s1))) (h3 : s1.Perm (y :: (m ++ ow))) : s3.Perm (y :: ((m4 ++ (mz ++ (oz ++ m))) ++ (o4 ++ ow))) := perm_ct fun c w h0 ha hb hq => by
  have e1 := hq _ _ h1
  have e2 := hq _ _ h2
  have e3 := hq _ _ h3
  simp only [ha, hb] at e1 e2 e3 ⊢
  omega
theorem WR.slcTo {l : Sl} {sz : Nat} {x i : Operand} {a : Option Pl} {n c j : Nat} {sl : Bool} {q : IntKind} {rw : Nat} {v0 : AV} (e : v0 = .slice a n c sl rw) (hj : j ≤ c) (hx : opl l x = some v0 := by exact rfl) (hi : opl l i = some (.int q (.ofNat j)) := by exact rfl) : WR P (.slc sz x none (some i) none) l s (.slice a j c sl rw) := .slc_to (e ▸ hx) hi hj
theorem WR.slcTail {l : Sl} {sz : Nat} {x i : Operand} {b j : Nat} {q : IntKind} {L : List (List AV)} {v0 : AV} (e : v0 = .slice (some ⟨b, 0, 0⟩) L.length L.length true sz) (hb : Has b (.r false (L ++ []) sz) s) (hj : j ≤ L.length) (h0 : 0 < j) (hs : sz ≠ 0) (hx : opl l x = some v0 := by exact rfl) (hi : opl l i = some (.int q (.ofNat j)) := by exact rfl) : ∃ v, WR P (.slc sz x (some i) none none) l s v ∧ Src s sz v (L.drop j) := WR.slc_tail (n := L.length) (T := []) (e ▸ hx) hi rfl (by simp) hb hj h0 hs
theorem pm28 {x y : Nat × HO} {o2 j m oi p o' r ow : SH} (h1 : oi.Perm (p ++ o')) (h2 : ow.Perm ((o2 ++ o') ++ r)) : (o2 ++ (([] : SH) ++ (j ++ (y :: (m ++ (([x] ++ oi) ++ r)))))).Perm (y :: ((j ++ (m ++ (x :: p))) ++ ow)) := perm_ct fun c w h0 ha hb hq => by
  have e1 := hq _ _ h1
  have e2 := hq _ _ h2
  simp only [h0, ha, hb] at e1 e2 ⊢
  omega
theorem leave582 (hR : BaseR12 P K F T) {bs i : Nat} {v : Nat → AV} {n : Nat → Int} {py : Bool} {c : SC} {B N : Nat} {t : SH} (hs : StX bs v n py c t s) (hc : ScT B N c) (hB : B ≤ 800000000) (hB1 : 1 ≤ B) (hi : i < c.ob.length) :
    Tri P K (F 582) [.ptr (some ⟨bs, 0, 0⟩), iv (.ofNat i)] s (fun _ s' => ∃ v' n' c', StX bs v' n' py c' t s' ∧ ScT B N c') := by
  refine hR.f582.tri ?_
  unfold a582
  have hbs := hs.has
  obtain ⟨b, r, n0, cc, sl, ro, M, a, e, hb1, hn, hM, ha⟩ := hs.src.ob.at hi
  obtain ⟨k1, k2, k3⟩ := hc.ob.li hi
  obtain ⟨z, zb, hz⟩ := k1.ob13
  rw [hz] at hM
  obtain ⟨p, hp2, hpN⟩ := hc.ow _ (List.getElem_mem hi)
  rw [hz] at hp2
  have hp2 : z 2 = Int.ofNat p := by simpa using hp2
  have p1 := ha.one
  refine Vr (k := WO.r (.ia e hn) (Vr (k := fun b4 => Vr (k := ?_))))
  have hs := hs.push (x := (b4, .r false [obj14 z zb a] 14))
  have k4 : Has b4 (.r false [obj14 z zb a] 14) ((b4, HO.r false [obj14 z zb a] 14) :: s) := .here
  have hk4 : Has b4 (.r false [obj14 z zb a] 14) ((b4, HO.r false [obj14 z zb a] 14) :: t) := .here
  have hbs := hs.has
  have hz1 := zone621 hR (n := n) (py := py) (z := z 4) hs.src hc (by omega) hpN
  rw [← hp2] at hz1
  refine WD.lk rfl .nil .ld (Vr (k := ?_))
  refine WD.lk rfl .nil .ld (Vr (k := ?_))
  refine WD.ch .nil (WS.cl hz1 ?_)
  rintro w3 s2 ⟨Lz, oz, mz, hGz, hLz, hTz, hpz⟩
  have k5 : Has b4 (.r false [obj14 z zb a] 14) s2 := k4.mono fun q hq => hpz.symm.subset (List.mem_append_right _ (List.mem_append_right _ hq))
  refine Vr (k := WD.lk rfl .nil .ld ?_)
  refine WD.ch .nil (WS.cl (without620 hR (hGz.src fun q hq => hpz.symm.subset (List.mem_append_right _ (List.mem_append_left _ hq))) (by omega) hTz) ?_)
  rintro w4 s3 ⟨L4, o4, m4, hG4, hL4, hT4, hp4⟩
  have k6 : Has b4 (.r false [obj14 z zb a] 14) s3 := k5.mono fun q hq => hp4.symm.subset (List.mem_append_right _ (List.mem_append_right _ hq))
  obtain ⟨o, m, hO, hp⟩ := hs
  have hset := set619 hR (z := z 4) hO hc (pm27 hp4 hpz hp) hG4.toS (by omega) hT4 hpN
  rw [← hp2] at hset
  refine WD.ch .nil (WS.cl hset ?_)
  rintro _ s5 ⟨v5, c5, hs5, hc5, hob5⟩
  refine WD.nil .nil ?_ (obc (ob1 rfl rfl (sameN_i 5 _) .ld .ld) (obc (obk2 rfl rfl rfl (sameN_i 5 _) .ld .ld .ld) (obk2 rfl rfl rfl (sameN_i 5 _) .ld .ld .ld)))
  obtain ⟨o5, m5, hO5, hp5⟩ := hs5
  obtain ⟨L, ob, oi, g1, g2, g3⟩ := hO5.ob
  have hL := g2.len
  have hLB := hc5.ob.len
  have hi5 : i < c5.ob.length := by rw [hob5]; exact hi
  obtain ⟨bo, hv5, hob⟩ := g1.slc (i := i) (by omega)
  have hat := own_at (o := o5) (t := (b4, HO.r false [obj14 z zb a] 14) :: t) (k := 1) (by decide)
  rw [g3, hob] at hat
  refine WP.pre (hp5.trans (pm8 hat)) ?_
  have hh : Has bo (.r false (L ++ []) 14) ((bs, HO.r false [stRow v5 n py] 25) :: (m5 ++ (([(bo, HO.r false L 14)] ++ oi) ++ rest 1 o5 ((b4, HO.r false [obj14 z zb a] 14) :: t)))) := by rw [List.append_nil]; exact .there (.app .here)
  have hadd : binV .add (AV.int .i64 (.ofNat i)) (AV.int .i64 (.ofNat 1)) = some (AV.int .i64 (.ofNat (i + 1))) := add_n (by omega)
  have hs1 : Src ((bs, HO.r false [stRow v5 n py] 25) :: (m5 ++ (([(bo, HO.r false L 14)] ++ oi) ++ rest 1 o5 ((b4, HO.r false [obj14 z zb a] 14) :: t)))) 14 (.slice (some ⟨bo, 0, 0⟩) i L.length true 14) (L.take i) := by
    have := Src.rows (r := 0) (n := i) (c := L.length) (sl := true) hh (by simp; omega)
    simpa using this
  refine Vr (k := WO.r (.slcTo (j := i) hv5 (by omega)) (WO.w (WS.append0 hs1 (by decide) (by rw [List.length_take]; omega) (by decide) fun w1 o1 hG1 => Vr (k := ?_))))
  have hh2 : Has bo (.r false (L ++ []) 14) (o1 ++ ((bs, HO.r false [stRow v5 n py] 25) :: (m5 ++ (([(bo, HO.r false L 14)] ++ oi) ++ rest 1 o5 ((b4, HO.r false [obj14 z zb a] 14) :: t))))) := .app hh
  refine WO.rx (WR.slcTail (j := i + 1) hv5 hh2 (by omega) (by omega) (by decide)) fun v3 hS => ?_
  refine WO.w (WS.append_gre (m := []) rfl hG1 rfl hS (by decide) (by simp; omega) (by decide) fun w2 o2 j2 hG2 => ?_)
  obtain ⟨p3, o', h3, h4⟩ := g2.erase hi5
  rw [← List.eraseIdx_eq_take_drop_succ] at hG2
  have q2 := hG2.one
  refine Vr (k := WO.w (WS.store rfl rfl q2 (.app (.app .here)) rfl rfl (Vr (k := ?_))))
  have hs6 : StX bs (upd v5 1 w2) n py { c5 with ob := c5.ob.eraseIdx i } ((b4, HO.r false [obj14 z zb a] 14) :: t) (o2 ++ (([] : SH) ++ (j2 ++ ((bs, HO.r false [stRow (upd v5 1 w2) n py] 25) :: (m5 ++ (([(bo, HO.r false L 14)] ++ oi) ++ rest 1 o5 ((b4, HO.r false [obj14 z zb a] 14) :: t))))))) :=
    ⟨_, j2 ++ (m5 ++ ((bo, HO.r false L 14) :: p3)), hO5.u1 ⟨_, o2, o', hG2, h3, rfl⟩, pm28 h4 (own_upd (k := 1) (by decide))⟩
  have hc6 : ScT B N { c5 with ob := c5.ob.eraseIdx i } := { hc5 with ob := hc5.ob.erase i, ow := fun q hq => hc5.ow q (List.mem_of_mem_eraseIdx hq) }
  refine WP.loop (fun k l ds s' => ds = [] ∧ ∃ q v6 c6, k = c6.ob.length - q ∧ q ≤ c6.ob.length ∧ StX bs v6 n py c6 ((b4, HO.r false [obj14 z zb a] 14) :: t) s' ∧ ScT B N c6 ∧ ∀ j x, lk [(0, .ptr (some ⟨bs, 0, 0⟩)), (4, .ptr (some ⟨b4, 0, 0⟩)), (6, .int .i64 (.ofNat q))] j = some x → lk l j = some x) ?_ (n := (c5.ob.eraseIdx i).length - 0) ⟨rfl, 0, _, _, rfl, Nat.zero_le _, hs6, hc6, sbs⟩
  rintro k l ds s' ⟨rfl, q, v6, c6, rfl, hq, hs6, hc6, hlk⟩
  refine WP.weak hlk (fun _ _ h => h) ?_
  have hbs6 := hs6.has
  have hlo6 := hs6.src.ob.len
  have hlb6 := hc6.ob.len
  have g4 : Has b4 (.r false [obj14 z zb a] 14) s' := Has.of_mem (hs6.mem _ (List.mem_cons_self ..))
  have hadd2 : binV .add (AV.int .i64 (.ofNat q)) (AV.int .i64 (.ofNat 1)) = some (AV.int .i64 (.ofNat (q + 1))) := add_n (by omega)
  refine Vr (k := WP.cond rfl (fun hlt0 => ?_) (fun hlt0 => ?_))
  · have hlt : q < c6.ob.length := Int.ofNat_lt.1 (of_decide_eq_true hlt0)
    obtain ⟨o, m, hO, hp⟩ := hs6
    obtain ⟨b, L, a6, o1, o2, hv, hi2, hrow, hG, hpk, hcl⟩ := hO.ob.open hlt
    obtain ⟨k1, k2, k3⟩ := hc6.ob.li hlt
    obtain ⟨y, yb, hy⟩ := k1.ob13
    have hrow : L[Nat.add 0 q]? = some (obj14 y yb a6) := by rw [show Nat.add 0 q = q from Nat.zero_add q, hrow, hy]; rfl
    have hpp := hp.trans (pm15 (own_at (k := 1) (by decide)) hpk)
    have f4 := g4.mono fun p h => hpp.subset h
    refine WP.pre hpp ?_
    refine Vr (k := WD.pu (.ia hv hi2) (WD.pu (.faddr rfl) (WD.ld rfl .nil (.load rfl .here hrow rfl rfl) (Vr (k := WP.cond rfl (fun _ => ?_) (fun _ => ?_))))))
    · refine Vr (k := WO.r (.ia hv hi2) (Vr (k := WO.w (WS.store rfl rfl rfl .here hrow rfl (Vr (k := ?_))))))
      obtain ⟨o', h1, h2⟩ := hcl (obj13 (upd y 8 0) yb) a6 _ o1 hG
      refine ⟨c6.ob.length - (q + 1), by omega, rfl, q + 1, upd v6 1 (v6 1), { c6 with ob := c6.ob.set q (obj13 (upd y 8 0) yb, c6.ob[q].2) }, by rw [List.length_set], by rw [List.length_set]; exact hlt, ⟨_, m, hO.u1 h2, ?_⟩, { hc6 with ob := hc6.ob.set okr k2 k3, ow := fun r hr => ?_ }, sbs⟩
      · refine pm16 (own_upd (k := 1) (by decide)) ?_
        rw [show Nat.add 0 q = q from Nat.zero_add q]
        exact h1
      · rcases List.mem_or_eq_of_mem_set hr with hr | rfl
        · exact hc6.ow r hr
        · obtain ⟨j, hj, hjN⟩ := hc6.ow _ (List.getElem_mem hlt)
          rw [hy] at hj
          exact ⟨j, hj, hjN⟩
    · refine Vr (k := ?_)
      exact ⟨c6.ob.length - (q + 1), by omega, rfl, q + 1, v6, c6, rfl, hlt, ⟨o, m, hO, hpp.symm.trans hp⟩, hc6, sbs⟩
  · refine WP.exit (Vr (k := WD.ch .nil (WS.cl (gone7 hR hs6 hc6 hB) ?_)))
    rintro _ s7 ⟨v7, c7, hs7, hc7⟩
    have hbs7 := hs7.has
    have g7 : Has b4 (.r false [obj14 z zb a] 14) s7 := Has.of_mem (hs7.mem _ (List.mem_cons_self ..))
    refine Vr (k := WD.ch .nil (WS.cl (gone8 hR hs7 hc7 hB) ?_))
    rintro _ s8 ⟨v8, c8, hs8, hc8⟩
    have hbs8 := hs8.has
    have g8 : Has b4 (.r false [obj14 z zb a] 14) s8 := Has.of_mem (hs8.mem _ (List.mem_cons_self ..))
    have q9 := hs8.src.kt.one
    refine Vr (k := WP.drawn1 fun b104 => Vr (k := ?_))
    refine WD.pu (.build (cs := [iv 0, iv 0, iv 0, iv (n 10), iv 0, iv 0, v8 9]) (by simp only [bparts, lmapO, opl, lk, q9]; rfl) rfl) ?_
    refine WD.al (.bslice (bsrows1 rfl rfl) rfl) rfl (WD.pu (.mv rfl) (WD.nil (.cons .here .nil) ?_ (fun o h => nomatch h)))
    refine Vr (k := WO.w (WS.cl (goneOne hR hs8 hc8 hB hB1) ?_))
    rintro _ s9 ⟨v9, c9, y, hs9, h99, hc9, hb9⟩
    obtain ⟨o9, m9, hO9, hp9⟩ := hs9
    have hb9 := hb9.mono fun p h => hp9.subset h
    refine WO.pre hp9 (Vr (k := ?_))
    exact Fin.mk .nil ⟨v9, upd n 10 (y 3), c9, StX.pop (x := (b4, .r false [obj14 z zb a] 14)) ⟨o9, m9, hO9, .refl _⟩, hc9⟩
end
end Go.Ev
set_option maxHeartbeats 8000000
namespace Go.Ev
section
variable {P : Program} {K : Orc} {rd : Option Nat} {nt : Nat} {l : Sl} {ds : List ADef} {s : SH} {Q Qn Qr : Po} {Qe : Nat → Po} {F : Nat → FuncId} {T : Nat → TypeId}
def ChkOk (P : Program) (K : Orc) (f : FuncId) : Prop := ∀ (s : SH) (e : Nat → Int) (lv tv : AV) (Ll Lt : List (List AV)), Src s 1 lv Ll → Src s 2 tv Lt → Ll.length ≤ 1000 → Lt.length ≤ 1000 → (∀ r ∈ Ll, OkR [] [.i] r) → (∀ r ∈ Lt, OkR [] rTg r) →
  Tri P K f [.agg (evRow e lv tv)] s (fun w s' => (∃ k, w = iv k ∧ (k = 0 → e 0 = 8 → ∃ j : Nat, e 2 = Int.ofNat j ∧ j < 4)) ∧ Up s s')
structure May (e : Nat → Int) (c : SC) (N : Nat) (Ll : List (List AV)) : Prop where
  mana : e 0 = 8 → ∃ j : Nat, e 2 = Int.ofNat j ∧ j < 4
  nam : isNam (e 0) = true → ∃ A : Nat, e 1 = Int.ofNat A ∧ A < N
  obj : isObj (e 0) = true → ∃ i, findO c.ob (e 1) = some i
  pop : e 0 = 16 → ∃ i, findO c.st (e 1) = some i
  unw : e 0 = 18 → ∃ i, findO c.wa (e 1) = some i
  per : e 0 = 26 → ∃ A : Nat, e 1 = Int.ofNat A ∧ ∃ hA : A < c.lb.length, Ll.length = c.lb[A].2.length ∧ ∀ r ∈ Ll, ∃ j, j < c.lb[A].2.length ∧ r = [iv (.ofNat j)]
theorem nam_not {k : Int} (h : isNam k = true) : isObj k = false ∧ isFld k = false ∧ k ≠ 13 ∧ k ≠ 16 ∧ k ≠ 18 := by
  simp only [isNam, Bool.or_eq_true, decide_eq_true_eq] at h
  rcases h with (((((((h | h) | h) | h) | h) | h) | h) | h) | h <;> subst h <;> decide
theorem obj_not {k : Int} (h : isObj k = true) : isNam k = false ∧ k ≠ 16 ∧ k ≠ 18 ∧ k ≠ 26 ∧ k ≠ 8 := by
  simp only [isObj, isFld, Bool.or_eq_true, decide_eq_true_eq] at h
  rcases h with (h | h) | ((((((((h | h) | h) | h) | h) | h) | h) | h) | h) <;> subst h <;> decide
theorem fld_obj {k : Int} (h : isObj k = false) : isFld k = false := by
  cases hf : isFld k with
  | false => rfl
  | true => rw [isObj, hf] at h; simp at h
theorem eqk {a : Int} {k : Nat} (h : a = Int.ofNat k) : eqBy 20 .pi (iv a) (AV.int .i64 (.ofNat k)) = some true := by rw [eqB_i, decide_eq_true h]
theorem nek {a : Int} {k : Nat} (h : a ≠ Int.ofNat k) : eqBy 20 .pi (iv a) (AV.int .i64 (.ofNat k)) = some false := by rw [eqB_i, decide_eq_false h]
theorem may576 (hR : BaseR12 P K F T) (hChk : ChkOk P K (F 613)) {v : Nat → AV} {n : Nat → Int} {py : Bool} {c : SC} {B N : Nat} {e : Nat → Int} {lv tv : AV} {Ll Lt : List (List AV)} (hv : SrcS s v c) (hc : ScT B N c) (hB : B ≤ 800000000) (hl : Src s 1 lv Ll) (ht : Src s 2 tv Lt) (hl1 : Ll.length ≤ 1000) (ht1 : Lt.length ≤ 1000) (hlT : ∀ r ∈ Ll, OkR [] [.i] r) (htT : ∀ r ∈ Lt, OkR [] rTg r) :
    Tri P K (F 576) [.agg (stRow v n py), .agg (evRow e lv tv)] s (fun w s' => (∃ k, w = iv k ∧ (k = 0 → May e c N Ll)) ∧ Up s s') := by
  refine hR.f576.tri ?_
  unfold a576
  have hN0 : lenOf (v 0) = some N := by rw [hv.pl.lenOf, hc.pl.1]
  refine Vr (k := fun b2 => Vr (k := fun b3 => Vr (k := ?_)))
  have hs0 : Up s ((b3, HO.r false [evRow e lv tv] 13) :: (b2, .r false [stRow v n py] 25) :: s) := Up.rfl.cons.cons
  refine WO.w (WS.cl (hChk _ e lv tv Ll Lt (hl.mono hs0.mem) (ht.mono hs0.mem) hl1 ht1 hlT htT) ?_)
  rintro _ s1 ⟨⟨k1, rfl, hk1⟩, hU1⟩
  have g2 : Has b2 (.r false [stRow v n py] 25) s1 := Has.of_mem (hU1.mem _ (by simp))
  have g3 : Has b3 (.r false [evRow e lv tv] 13) s1 := Has.of_mem (hU1.mem _ (by simp))
  refine Vr (k := WP.cond rfl (fun h => ?_) (fun h => ?_))
  · refine Vr (k := ?_)
    exact ⟨⟨k1, rfl, fun h0 => by subst h0; simp [negB] at h⟩, hs0.trans hU1⟩
  have hk0 : k1 = 0 := by simpa [negB] using h
  have hmana := hk1 hk0
  have hv1 := hv.mono (hs0.trans hU1).mem
  refine Vr (k := WO.w (WS.cl (even614 hR hv1 hc) ?_))
  rintro _ _ ⟨rfl, m2, rfl⟩
  refine Vr (k := WO.w (WS.cl (named579 hR) ?_))
  rintro _ _ ⟨rfl, rfl⟩
  have hU2 : Up s (m2 ++ s1) := (hs0.trans hU1).app
  by_cases hnam : isNam (e 0) = true
  · obtain ⟨x1, x2, x3, x4, x5⟩ := nam_not hnam
    have e13 := nek x3
    have e16 := nek x4
    have e18 := nek x5
    rw [hnam]
    have h8 := hN0
    by_cases hneg : e 1 < 0
    · have f1 : binV .lss (iv (e 1)) (iv 0) = some (.bool true) := by rw [lss_i, decide_eq_true hneg]
      refine Vr (k := ?_)
      exact ⟨⟨2, rfl, fun h => by simp at h⟩, hU2⟩
    have f1 : binV .lss (iv (e 1)) (iv 0) = some (.bool false) := by rw [lss_i, decide_eq_false hneg]
    by_cases hbig : e 1 < Int.ofNat N
    rotate_left
    · have f2 : binV .geq (iv (e 1)) (iv (.ofNat N)) = some (.bool true) := by rw [geq_i, decide_eq_false hbig]; rfl
      refine Vr (k := ?_)
      exact ⟨⟨2, rfl, fun h => by simp at h⟩, hU2⟩
    have f2 : binV .geq (iv (e 1)) (iv (.ofNat N)) = some (.bool false) := by rw [geq_i, decide_eq_true hbig]; rfl
    obtain ⟨A, hA⟩ := Int.eq_ofNat_of_zero_le (Int.not_lt.1 hneg)
    have hAN : A < N := by rw [hA] at hbig; exact Int.ofNat_lt.1 hbig
    refine Vr (k := WO.w (WS.cl (object577 hR) ?_))
    rintro _ _ ⟨rfl, rfl⟩
    rw [x1, x2]
    by_cases h26 : e 0 = 26
    · have e26 := eqk (k := 26) h26
      have hA2 : A < c.lb.length := by rw [hc.lb.2]; exact hAN
      have hv2 := hv.mono hU2.mem
      obtain ⟨b, r, n0, cc, sl, ro, M, a, ee, hb1, hn, hM, ha⟩ := hv2.lb.at (i := A) hA2
      obtain ⟨k1, k2, k3⟩ := hc.lb.1.li (i := A) hA2
      rw [k1.nil_inv] at hM
      have hla := ha.lenOf
      refine Vr (k := WD.pu (.iai ee hn hA) (Vr (k := WD.ch .nil (WS.cl (perm617 hR (hl.mono hU2.mem) (by omega) hlT) ?_))))
      rintro _ _ ⟨⟨q, rfl, hq⟩, rfl⟩
      refine Vr (k := WP.cond rfl (fun h => ?_) (fun h => ?_))
      · refine Vr (k := ?_)
        exact ⟨⟨2, rfl, fun h => by simp at h⟩, hU2⟩
      · have hq1 : q = true := by simpa using h
        obtain ⟨p1, p2⟩ := hq hq1
        refine Vr (k := ?_)
        exact ⟨⟨0, rfl, fun _ => ⟨hmana, fun _ => ⟨A, hA, hAN⟩, fun h => absurd h (by simp [x1]), fun h => absurd h x4, fun h => absurd h x5, fun _ => ⟨A, hA, hA2, p1, p2⟩⟩⟩, hU2⟩
    · have e26 := nek (k := 26) h26
      refine Vr (k := WD.skipc rfl rfl (Vr (k := ?_)))
      exact ⟨⟨0, rfl, fun _ => ⟨hmana, fun _ => ⟨A, hA, hAN⟩, fun h => absurd h (by simp [x1]), fun h => absurd h x4, fun h => absurd h x5, fun h => absurd h h26⟩⟩, hU2⟩
  have hnam := Bool.eq_false_iff.2 hnam
  rw [hnam]
  by_cases hobj : isObj (e 0) = true
  · obtain ⟨-, x4, x5, x6, x8⟩ := obj_not hobj
    have e16 := nek x4
    have e18 := nek x5
    have e26 := nek x6
    have hv2 := hv.mono hU2.mem
    have g4 : Has b2 (.r false [stRow v n py] 25) (m2 ++ s1) := .app g2
    refine Vr (k := WO.w (WS.cl (object577 hR) ?_))
    rintro _ _ ⟨rfl, rfl⟩
    rw [hobj]
    have fin : ∀ {i : Nat} {s9 : SH}, findO c.ob (e 1) = some i → Up (m2 ++ s1) s9 → (∃ k, iv (Int.ofNat 0) = iv k ∧ (k = 0 → May e c N Ll)) ∧ Up s s9 := fun {i s9} hf hU => ⟨⟨0, rfl, fun _ => ⟨hmana, fun h => absurd h (by simp [hnam]), fun _ => ⟨i, hf⟩, fun h => absurd h x4, fun h => absurd h x5, fun h => absurd h x6⟩⟩, hU2.trans hU⟩
    have bad : ∀ {s9 : SH}, Up (m2 ++ s1) s9 → (∃ k, iv (Int.ofNat 5) = iv k ∧ (k = 0 → May e c N Ll)) ∧ Up s s9 := fun {s9} hU => ⟨⟨5, rfl, fun h => by simp at h⟩, hU2.trans hU⟩
    refine Vr (k := WO.w (WS.cl (find581 hR hv2.ob hc.ob (by omega)) ?_))
    rintro _ _ ⟨rfl, m3, rfl⟩
    have hU3 : Up (m2 ++ s1) (m3 ++ (m2 ++ s1)) := Up.rfl.app
    cases hf : findO c.ob (e 1) with
    | none =>
      refine Vr (k := ?_)
      exact bad hU3
    | some i =>
      have hon := fun {s9 : SH} (hU : Up (m2 ++ s1) s9) (id : Int) => onField615 (s := s9) (n := n) (py := py) hR (hv2.mono hU.mem).ob hc.ob (by omega) (id := id)
      cases hfl : isFld (e 0) with
      | false =>
        by_cases h13 : e 0 = 13
        · rw [h13] at hfl; cases hfl
        have e13 := nek (k := 13) h13
        refine Vr (k := WD.skipc rfl rfl (Vr (k := ?_)))
        exact fin hf hU3
      | true =>
        refine Vr (k := WO.w (WS.cl (hon hU3 (e 1)) ?_))
        rintro _ s9 ⟨⟨q, rfl, -⟩, m4, rfl⟩
        have hU4 := hU3.app (m := m4)
        cases q with
        | false =>
          refine Vr (k := ?_)
          exact bad hU4
        | true =>
          by_cases h13 : e 0 = 13
          · have e13 := eqk (k := 13) h13
            by_cases h20 : e 2 = 0
            · have e20 := eqk (k := 0) h20
              refine Vr (k := WD.skipc rfl rfl (Vr (k := ?_)))
              exact fin hf hU4
            · have e20 := nek (k := 0) h20
              refine Vr (k := WO.w (WS.cl (hon hU4 (e 2)) ?_))
              rintro _ s9 ⟨⟨q, rfl, -⟩, m5, rfl⟩
              have hU5 := hU4.app (m := m5)
              cases q with
              | false =>
                refine Vr (k := ?_)
                exact bad hU5
              | true =>
                refine Vr (k := WD.skipc rfl rfl (Vr (k := ?_)))
                exact fin hf hU5
          · have e13 := nek (k := 13) h13
            refine Vr (k := WD.skipc rfl rfl (Vr (k := ?_)))
            exact fin hf hU4
  have hobj := Bool.eq_false_iff.2 hobj
  have hfld := fld_obj hobj
  have hv2 := hv.mono hU2.mem
  have g4 : Has b2 (.r false [stRow v n py] 25) (m2 ++ s1) := .app g2
  refine Vr (k := WO.w (WS.cl (object577 hR) ?_))
  rintro _ _ ⟨rfl, rfl⟩
  rw [hobj, hfld]
  by_cases h13 : e 0 = 13
  · rw [h13] at hobj; exact absurd hobj (by decide)
  have e13 := nek (k := 13) h13
  have fin : ∀ (_ : e 0 = 16 → ∃ i, findO c.st (e 1) = some i) (_ : e 0 = 18 → ∃ i, findO c.wa (e 1) = some i) (_ : e 0 ≠ 26), (∃ k, iv (Int.ofNat 0) = iv k ∧ (k = 0 → May e c N Ll)) ∧ Up s (m2 ++ s1) := fun h1 h2 h3 => ⟨⟨0, rfl, fun _ => ⟨hmana, fun h => absurd h (by simp [hnam]), fun h => absurd h (by simp [hobj]), h1, h2, fun h => absurd h h3⟩⟩, hU2⟩
  have bad : (∃ k, iv (Int.ofNat 5) = iv k ∧ (k = 0 → May e c N Ll)) ∧ Up s (m2 ++ s1) := ⟨⟨5, rfl, fun h => by simp at h⟩, hU2⟩
  by_cases h26 : e 0 = 26
  · rw [h26] at hnam; exact absurd hnam (by decide)
  have e26 := nek (k := 26) h26
  by_cases h16 : e 0 = 16
  · have e16 := eqk (k := 16) h16
    have e18 := nek (k := 18) (show e 0 ≠ 18 by rw [h16]; decide)
    refine Vr (k := WO.w (WS.cl (item616 hR hv2.st hc.st (by omega) (id := e 1)) ?_))
    rintro _ _ ⟨rfl, rfl⟩
    cases hf : findO c.st (e 1) with
    | none =>
      refine Vr (k := ?_)
      exact bad
    | some i =>
      refine Vr (k := WD.skipc rfl rfl (Vr (k := ?_)))
      exact fin (fun _ => ⟨i, hf⟩) (fun h => by rw [h16] at h; exact absurd h (by decide)) h26
  have e16 := nek (k := 16) h16
  by_cases h18 : e 0 = 18
  · have e18 := eqk (k := 18) h18
    refine Vr (k := WO.w (WS.cl (item616 hR hv2.wa hc.wa (by omega) (id := e 1)) ?_))
    rintro _ _ ⟨rfl, rfl⟩
    cases hf : findO c.wa (e 1) with
    | none =>
      refine Vr (k := ?_)
      exact bad
    | some i =>
      refine Vr (k := WD.skipc rfl rfl (Vr (k := ?_)))
      exact fin (fun h => absurd h h16) (fun _ => ⟨i, hf⟩) h26
  have e18 := nek (k := 18) h18
  refine Vr (k := WD.skipc rfl rfl (Vr (k := ?_)))
  exact fin (fun h => absurd h h16) (fun h => absurd h h18) h26
end
end Go.Ev
set_option maxHeartbeats 8000000
namespace Go.Ev
section
variable {P : Program} {K : Orc} {rd : Option Nat} {nt : Nat} {l : Sl} {ds : List ADef} {s : SH} {Q Qn Qr : Po} {Qe : Nat → Po} {F : Nat → FuncId} {T : Nat → TypeId}
theorem own_tperm {o : Nat → SH} {t t' : SH} (h : t.Perm t') : (own o t).Perm (own o t') := by
  unfold own
  exact (((((((((h.append_left _).append_left _).append_left _).append_left _).append_left _).append_left _).append_left _).append_left _).append_left _).append_left _
theorem StX.tperm {bs : Nat} {v : Nat → AV} {n : Nat → Int} {py : Bool} {c : SC} {t t' s : SH} (h : StX bs v n py c t s) (ht : t.Perm t') : StX bs v n py c t' s := by
  obtain ⟨o, m, hO, hp⟩ := h
  exact ⟨o, m, hO, hp.trans (((own_tperm ht).append_left m).cons _)⟩
theorem own_pushL {o : Nat → SH} {t x : SH} : (own o (x ++ t)).Perm (x ++ own o t) := pm2
theorem pm32 {a b c : SH} : (a ++ (b ++ c)).Perm (b ++ (a ++ c)) := pm2
theorem StX.pushL {bs : Nat} {v : Nat → AV} {n : Nat → Int} {py : Bool} {c : SC} {t s x : SH} (h : StX bs v n py c t s) : StX bs v n py c (x ++ t) (x ++ s) := by
  obtain ⟨o, m, hO, hp⟩ := h
  refine ⟨o, m, hO, (hp.append_left x).trans (List.perm_middle.trans (List.Perm.cons _ ?_))⟩
  exact (pm32).trans (own_pushL.symm.append_left m)
def Rdy (b2 b4 B N : Nat) (s s' : SH) : Prop := ∃ v n py c X, s'.Perm ((b4, .r false [zSt] 25) :: X) ∧ Has b2 (.r false [stRow v n py] 25) X ∧ SrcS X v c ∧ ScT B N c ∧ Up s X
theorem pm33 {o : Nat → SH} {t : SH} : (own o t).Perm ((o 0 ++ (o 1 ++ (o 2 ++ (o 3 ++ (o 4 ++ (o 5 ++ (o 6 ++ (o 7 ++ (o 8 ++ o 9))))))))) ++ t) := by simp [own]
theorem StX.rdy {b2 b4 B N : Nat} {v : Nat → AV} {n : Nat → Int} {py : Bool} {c : SC} {t s s' : SH} (h : StX b2 v n py c ((b4, .r false [zSt] 25) :: t) s') (hc : ScT B N c) (hU : Up s t) : Rdy b2 b4 B N s s' := by
  obtain ⟨o, m, hO, hp⟩ := h
  refine ⟨v, n, py, c, (b2, .r false [stRow v n py] 25) :: (m ++ own o t), ?_, .here, ?_, hc, ?_⟩
  · exact hp.trans ((List.Perm.cons _ ((own_push.append_left m).trans List.perm_middle)).trans (.swap _ _ _))
  · exact hO.src.mono fun p hp => List.mem_cons_of_mem _ (List.mem_append_right _ hp)
  · refine hU.trans (Up.cons (Up.app ?_))
    exact ⟨_, pm33⟩
end
end Go.Ev
