/- A machine that is proved sound, and walks by it. Conditions: none. -/
import Derived.Test.YtehcpacbinbioaaGreatEvI
set_option linter.all false
set_option maxHeartbeats 4000000
namespace Go.Ev
section
variable {P : Program} {K : Orc} {rd : Option Nat} {nt : Nat} {l : Sl} {ds : List ADef} {s : SH} {Q Qn Qr : Po} {Qe : Nat → Po} {F : Nat → FuncId} {T : Nat → TypeId}
theorem TriV.post {fv : AV} {args : List AV} {Q Q' : AV → SH → Prop} (h : TriV P K fv args s Q) (hq : ∀ v s', Q v s' → Q' v s') : TriV P K fv args s Q' := fun H0 H hH =>
  let ⟨v, s', H', h1, h2, h3⟩ := h H0 H hH
  ⟨v, s', H', h1, h2, hq _ _ h3⟩
def I0 (t u : SH) : Prop := ∃ m, u.Perm (m ++ t)
theorem I0.cons {t : SH} (p : Nat × HO) (u : SH) (h : I0 t u) : I0 t (p :: u) := by
  obtain ⟨m, hp⟩ := h
  exact ⟨p :: m, hp.cons p⟩
theorem I0.sub {t u : SH} (h : I0 t u) : ∀ p, p ∈ t → p ∈ u := by
  obtain ⟨m, hp⟩ := h
  exact fun p hq => hp.symm.subset (List.mem_append_right _ hq)
theorem all0 {g : Bool} {sz : Nat} {fa f1 f2 fi : FuncId} (hA : AllK P K g sz fa f1 f2 fi) {ty : List CT} (hsz : ty.length = sz) {fv w : AV} {L : List (List AV)} (hL : SlT s ty w L) (hf : ∀ (s' : SH) (r : List AV), (∀ p, p ∈ s → p ∈ s') → r ∈ L → OkR s' ty r → TriV P K fv [elv g r] s' (Gro s' isB)) (hv : partCells 1 fv = some [fv] := by rfl) : Tri P K fa [w, fv] s (fun w s' => isB w ∧ ∃ m, s'.Perm (m ++ s)) := by
  refine (all_ok hA hsz (I := I0 s) I0.cons (fun u h => h.sub) hL ⟨[], .refl _⟩ ?_ hv).post ?_
  · rintro u x r - hr ⟨m, hp⟩
    have hsub : ∀ p, p ∈ s → p ∈ x ++ u := fun p hq => List.mem_append_right _ (hp.symm.subset (List.mem_append_right _ hq))
    refine (hf (x ++ u) r hsub hr ((hL.2.2 r hr).mono hsub)).post ?_
    rintro w s2 ⟨hb, m2, rfl⟩
    exact ⟨hb, m2 ++ u, ⟨m2 ++ m, (hp.append_left m2).trans pm2⟩, pm2⟩
  · rintro w s2 ⟨hb, u2, ⟨m, hp⟩, hp2⟩
    exact ⟨hb, m, hp2.trans hp⟩
theorem owned562 (hJ : BaseJu P K F T) (hS : BaseSl P K F T) {bc bm : Nat} {v : Nat → AV} {n : Nat → Int} {py : Bool} (hc : Crt s bc bm v n py) : Tri P K (F 562) [.ptr (some ⟨bc, 0, 0⟩)] s (Gro s isB) := by
  refine Tri.canon (hJ.f562.tri ?_)
  unfold a562
  have h0 := hc.has
  obtain ⟨L, es, hL, -, -⟩ := hc.ob
  refine Vr (k := fun bx => Vr (k := WO.w (WS.cl (all0 (all590 hJ hS) rfl (hL.mono sub1) fun s' r hs hr hok => TriV.func (owned592 hJ (hc.up fun p hp => hs p (sub1 p hp)) (Has.here.mono hs) hok)) ?_)))
  rintro _ s2 ⟨⟨q, rfl⟩, m, hp⟩
  refine Vr (k := Gro.perm (m := m ++ [(bx, .r false [[.ptr (some ⟨bc, 0, 0⟩)]] 1)]) (hp.trans pm2))
theorem bare564 (hJ : BaseJu P K F T) (hS : BaseSl P K F T) {bc bm : Nat} {v : Nat → AV} {n : Nat → Int} {py : Bool} (hc : Crt s bc bm v n py) : Tri P K (F 564) [.ptr (some ⟨bc, 0, 0⟩)] s (Gro s isB) := by
  refine Tri.canon (hJ.f564.tri ?_)
  unfold a564
  have h0 := hc.has
  obtain ⟨L, es, hL, -, -⟩ := hc.ob
  refine Vr (k := WO.w (WS.cl (all0 (all590 hJ hS) rfl hL fun s' r hs hr hok => TriV.func (bare596 hJ hok)) ?_))
  rintro _ s2 ⟨⟨q, rfl⟩, m, hp⟩
  refine Vr (k := Gro.perm hp)
theorem pl603 (hJ : BaseJu P K F T) {a : Int} : Tri P K (F 603) [iv a] s (Gro s isB) := by
  refine hJ.f603.tri ?_
  unfold a603
  refine Vr (k := WO.w (WS.cl (in587 hJ) ?_))
  rintro _ _ ⟨⟨q, rfl⟩, rfl⟩
  refine Vr (k := Gro.b0)
theorem even589 (hJ : BaseJu P K F T) {v : AV} {L : List (List AV)} {b : Nat} {ro : Bool} {n : Int} (hv : SlT s [tI] v L) (hb : Has b (.r ro [[iv n]] 1) s) : Tri P K (F 589) [v, .ptr (some ⟨b, 0, 0⟩)] s (Gro s isB) := by
  refine hJ.f589.tri ?_
  unfold a589
  have hl := hv.len
  refine Vr (k := Gro.b0)
end
end Go.Ev
set_option maxHeartbeats 8000000
namespace Go.Ev
section
variable {P : Program} {K : Orc} {rd : Option Nat} {nt : Nat} {l : Sl} {ds : List ADef} {s : SH} {Q Qn Qr : Po} {Qe : Nat → Po} {F : Nat → FuncId} {T : Nat → TypeId}
theorem bounds569 (hJ : BaseJu P K F T) {bc bm : Nat} {v : Nat → AV} {n : Nat → Int} {py : Bool} (hc : Crt s bc bm v n py) : Tri P K (F 569) [.ptr (some ⟨bc, 0, 0⟩)] s (Gro s isB) := by
  refine hJ.f569.tri ?_
  unfold a569
  have h0 := hc.has
  obtain ⟨L, es, hL, -, -⟩ := hc.ob
  obtain ⟨L7, hL7⟩ := hc.st
  have hl := hL.len
  have hl7 := hL7.len
  repeat' (refine Vr (k := ?_); first | exact Gro.b0 | refine WD.skipc rfl rfl ?_ | refine WO.g2 rfl ?_ ?_ | refine WD.g2 rfl ?_ ?_ | (refine WD.ch .nil (WS.cl (there575 hJ hc) ?_); rintro _ _ ⟨⟨q, rfl⟩, rfl⟩) | (refine WD.ch .nil (WS.cl (in587 hJ) ?_); rintro _ _ ⟨⟨q, rfl⟩, rfl⟩))
end
end Go.Ev
set_option maxHeartbeats 8000000
namespace Go.Ev
section
variable {P : Program} {K : Orc} {rd : Option Nat} {nt : Nat} {l : Sl} {ds : List ADef} {s : SH} {Q Qn Qr : Po} {Qe : Nat → Po} {F : Nat → FuncId} {T : Nat → TypeId}
def isI (v : AV) : Prop := ∃ n, v = iv n
def I2 (bm : Nat) (t u : SH) : Prop := ∃ m es, u.Perm (m ++ ((bm, .m es) :: t)) ∧ IntM isI es
theorem I2.cons {bm : Nat} {t : SH} (p : Nat × HO) (u : SH) (h : I2 bm t u) : I2 bm t (p :: u) := by
  obtain ⟨m, es, hp, he⟩ := h
  exact ⟨p :: m, es, hp.cons p, he⟩
theorem I2.sub {bm : Nat} {t u : SH} (h : I2 bm t u) : ∀ p, p ∈ t → p ∈ u := by
  obtain ⟨m, es, hp, he⟩ := h
  exact fun p hq => hp.symm.subset (List.mem_append_right _ (List.mem_cons_of_mem _ hq))
theorem I2.end0 {bm : Nat} {t x m : SH} {es : List (AV × AV)} {b : Bool} (he : IntM isI es) : Keeps (I2 bm t) x isB (.bool b) ((bm, .m es) :: (x ++ (m ++ t))) :=
  ⟨⟨_, rfl⟩, m ++ ((bm, .m es) :: t), ⟨_, _, .refl _, he⟩, pm2⟩
theorem once597 (hJ : BaseJu P K F T) {bc bk bx bs bm : Nat} {v : Nat → AV} {n : Nat → Int} {py : Bool} {t x u : SH} (hc : Crt t bc bk v n py) (hx : Has bx (.r false [[.ptr (some ⟨bc, 0, 0⟩)]] 1) t) (hs : Has bs (.r false [[.map (some bm)]] 1) t) (hu : I2 bm t u) {a : Int} :
    Tri P K (F 597) [iv a, .ptr (some ⟨bs, 0, 0⟩), .ptr (some ⟨bx, 0, 0⟩)] (x ++ u) (Keeps (I2 bm t) x isB) := by
  obtain ⟨m, es, hp, he⟩ := hu
  refine hJ.f597.tri (WP.pre (s' := (bm, .m es) :: (x ++ (m ++ t))) ((hp.append_left x).trans pm2) ?_)
  unfold a597
  have h0 := hc.has
  obtain ⟨es', hp', he'⟩ := putM he a (v := iv 1) ⟨_, rfl⟩
  obtain ⟨o, ho, hd⟩ := lookM he a
  obtain ⟨m0, hm0⟩ : ∃ m, binV .sub (iv (n 7)) (AV.int .i64 (.ofNat 1)) = some (iv m) := ⟨_, sub_w _ _⟩
  cases o with
  | none =>
    refine Vr (k := WO.r (.look rfl rfl .here ho) ?_)
    repeat' (refine Vr (k := ?_); first | exact I2.end0 he' | refine WO.w (WS.ins rfl rfl rfl .here hp' ?_) | refine WO.g2 rfl ?_ ?_ | (refine WO.w (WS.cl (in587 hJ) ?_); rintro _ _ ⟨⟨q, rfl⟩, rfl⟩))
  | some w =>
    obtain ⟨k, rfl⟩ := hd w rfl
    refine Vr (k := WO.r (.look rfl rfl .here ho) ?_)
    repeat' (refine Vr (k := ?_); first | exact I2.end0 he' | refine WO.w (WS.ins rfl rfl rfl .here hp' ?_) | refine WO.g2 rfl ?_ ?_ | (refine WO.w (WS.cl (in587 hJ) ?_); rintro _ _ ⟨⟨q, rfl⟩, rfl⟩))
def KI (y : SH) (I : SH → Prop) (s : SH) : Prop := ∃ u, I u ∧ s.Perm (y ++ u)
theorem KI.memY {y : SH} {I : SH → Prop} (h : KI y I s) : ∀ p, p ∈ y → p ∈ s := by
  obtain ⟨u, -, hp⟩ := h
  exact fun p hq => hp.symm.subset (List.mem_append_left _ hq)
theorem KI.sub {y t : SH} {I : SH → Prop} (h : KI y I s) (hI : ∀ u, I u → ∀ p, p ∈ t → p ∈ u) : ∀ p, p ∈ t → p ∈ s := by
  obtain ⟨u, hu, hp⟩ := h
  exact fun p hq => hp.symm.subset (List.mem_append_right _ (hI u hu p hq))
theorem KI.gro {y m : SH} {I : SH → Prop} (hj : ∀ p u, I u → I (p :: u)) (h : KI y I s) : KI y I (m ++ s) := by
  induction m with
  | nil => exact h
  | cons p m ih =>
    obtain ⟨u, hu, hp⟩ := ih
    exact ⟨p :: u, hj p u hu, (hp.cons p).trans List.perm_middle.symm⟩
theorem KI.call {y : SH} {I : SH → Prop} {f : FuncId} {args : List AV} (h : KI y I s) (hf : ∀ u, I u → Tri P K f args (y ++ u) (Keeps I y isB)) : Tri P K f args s (fun w s' => isB w ∧ KI y I s') := by
  obtain ⟨u, hu, hp⟩ := h
  exact Tri.perm hp.symm ((hf u hu).post fun w s' h => h)
theorem KI.callV {y : SH} {I : SH → Prop} {fv : AV} {args : List AV} (h : KI y I s) (hf : ∀ u, I u → TriV P K fv args (y ++ u) (Keeps I y isB)) : TriV P K fv args s (fun w s' => isB w ∧ KI y I s') := by
  obtain ⟨u, hu, hp⟩ := h
  exact fun H0 H hH => hf u hu H0 H (hH.perm hp)
theorem KI.end {x y : SH} {I : SH → Prop} (hj : ∀ p u, I u → I (p :: u)) {b : Bool} (h : KI (y ++ x) I s) : Keeps I x isB (.bool b) s := by
  obtain ⟨u, hu, hp⟩ := h
  have : ∀ (y u : SH), I u → I (y ++ u) := fun y u hu => by
    induction y with
    | nil => exact hu
    | cons p y ih => exact hj p _ ih
  exact ⟨⟨_, rfl⟩, y ++ u, this y u hu, hp.trans pm2⟩
theorem eff601 (hJ : BaseJu P K F T) {bc bk bx bs bo bm : Nat} {v : Nat → AV} {n : Nat → Int} {py : Bool} {t : SH} (hc : Crt t bc bk v n py) (hx : Has bx (.r false [[.ptr (some ⟨bc, 0, 0⟩)]] 1) t) (hs : Has bs (.r false [[.map (some bm)]] 1) t) (ho : Has bo (.r false [[.func (F 597) [] [.ptr (some ⟨bs, 0, 0⟩), .ptr (some ⟨bx, 0, 0⟩)]]] 1) t) {L : List (List AV)} (hL : ∀ r ∈ L, OkR t rEf r) :
    AskF P K true (.func (F 601) [] [.ptr (some ⟨bo, 0, 0⟩)]) (I2 bm t) (fun _ => True) (fun r => r ∈ L) := by
  rintro u x r - hr hu
  obtain ⟨a, b, c, d, rfl⟩ := (hL r hr).ef
  refine TriV.func (hJ.f601.tri ?_)
  unfold a601
  have hk : KI ([] ++ x) (I2 bm t) (x ++ u) := ⟨u, hu, .refl _⟩
  have ho' : Has bo _ (x ++ u) := ho.mono (hk.sub fun u h => h.sub)
  refine Vr (k := fun b1 => Vr (k := WO.w (WS.call rfl rfl (KI.callV (y := [(b1, _)] ++ x) ⟨u, hu, .refl _⟩ fun u hu => TriV.func (once597 hJ hc hx hs hu)) ?_)))
  rintro _ s2 ⟨⟨q, rfl⟩, hk2⟩
  refine Vr (k := KI.end I2.cons hk2)
end
end Go.Ev
set_option maxHeartbeats 8000000
namespace Go.Ev
section
variable {P : Program} {K : Orc} {rd : Option Nat} {nt : Nat} {l : Sl} {ds : List ADef} {s : SH} {Q Qn Qr : Po} {Qe : Nat → Po} {F : Nat → FuncId} {T : Nat → TypeId}
theorem I2.mem {bm : Nat} {t : SH} (u : SH) (h : I2 bm t u) : ∀ p, p ∈ t → p ∈ u := h.sub
theorem KI.one {p : Nat × HO} {x u : SH} {I : SH → Prop} (hu : I u) : KI ([p] ++ x) I (p :: (x ++ u)) := ⟨u, hu, .refl _⟩
theorem field598 (hJ : BaseJu P K F T) (hS : BaseSl P K F T) (t45 : Ty P (T 45) 14) {bc bk bx bs bo bm : Nat} {v : Nat → AV} {n : Nat → Int} {py : Bool} {t : SH} (hc : Crt t bc bk v n py) (hx : Has bx (.r false [[.ptr (some ⟨bc, 0, 0⟩)]] 1) t) (hs : Has bs (.r false [[.map (some bm)]] 1) t) (ho : Has bo (.r false [[.func (F 597) [] [.ptr (some ⟨bs, 0, 0⟩), .ptr (some ⟨bx, 0, 0⟩)]]] 1) t) {L : List (List AV)} (hL : ∀ r ∈ L, OkR t rOb r) :
    AskF P K true (.func (F 598) [] [.ptr (some ⟨bx, 0, 0⟩), .ptr (some ⟨bo, 0, 0⟩)]) (I2 bm t) (fun _ => True) (fun r => r ∈ L) := by
  rintro u x r - hr hu
  obtain ⟨a, b, ev, rfl, he⟩ := (hL r hr).ob
  obtain ⟨L4, hL4⟩ := he.sl
  obtain ⟨Lp, hLp⟩ := hc.pl
  have hlp := hLp.len
  refine TriV.func (hJ.f598.tri ?_)
  unfold a598
  refine Vr (k := fun b3 => ?_)
  have hk := KI.one (p := (b3, .r false [[iv (a 0), iv (a 1), iv (a 2), iv (a 3), iv (a 4), .bool (b 0), .bool (b 1), .bool (b 2), iv (a 5), iv (a 6), iv (a 7), iv (a 8), .bool (b 3), ev]] 14)) (x := x) hu
  have h1 := hx.mono (hk.sub I2.mem)
  have h2 := ho.mono (hk.sub I2.mem)
  have h3 := hc.has.mono (hk.sub I2.mem)
  repeat' (refine Vr (k := ?_); first | exact KI.end I2.cons (by assumption) | refine WP.cond rfl (fun _ => ?_) (fun _ => ?_) | refine WD.skipc rfl rfl ?_ | refine WD.skipcu rfl ?_ | refine WD.g2 rfl ?_ ?_ | (refine WD.ch .nil (WS.cl (in587 hJ) ?_); rintro _ _ ⟨⟨q, rfl⟩, rfl⟩) | (refine WD.ch .nil (WS.cl (zone599 hJ t45 (hc.up (KI.sub (by assumption) I2.mem))) ?_); rintro _ _ ⟨⟨q, rfl⟩, m, rfl⟩; have hk := KI.gro (m := m) I2.cons hk) | (refine WD.ch .nil (WS.call rfl rfl (KI.callV (by assumption) fun u hu => TriV.func (once597 hJ hc hx hs hu)) ?_); rintro _ s2 ⟨⟨q, rfl⟩, hk⟩; have h1 := hx.mono (hk.sub I2.mem); have h2 := ho.mono (hk.sub I2.mem); have h4 := Has.of_mem (hk.memY _ (List.mem_append_left _ (List.mem_singleton.2 rfl)))) | (refine WD.ch .nil (WS.cl (KI.call (by assumption) fun u hu => (all600 hJ hS).ok (X := fun _ => True) (fun u hu => hL4.1.mono hu.sub) hL4.2.1 (fun r hr => (hL4.2.2 r hr).1) (fun _ r hr => (hL4.2.2 r hr).one) rfl I2.cons (fun _ _ _ => trivial) (eff601 hJ hc hx hs ho hL4.2.2) trivial hu) ?_); rintro _ s2 ⟨⟨q, rfl⟩, hk⟩))
theorem field565 (hJ : BaseJu P K F T) (hS : BaseSl P K F T) (t45 : Ty P (T 45) 14) {bc bk : Nat} {v : Nat → AV} {n : Nat → Int} {py : Bool} (hc : Crt s bc bk v n py) : Tri P K (F 565) [.ptr (some ⟨bc, 0, 0⟩)] s (Gro s isB) := by
  refine Tri.canon (hJ.f565.tri ?_)
  unfold a565
  have h0 := hc.has
  obtain ⟨L, es, hL, -, -⟩ := hc.ob
  refine Vr (k := fun bx => Vr (k := WO.a .mkmap fun bm => Vr (k := fun bs => Vr (k := fun bo => Vr (k := WO.pre (s' := (bo, .r false [[.func (F 597) [] [.ptr (some ⟨bs, 0, 0⟩), .ptr (some ⟨bx, 0, 0⟩)]]] 1) :: (bs, .r false [[.map (some bm)]] 1) :: (bm, .m []) :: (bx, .r false [[.ptr (some ⟨bc, 0, 0⟩)]] 1) :: s) (.refl _) (WO.w (WS.cl (all_ok (all590 hJ hS) rfl (I := I2 bm ((bo, .r false [[.func (F 597) [] [.ptr (some ⟨bs, 0, 0⟩), .ptr (some ⟨bx, 0, 0⟩)]]] 1) :: (bs, .r false [[.map (some bm)]] 1) :: (bx, .r false [[.ptr (some ⟨bc, 0, 0⟩)]] 1) :: s)) I2.cons I2.mem (hL.mono fun p hp => by simp [hp]) ⟨[], [], pm2, fun p hp => by cases hp⟩ (field598 hJ hS t45 (hc.up fun p hp => by simp [hp]) (.there (.there .here)) (.there .here) .here fun r hr => (hL.2.2 r hr).mono fun p hp => by simp [hp])) ?_)))))))
  rintro _ s2 ⟨⟨q, rfl⟩, u2, ⟨m, es, hp, -⟩, hp2⟩
  refine Vr (k := Gro.perm (m := m ++ [(bm, .m es), (bo, .r false [[.func (F 597) [] [.ptr (some ⟨bs, 0, 0⟩), .ptr (some ⟨bx, 0, 0⟩)]]] 1), (bs, .r false [[.map (some bm)]] 1), (bx, .r false [[.ptr (some ⟨bc, 0, 0⟩)]] 1)]) ((hp2.trans hp).trans pm2))
end
end Go.Ev
set_option maxHeartbeats 8000000
namespace Go.Ev
section
variable {P : Program} {K : Orc} {rd : Option Nat} {nt : Nat} {l : Sl} {ds : List ADef} {s : SH} {Q Qn Qr : Po} {Qe : Nat → Po} {F : Nat → FuncId} {T : Nat → TypeId}
theorem WO.lk {d : Option Nat} {m q : Operand} {b : Nat} {k : Int} {es : List (AV × AV)} {rest : List AOper} (he : IntM isI es) (hb : Has b (.m es) s) (h : ∀ n, WO P K rest (pl d (iv n) l) ds s Q) (hm : opl l m = some (.map (some b)) := by exact rfl) (hk : opl l q = some (iv k) := by exact rfl) : WO P K (⟨d, .look .pi (.int .i64 (.ofNat 0)) false m q, none⟩ :: rest) l ds s Q := by
  obtain ⟨o, ho, hd⟩ := lookM he k
  cases o with
  | none => exact WO.r (.look hm hk hb ho) (h 0)
  | some w =>
    obtain ⟨n, rfl⟩ := hd w rfl
    exact WO.r (.look hm hk hb ho) (h n)
theorem Upd.mid {b : Nat} {o o' : HO} {x y : SH} : Upd b o o' (x ++ (b, o) :: y) (x ++ (b, o') :: y) := .app .here
theorem KI.map {y t : SH} {bm : Nat} (h : KI y (I2 bm t) s) (a : Int) : ∃ es es' s', Has bm (.m es) s ∧ IntM isI es ∧ putIn .pi (iv a) (iv 1) es = some es' ∧ Upd bm (.m es) (.m es') s s' ∧ KI y (I2 bm t) s' := by
  obtain ⟨u, ⟨m, es, hp, he⟩, hq⟩ := h
  obtain ⟨es', h1, h2⟩ := putM he a (v := iv 1) ⟨_, rfl⟩
  have hr : s.Perm ((bm, .m es) :: (y ++ (m ++ t))) := (hq.trans (hp.append_left y)).trans pm2
  have hmem : (bm, HO.m es) ∈ s := hr.symm.subset (List.mem_cons_self ..)
  obtain ⟨x1, x2, rfl⟩ := List.append_of_mem hmem
  refine ⟨es, es', x1 ++ (bm, .m es') :: x2, .of_mem hmem, he, h1, .mid, m ++ ((bm, .m es') :: t), ⟨m, es', .refl _, h2⟩, ?_⟩
  have hc : (x1 ++ x2).Perm (y ++ (m ++ t)) := (List.perm_middle.symm.trans hr).cons_inv
  exact (List.perm_middle.trans (hc.cons _)).trans pm2
theorem spell608 (hJ : BaseJu P K F T) {r : List AV} (hr : OkR s rIt r) : Tri P K (F 608) [.agg r] s (Gro s isB) := by
  refine hJ.f608.tri ?_
  unfold a608
  obtain ⟨a, tv, rfl, -⟩ := hr.it
  exact Vr (k := fun b1 => Vr (k := Gro.b1))
theorem spell609 (hJ : BaseJu P K F T) {bs bm : Nat} {t : SH} (hs : Has bs (.r false [[.map (some bm)]] 1) t) {L : List (List AV)} (hL : ∀ r ∈ L, OkR t rOb r) :
    AskF P K true (.func (F 609) [] [.ptr (some ⟨bs, 0, 0⟩)]) (I2 bm t) (fun _ => True) (fun r => r ∈ L) := by
  rintro u x r - hr hu
  obtain ⟨a, b, ev, rfl, he⟩ := (hL r hr).ob
  refine TriV.func (hJ.f609.tri ?_)
  unfold a609
  refine Vr (k := fun b3 => ?_)
  have hk := KI.one (p := (b3, .r false [[iv (a 0), iv (a 1), iv (a 2), iv (a 3), iv (a 4), .bool (b 0), .bool (b 1), .bool (b 2), iv (a 5), iv (a 6), iv (a 7), iv (a 8), .bool (b 3), ev]] 14)) (x := x) hu
  have h1 := hs.mono (hk.sub I2.mem)
  obtain ⟨es, -, -, hm, he, -, -, -⟩ := KI.map hk 0
  repeat' (refine Vr (k := ?_); first | exact KI.end I2.cons (by assumption) | refine WO.g2 rfl ?_ ?_ | (refine WO.lk he hm ?_; intro n))
theorem placed595 (hJ : BaseJu P K F T) {bs bm : Nat} {t : SH} (hs : Has bs (.r false [[.map (some bm)]] 1) t) {L : List (List AV)} (hL : ∀ r ∈ L, OkR t rOb r) :
    AskF P K true (.func (F 595) [] [.ptr (some ⟨bs, 0, 0⟩)]) (I2 bm t) (fun _ => True) (fun r => r ∈ L) := by
  rintro u x r - hr hu
  obtain ⟨a, b, ev, rfl, he⟩ := (hL r hr).ob
  refine TriV.func (hJ.f595.tri ?_)
  unfold a595
  refine Vr (k := fun b3 => ?_)
  have hk := KI.one (p := (b3, .r false [[iv (a 0), iv (a 1), iv (a 2), iv (a 3), iv (a 4), .bool (b 0), .bool (b 1), .bool (b 2), iv (a 5), iv (a 6), iv (a 7), iv (a 8), .bool (b 3), ev]] 14)) (x := x) hu
  have h1 := hs.mono (hk.sub I2.mem)
  obtain ⟨es, -, -, hm, he, -, -, -⟩ := KI.map hk 0
  repeat' (refine Vr (k := ?_); first | exact KI.end I2.cons (by assumption) | refine WO.g2 rfl ?_ ?_ | (refine WO.lk he hm ?_; intro n))
end
end Go.Ev
set_option maxHeartbeats 8000000
namespace Go.Ev
section
variable {P : Program} {K : Orc} {rd : Option Nat} {nt : Nat} {l : Sl} {ds : List ADef} {s : SH} {Q Qn Qr : Po} {Qe : Nat → Po} {F : Nat → FuncId} {T : Nat → TypeId}
theorem spell607 (hJ : BaseJu P K F T) (t45 : Ty P (T 45) 14) {bc bk bx bs bm : Nat} {v : Nat → AV} {n : Nat → Int} {py : Bool} {t : SH} (hc : Crt t bc bk v n py) (hx : Has bx (.r false [[.ptr (some ⟨bc, 0, 0⟩)]] 1) t) (hs : Has bs (.r false [[.map (some bm)]] 1) t) {L : List (List AV)} (hL : ∀ r ∈ L, OkR t rIt r) :
    AskF P K true (.func (F 607) [] [.ptr (some ⟨bx, 0, 0⟩), .ptr (some ⟨bs, 0, 0⟩)]) (I2 bm t) (fun _ => True) (fun r => r ∈ L) := by
  rintro u x r - hr hu
  obtain ⟨a, tv, rfl, -⟩ := (hL r hr).it
  refine TriV.func (hJ.f607.tri ?_)
  unfold a607
  refine Vr (k := fun b3 => ?_)
  have hk := KI.one (p := (b3, .r false [[iv (a 0), iv (a 1), iv (a 2), iv (a 3), iv (a 4), iv (a 5), tv]] 7)) (x := x) hu
  have h1 := hx.mono (hk.sub I2.mem)
  have h2 := hs.mono (hk.sub I2.mem)
  repeat' (refine Vr (k := ?_); first | exact KI.end I2.cons (by assumption) | refine WP.cond rfl (fun _ => ?_) (fun _ => ?_) | refine WO.g2 rfl ?_ ?_ | (refine WO.w (WS.cl (zone599 hJ t45 (hc.up (KI.sub (by assumption) I2.mem))) ?_); rintro _ _ ⟨⟨q, rfl⟩, m, rfl⟩; have hk := KI.gro (m := m) I2.cons hk) | (obtain ⟨es, -, -, hm, he, -, -, -⟩ := KI.map hk 0; refine WO.lk he hm ?_; intro n0) | (obtain ⟨es, es', s', hm, he, hp, hu, hk⟩ := KI.map hk (a 3); refine WO.w (WS.ins rfl rfl rfl hu hp ?_)))
theorem placed594 (hJ : BaseJu P K F T) (t45 : Ty P (T 45) 14) {bc bk bx bs bm bz bo : Nat} {v : Nat → AV} {n : Nat → Int} {py : Bool} {t : SH} {z w : Int} (hc : Crt t bc bk v n py) (hx : Has bx (.r false [[.ptr (some ⟨bc, 0, 0⟩)]] 1) t) (hs : Has bs (.r false [[.map (some bm)]] 1) t) {L : List (List AV)} (hL : ∀ r ∈ L, OkR t [.i] r) :
    AskF P K false (.func (F 594) [] [.ptr (some ⟨bx, 0, 0⟩), .ptr (some ⟨bs, 0, 0⟩), .ptr (some ⟨bz, 0, 0⟩), .ptr (some ⟨bo, 0, 0⟩)]) (I2 bm t) (fun x => Has bz (.r false [[iv z]] 1) x ∧ Has bo (.r false [[iv w]] 1) x) (fun r => r ∈ L) := by
  rintro u x r ⟨hz, ho⟩ hr hu
  obtain ⟨a, rfl⟩ := (hL r hr).n1
  refine TriV.func (hJ.f594.tri ?_)
  unfold a594
  have hk : KI ([] ++ x) (I2 bm t) (x ++ u) := ⟨u, hu, .refl _⟩
  have h1 := hx.mono (hk.sub I2.mem)
  have h2 := hs.mono (hk.sub I2.mem)
  refine Vr (k := WO.w (WS.cl (obj573 hJ t45 (hc.up (hk.sub I2.mem))) ?_))
  rintro _ _ ⟨⟨row, b, rfl, hrow⟩, m, rfl⟩
  obtain ⟨a2, bb, ev, rfl, -⟩ := hrow.ob
  have hk := KI.gro (m := m) I2.cons hk
  refine Vr (k := fun b7 => ?_)
  have hk := KI.gro (m := [(b7, .r false [[iv (a2 0), iv (a2 1), iv (a2 2), iv (a2 3), iv (a2 4), .bool (bb 0), .bool (bb 1), .bool (bb 2), iv (a2 5), iv (a2 6), iv (a2 7), iv (a2 8), .bool (bb 3), ev]] 14)]) I2.cons hk
  repeat' (refine Vr (k := ?_); first | exact KI.end I2.cons (by assumption) | refine WP.cond rfl (fun _ => ?_) (fun _ => ?_) | refine WO.g2 rfl ?_ ?_ | (obtain ⟨es, -, -, hm, he, -, -, -⟩ := KI.map hk 0; refine WO.lk he hm ?_; intro n0) | (obtain ⟨es, es', s', hm, he, hp, hu, hk⟩ := KI.map hk a; refine WO.w (WS.ins rfl rfl rfl hu hp ?_)))
end
end Go.Ev
set_option maxHeartbeats 8000000
namespace Go.Ev
section
variable {P : Program} {K : Orc} {rd : Option Nat} {nt : Nat} {l : Sl} {ds : List ADef} {s : SH} {Q Qn Qr : Po} {Qe : Nat → Po} {F : Nat → FuncId} {T : Nat → TypeId}
theorem placed593 (hJ : BaseJu P K F T) (hS : BaseSl P K F T) (t45 : Ty P (T 45) 14) {bc bk bx bs bm : Nat} {v : Nat → AV} {n : Nat → Int} {py : Bool} {t x u : SH} {z w : Int} {lv : AV} {L : List (List AV)} (hc : Crt t bc bk v n py) (hx : Has bx (.r false [[.ptr (some ⟨bc, 0, 0⟩)]] 1) t) (hs : Has bs (.r false [[.map (some bm)]] 1) t) (hL : SlT t [.i] lv L) (hu : I2 bm t u) :
    Tri P K (F 593) [lv, iv z, iv w, .ptr (some ⟨bx, 0, 0⟩), .ptr (some ⟨bs, 0, 0⟩)] (x ++ u) (Keeps (I2 bm t) x isB) := by
  refine hJ.f593.tri ?_
  unfold a593
  refine Vr (k := fun bz => Vr (k := fun bo => Vr (k := WO.w (WS.cl ((all574 hJ hS).ok (x := (bo, .r false [[iv w]] 1) :: (bz, .r false [[iv z]] 1) :: x) (X := fun x => Has bz (.r false [[iv z]] 1) x ∧ Has bo (.r false [[iv w]] 1) x) (fun u hu => hL.1.mono hu.sub) hL.2.1 (fun r hr => (hL.2.2 r hr).1) (fun _ r hr => (hL.2.2 r hr).one) rfl I2.cons (fun _ _ h => ⟨.there h.1, .there h.2⟩) (placed594 hJ t45 hc hx hs hL.2.2) ⟨.there .here, .here⟩ hu) ?_))))
  rintro _ s2 ⟨⟨q, rfl⟩, hk⟩
  exact Vr (k := KI.end (y := [(bo, .r false [[iv w]] 1), (bz, .r false [[iv z]] 1)]) I2.cons hk)
theorem AskF.gro {g : Bool} {fv : AV} {I : SH → Prop} {t : SH} {L : List (List AV)} (hj : ∀ p u, I u → I (p :: u)) (hsub : ∀ u, I u → ∀ p, p ∈ t → p ∈ u) (hf : ∀ (s' : SH) (r : List AV), (∀ p, p ∈ t → p ∈ s') → r ∈ L → TriV P K fv [elv g r] s' (Gro s' isB)) : AskF P K g fv I (fun _ => True) (fun r => r ∈ L) := by
  rintro u x r - hr hu
  refine (hf (x ++ u) r (fun p hp => List.mem_append_right _ (hsub u hu p hp)) hr).post ?_
  rintro w s2 ⟨hb, m, rfl⟩
  exact ⟨hb, KI.gro hj ⟨u, hu, .refl _⟩⟩
theorem KI.all {g : Bool} {sz : Nat} {fa f1 f2 fi : FuncId} (hA : AllK P K g sz fa f1 f2 fi) {ty : List CT} (hsz : ty.length = sz) {fv w : AV} {t y : SH} {L : List (List AV)} {I : SH → Prop} (hk : KI y I s) (hI : ∀ p u, I u → I (p :: u)) (hs : ∀ u, I u → ∀ p, p ∈ t → p ∈ u) (hL : SlT t ty w L) (hf : AskF P K g fv I (fun _ => True) (fun r => r ∈ L)) (hv : partCells 1 fv = some [fv] := by rfl) : Tri P K fa [w, fv] s (fun w s' => isB w ∧ KI y I s') := by
  subst hsz
  exact KI.call hk fun u hu => hA.ok (X := fun _ => True) (fun u hu => hL.1.mono (hs u hu)) hL.2.1 (fun r hr => (hL.2.2 r hr).1) (fun _ r hr => (hL.2.2 r hr).one) hv hI (fun _ _ _ => trivial) hf trivial hu
theorem spells568 (hJ : BaseJu P K F T) (hS : BaseSl P K F T) (t45 : Ty P (T 45) 14) {bc bk : Nat} {v : Nat → AV} {n : Nat → Int} {py : Bool} (hc : Crt s bc bk v n py) : Tri P K (F 568) [.ptr (some ⟨bc, 0, 0⟩)] s (Gro s isB) := by
  refine Tri.canon (hJ.f568.tri ?_)
  unfold a568
  have h0 := hc.has
  obtain ⟨L, es, hL, -, -⟩ := hc.ob
  obtain ⟨L7, hL7⟩ := hc.st
  obtain ⟨L8, hL8⟩ := hc.wa
  refine Vr (k := fun bx => Vr (k := WO.a .mkmap fun bm => Vr (k := fun bs => ?_)))
  obtain ⟨t, ht⟩ : ∃ t, t = (bs, .r false [[.map (some bm)]] 1) :: (bx, .r false [[.ptr (some ⟨bc, 0, 0⟩)]] 1) :: s := ⟨_, rfl⟩
  have hx : Has bx (.r false [[.ptr (some ⟨bc, 0, 0⟩)]] 1) t := by rw [ht]; exact .there .here
  have hs : Has bs (.r false [[.map (some bm)]] 1) t := by rw [ht]; exact .here
  have hc' : Crt t bc bk v n py := by rw [ht]; exact hc.up fun p hp => by simp [hp]
  have hst : ∀ p, p ∈ s → p ∈ t := by rw [ht]; intro p hp; simp [hp]
  have hk : KI [] (I2 bm t) ((bs, .r false [[.map (some bm)]] 1) :: (bm, .m []) :: (bx, .r false [[.ptr (some ⟨bc, 0, 0⟩)]] 1) :: s) := by
    rw [ht]
    exact ⟨_, ⟨[], [], .refl _, fun p hp => by cases hp⟩, pm2⟩
  refine Vr (k := WO.w (WS.cl (KI.all (all604 hJ hS) rfl hk I2.cons I2.mem (hL7.mono hst) (spell607 hJ t45 hc' hx hs fun r hr => (hL7.2.2 r hr).mono hst)) ?_))
  rintro _ s2 ⟨⟨q, rfl⟩, hk⟩
  have h1 := hx.mono (hk.sub I2.mem)
  have h2 := hs.mono (hk.sub I2.mem)
  have h3 := hc'.has.mono (hk.sub I2.mem)
  repeat' (refine Vr (k := ?_); first | (obtain ⟨u2, ⟨m, es, hp, -⟩, hp2⟩ := hk; subst ht; exact Gro.perm (m := m ++ [(bm, .m es), (bs, .r false [[.map (some bm)]] 1), (bx, .r false [[.ptr (some ⟨bc, 0, 0⟩)]] 1)]) ((hp2.trans hp).trans pm2)) | refine WO.g2 rfl ?_ ?_ | (refine WO.w (WS.cl (KI.all (all604 hJ hS) rfl (by assumption) I2.cons I2.mem (hL8.mono hst) (AskF.gro I2.cons I2.mem fun s' r hs hr => TriV.func (spell608 hJ ((hL8.2.2 r hr).mono fun p hp => hs p (hst p hp))))) ?_); rintro _ s2 ⟨⟨q, rfl⟩, hk⟩; have h1 := hx.mono (hk.sub I2.mem); have h2 := hs.mono (hk.sub I2.mem); have h3 := hc'.has.mono (hk.sub I2.mem)) | (refine WO.w (WS.cl (KI.all (all590 hJ hS) rfl (by assumption) I2.cons I2.mem (hL.mono hst) (spell609 hJ hs fun r hr => (hL.2.2 r hr).mono hst)) ?_); rintro _ s2 ⟨⟨q, rfl⟩, hk⟩))
end
end Go.Ev
set_option maxHeartbeats 8000000
namespace Go.Ev
section
variable {P : Program} {K : Orc} {rd : Option Nat} {nt : Nat} {l : Sl} {ds : List ADef} {s : SH} {Q Qn Qr : Po} {Qe : Nat → Po} {F : Nat → FuncId} {T : Nat → TypeId}
theorem AllK.okp {g : Bool} {sz : Nat} {fa f1 f2 fi : FuncId} (h : AllK P K g sz fa f1 f2 fi) {v fv : AV} {L : List (List AV)} (p : List AV → Bool) (hS : Src s sz v L) (h1 : L.length ≤ 1099511627776) (hlen : ∀ row ∈ L, row.length = sz) (hone : g = false → ∀ row ∈ L, ∀ a ∈ row, a.one = true) (hv : partCells 1 fv = some [fv])
    (hf : ∀ row ∈ L, ∀ x : SH, TriV P K fv [elv g row] (x ++ s) (fun w s' => w = .bool (p row) ∧ ∃ m, s' = m ++ (x ++ s))) : Tri P K fa [v, fv] s (fun w s' => w = .bool (L.all p) ∧ ∃ m, s' = m ++ s) := by
  refine h.a.tri ?_
  unfold allC
  refine Vk (k := WO.a (.box rfl hv) fun b => Vk (k := WO.w (WS.callF rfl rfl (R' := fun w s' => w = .bool (L.findIdx? fun r => !p r).isSome ∧ ∃ m, s' = m ++ ((b, .r false [[fv]] 1) :: s)) ?_ ?_)))
  · refine h.c.tri (con_ok (h.d.tri (idx_ok (fun r => !p r) (hS.mono sub1) h.hz h.hg h1 hlen ?_ (R := fun w s' => w = idxV (L.findIdx? fun r => !p r) ∧ ∃ n, s' = n ++ ((b, .r false [[fv]] 1) :: s)) fun n => ⟨rfl, n, rfl⟩)) fun n => ⟨rfl, n, rfl⟩)
    intro row hr x
    refine TriV.func (h.b.tri ?_)
    have hsz := hlen _ hr
    have hb : Has b (.r false [[fv]] 1) (x ++ ((b, .r false [[fv]] 1) :: s)) := .app .here
    have hf' := hf row hr
    cases g with
    | true =>
      unfold allC1
      refine WP.seq (WP.ops (WO.a (.box rfl (part_elv (.inl rfl) hsz fun e => hone e _ hr)) fun b2 => ?_))
      refine Vk (k := WO.r (.load rfl .here rfl (take_all hsz) (ldv_elv (.inl rfl) hsz)) (WO.w (WS.call rfl rfl (R' := fun w s' => w = .bool (p row) ∧ ∃ m, s' = m ++ ((b2, .r false [row] sz) :: (x ++ ((b, .r false [[fv]] 1) :: s)))) ?_ ?_)))
      · have := hf' ((b2, .r false [row] sz) :: (x ++ [(b, .r false [[fv]] 1)]))
        simpa using this
      · rintro w s2 ⟨rfl, m, rfl⟩
        refine Vk (k := WP.ret (Fin.mk (.tmp rfl .nil) ?_))
        exact ⟨rfl, m ++ [(b2, .r false [row] sz)], by simp⟩
    | false =>
      unfold allC1
      refine Vk (k := WO.w (WS.call rfl rfl (R' := fun w s' => w = .bool (p row) ∧ ∃ m, s' = m ++ (x ++ ((b, .r false [[fv]] 1) :: s))) ?_ ?_))
      · have := hf' (x ++ [(b, .r false [[fv]] 1)])
        simpa using this
      · rintro w s2 ⟨rfl, m, rfl⟩
        refine Vk (k := WP.ret (Fin.mk (.tmp rfl .nil) ?_))
        exact ⟨rfl, m, rfl⟩
  · rintro w s2 ⟨rfl, m, rfl⟩
    refine Vk (k := WP.ret (Fin.mk (.tmp rfl .nil) ?_))
    refine ⟨?_, m ++ [(b, .r false [[fv]] 1)], by simp⟩
    have : (!(L.findIdx? fun r => !p r).isSome) = L.all p := by
      rw [Bool.eq_iff_iff]
      simp [List.findIdx?_isSome, List.all_eq_true, List.any_eq_true]
    show AV.bool (!(L.findIdx? fun r => !p r).isSome) = _
    rw [this]
theorem even589f (hJ : BaseJu P K F T) {v : AV} {L : List (List AV)} {b k : Nat} {ro : Bool} (hv : SlT s [tI] v L) (hb : Has b (.r ro [[iv (.ofNat k)]] 1) s) : Tri P K (F 589) [v, .ptr (some ⟨b, 0, 0⟩)] s (fun w s' => w = .bool (decide (L.length = k)) ∧ ∃ m, s' = m ++ s) := by
  refine hJ.f589.tri ?_
  unfold a589
  have hl := hv.len
  refine Vr (k := ?_)
  refine ⟨?_, [], rfl⟩
  show AV.bool (decide ((L.length : Int) = (k : Int))) = _
  exact congrArg AV.bool (decide_eq_decide.2 Int.ofNat_inj)
end
end Go.Ev
set_option maxHeartbeats 8000000
namespace Go.Ev
section
variable {P : Program} {K : Orc} {rd : Option Nat} {nt : Nat} {l : Sl} {ds : List ADef} {s : SH} {Q Qn Qr : Po} {Qe : Nat → Po} {F : Nat → FuncId} {T : Nat → TypeId}
theorem WD.skipd {d : Option Nat} {op : AOp} {lo hi a j b0 jj : Nat} {w b : Bool} {rest : List DC} {bs : List Nat} {pd : List PD} {hs : List SH} {os : List OB} {is : List Nat} (hj : Go.Ev.lk l jj = some (.bool b)) (hb : (b == w) = false) (h : WD P K rd rest (j + 1) bs pd hs os is (pl d .undef l) ds s Q) : WD P K rd (⟨⟨d, op, some (jj, w)⟩, .dalloc, lo, hi, a⟩ :: rest) j (b0 :: bs) pd hs os is l ds s Q := by
  intro ops anc l0 hd H0 S hS
  obtain ⟨d0, r0, rfl, h1, h2, h3, h4, h5, h6, h7, h8⟩ := dcs_cons hd
  obtain ⟨k, o, g1, g2, g3⟩ := cg_some h3
  have hw : wanted S.e ops d0.o.guard = some false := by
    rw [g1, wanted_eq g2 g3 (hS.en _ _ hj), hb]
  obtain ⟨n, S', k1, k2⟩ := h ops anc r0 h8 H0 { S with e := Ev.putO S.e d .undef, j := Nat.succ S.j, nid := Nat.succ S.nid } ⟨hS.en.putO d _, hS.ds, hS.hp, by show S.j + 1 = _; rw [hS.j], hS.bs.2, hS.pd, hS.hs, hS.os, hS.pi, hS.mi⟩
  refine ⟨n, S', (lfold_cons _ _ _ _ _).2 ⟨_, ?_, k1⟩, k2⟩
  unfold dstep
  simp only [hw, h4, h1]
theorem bsrows4 {l : Sl} {sz : Nat} {x y z q : Operand} {u v w p : AV} {cs es fs gs : List AV} (hx : opl l x = some u) (hc : partCells sz u = some cs) (hy : opl l y = some v) (he : partCells sz v = some es) (hz : opl l z = some w) (hf : partCells sz w = some fs) (hq : opl l q = some p) (hg : partCells sz p = some gs) : bsrows l sz 0 [(0, x), (1, y), (2, z), (3, q)] = some [cs, es, fs, gs] := by
  simp [bsrows, hx, hc, hy, he, hz, hf, hq, hg]
theorem part1 {v : AV} (h : v.one = true) : partCells 1 v = some [v] := part_elv (g := false) (row := [v]) (.inr rfl) rfl fun _ a ha => by cases List.mem_singleton.1 ha; exact h
def Evn (v : Nat → AV) : Prop := lenOf (v 2) = lenOf (v 0) ∧ lenOf (v 3) = lenOf (v 0) ∧ lenOf (v 4) = lenOf (v 0) ∧ lenOf (v 5) = lenOf (v 0)
theorem even560 (hJ : BaseJu P K F T) (hS : BaseSl P K F T) {bc bk : Nat} {v : Nat → AV} {n : Nat → Int} {py : Bool} (hc : Crt s bc bk v n py) : Tri P K (F 560) [.ptr (some ⟨bc, 0, 0⟩)] s (fun w s' => (∃ b, w = .bool b ∧ (b = true → Evn v)) ∧ ∃ m, s' = m ++ s) := by
  refine hJ.f560.tri ?_
  unfold a560
  have h0 := hc.has
  obtain ⟨L0, hL0⟩ := hc.pl
  obtain ⟨L2, hL2⟩ := hc.lb
  obtain ⟨L3, hL3⟩ := hc.hd
  obtain ⟨L4, hL4⟩ := hc.gr
  obtain ⟨L5, hL5⟩ := hc.ex
  have hl := hL0.len
  have p2 := part1 hL2.ok.one
  have p3 := part1 hL3.ok.one
  have p4 := part1 hL4.ok.one
  have p5 := part1 hL5.ok.one
  refine Vr (k := fun b3 => Vr (k := WP.drawn1 fun bd => Vr (k := WD.ch .nil (WS.cl (in587 hJ) ?_))))
  rintro _ _ ⟨⟨q, rfl⟩, rfl⟩
  cases q
  · refine Vr (k := WD.skipd rfl rfl (Vr (k := WD.skipc rfl rfl (Vr (k := ?_)))))
    exact ⟨⟨false, rfl, fun h => nomatch h⟩, [_, _], rfl⟩
  · obtain ⟨t, ht⟩ : ∃ t, t = (bd, HO.r false [[v 2], [v 3], [v 4], [v 5]] 1) :: (b3, .r false [[iv (.ofNat L0.length)]] 1) :: s := ⟨_, rfl⟩
    have hst : ∀ p, p ∈ s → p ∈ t := by rw [ht]; intro p hp; simp [hp]
    have hb3 : Has b3 (.r false [[iv (.ofNat L0.length)]] 1) t := by rw [ht]; exact .there .here
    have hbd : Src t 1 (.slice (some ⟨bd, 0, 0⟩) 4 4 false 1) [[v 2], [v 3], [v 4], [v 5]] := by rw [ht]; exact Src.all .here
    have key : ∀ (k : Nat) (L : List (List AV)), SlT s [tI] (v k) L → ∀ x : SH, TriV P K (.func (F 589) [] [.ptr (some ⟨b3, 0, 0⟩)]) [elv false [v k]] (x ++ t) (fun w s' => w = .bool (decide (lenOf (v k) = some L0.length)) ∧ ∃ m, s' = m ++ (x ++ t)) := fun k L hL x => by
      refine (TriV.func (even589f hJ (hL.mono fun p hp => List.mem_append_right _ (hst p hp)) (.app hb3))).post ?_
      rintro w s2 ⟨rfl, m, rfl⟩
      refine ⟨?_, m, rfl⟩
      rw [hL.len]
      simp
    have call : Tri P K (F 588) [.slice (some ⟨bd, 0, 0⟩) 4 4 false 1, .func (F 589) [] [.ptr (some ⟨b3, 0, 0⟩)]] t (fun w s' => w = .bool ([[v 2], [v 3], [v 4], [v 5]].all fun r => match r with | [w] => decide (lenOf w = some L0.length) | _ => false) ∧ ∃ m, s' = m ++ t) := by
      refine (all588 hJ hS).okp (fun r => match r with | [w] => decide (lenOf w = some L0.length) | _ => false) hbd (show 4 ≤ 1099511627776 by decide) ?_ ?_ rfl ?_
      · intro r hr
        simp only [List.mem_cons, List.not_mem_nil, or_false] at hr
        rcases hr with rfl | rfl | rfl | rfl <;> rfl
      · intro _ r hr a ha
        simp only [List.mem_cons, List.not_mem_nil, or_false] at hr
        rcases hr with rfl | rfl | rfl | rfl <;> cases List.mem_singleton.1 ha
        · exact hL2.ok.one
        · exact hL3.ok.one
        · exact hL4.ok.one
        · exact hL5.ok.one
      · intro r hr x
        simp only [List.mem_cons, List.not_mem_nil, or_false] at hr
        rcases hr with rfl | rfl | rfl | rfl
        · exact key 2 L2 hL2 x
        · exact key 3 L3 hL3 x
        · exact key 4 L4 hL4 x
        · exact key 5 L5 hL5 x
    refine Vr (k := WD.al (.bslice (bsrows4 rfl p2 rfl p3 rfl p4 rfl p5) rfl) rfl (Vr (k := WD.ch (.yes (show bit 33554431 23 = true from rfl) rfl .here .nil) (WS.pre (s' := t) (by rw [ht]; exact .refl _) (WS.cl call ?_)))))
    rintro _ _ ⟨rfl, m, rfl⟩
    refine Vr (k := ?_)
    refine ⟨⟨_, rfl, fun h => ?_⟩, m ++ [(bd, HO.r false [[v 2], [v 3], [v 4], [v 5]] 1), (b3, .r false [[iv (.ofNat L0.length)]] 1)], by rw [ht]; simp⟩
    simp only [List.all_cons, List.all_nil, Bool.and_true, Bool.and_eq_true, decide_eq_true_eq] at h
    exact ⟨h.1.trans hl.symm, h.2.1.trans hl.symm, h.2.2.1.trans hl.symm, h.2.2.2.trans hl.symm⟩
end
end Go.Ev
set_option maxHeartbeats 8000000
namespace Go.Ev
section
variable {P : Program} {K : Orc} {rd : Option Nat} {nt : Nat} {l : Sl} {ds : List ADef} {s : SH} {Q Qn Qr : Po} {Qe : Nat → Po} {F : Nat → FuncId} {T : Nat → TypeId}
theorem idxE {g : Bool} {sz : Nat} {v fv : AV} {L : List (List AV)} {I : SH → Prop} {C : Nat → Prop} {x u : SH} (hS : ∀ u, I u → Src u sz v L) (hz : sz ≠ 0) (hg : g = true ∨ sz = 1) (h1 : L.length ≤ 1099511627776) (hlen : ∀ row ∈ L, row.length = sz)
    (hf : ∀ (i : Nat) (row : List AV) u, L[i]? = some row → C i → I u → TriV P K fv [elv g row] (x ++ u) (fun w s' => (∃ b, w = .bool b ∧ (b = false → C (i + 1))) ∧ ∃ u, I u ∧ s'.Perm (x ++ u))) (hc : C 0) (hu : I u) :
    WP P K none nt (idxC g sz) (sl0 0 [v, fv]) [] (x ++ u) (Fin P [.tmp 4] (Keeps I x fun w => ∃ o : Option Nat, w = idxV o)) (fun _ _ _ _ => False) (Fin P [.tmp 4] (Keeps I x fun w => ∃ o : Option Nat, w = idxV o)) := by
  unfold idxC
  refine Vk (k := WO.r (.lenS rfl (hS u hu).lenOf) (WO.r (.mv rfl) (WO.nil (WP.block ?_))))
  refine WP.loop (fun k l ds s' => ds = [] ∧ ∃ i u', k = L.length - i ∧ i ≤ L.length ∧ C i ∧ I u' ∧ s'.Perm (x ++ u') ∧
    ∀ j w, lk [(0, v), (1, fv), (7, .int .i64 (.ofNat L.length)), (8, .int .i64 (.ofNat i))] j = some w → lk l j = some w) ?_ (n := L.length - 0) ⟨rfl, 0, u, rfl, Nat.zero_le _, hc, hu, .refl _, sbs⟩
  rintro k l ds s' ⟨rfl, i, u', rfl, hi, hci, hu', hp, hl⟩
  refine WP.pre hp (WP.weak hl (fun _ _ h => h) ?_)
  refine Vk (k := WP.cond rfl (fun ht => ?_) (fun ht => ?_))
  · have hlt : i < L.length := blt_iff.1 ht
    obtain ⟨b, r, n0, c, sl, ro, M, rfl, hb, hn, hM⟩ := (hS u' hu').at hlt
    have hrow : L[i]? = some L[i] := List.getElem?_eq_getElem hlt
    have hsz : (L[i]).length = sz := hlen _ (List.getElem_mem hlt)
    refine Vk (k := WO.r (.iaddrS rfl rfl hn hz) (WO.r (.load rfl (.app hb) (hM.trans hrow) (take_all hsz) (ldv_elv hg hsz)) (WO.w (WS.call rfl rfl (hf i _ u' hrow hci hu') ?_))))
    rintro w s2 ⟨⟨b2, rfl, hb2⟩, u2, hu2, hp2⟩
    refine WO.nil (WP.cond rfl (fun ht => ?_) (fun ht => ?_))
    · refine Vk (k := WP.ret (Fin.mk (.tmp rfl .nil) ?_))
      exact ⟨⟨some i, rfl⟩, u2, hu2, hp2⟩
    · refine Vk (k := ?_)
      exact ⟨L.length - (i + 1), by omega, rfl, i + 1, u2, rfl, hlt, hb2 ht, hu2, hp2, sbs⟩
  · refine WP.exit ?_
    refine Vk (k := WP.ret (Fin.mk (.tmp rfl .nil) ?_))
    exact ⟨⟨none, rfl⟩, u', hu', .refl _⟩
def Rule (P : Program) (K : Orc) (f : AV) (t : SH) (A C : Prop) : Prop := ∀ s, (∀ p, p ∈ t → p ∈ s) → A → TriV P K f [] s (fun w s' => (∃ b, w = .bool b ∧ (b = true → C)) ∧ ∃ m, s'.Perm (m ++ s))
theorem first559 (hJ : BaseJu P K F T) (hS : BaseSl P K F T) {lv : AV} {rs : List AV} {C : Nat → Prop} (hL : Src s 1 lv (rs.map fun f => [f])) (hn : rs.length ≤ 1000) (ho : ∀ f ∈ rs, f.one = true) (hr : ∀ (i : Nat) (f : AV), rs[i]? = some f → Rule P K f s (C i) (C (i + 1))) (hc : C 0) : Tri P K (F 559) [lv] s (fun w s' => isI w ∧ ∃ m, s'.Perm (m ++ s)) := by
  refine hJ.f559.tri ?_
  unfold a559
  refine Vr (k := WO.w (WS.cl (R' := Keeps (I0 s) [] fun w => ∃ o : Option Nat, w = idxV o) (hS.f585.tri (idxE (g := false) (sz := 1) (x := []) (u := s) (I := I0 s) (C := C) (fun u hu => hL.mono hu.sub) (by decide) (.inr rfl) ?_ ?_ ?_ hc ⟨[], .refl _⟩)) ?_))
  · rw [List.length_map]; omega
  · intro row hrow
    obtain ⟨f, -, rfl⟩ := List.mem_map.1 hrow
    rfl
  · intro i row u hi hci hu
    rw [List.getElem?_map] at hi
    obtain ⟨f, hf, rfl⟩ := Option.map_eq_some_iff.1 hi
    refine TriV.func (hJ.f586.tri ?_)
    unfold a586
    refine Vr (k := WO.w (WS.call rfl rfl (hr i f hf ([] ++ u) hu.sub hci) ?_))
    rintro w s2 ⟨⟨b, rfl, hb⟩, m, hp⟩
    refine Vr (k := ?_)
    obtain ⟨m2, hp2⟩ := hu
    exact ⟨⟨!b, rfl, fun h => hb (by simpa using h)⟩, m ++ u, ⟨m ++ m2, (hp2.append_left m).trans pm2⟩, hp⟩
  · rintro w s2 ⟨⟨o, rfl⟩, u2, ⟨m, hp⟩, hp2⟩
    obtain ⟨k, hk⟩ : ∃ k, binV .add (AV.int .i64 (.ofNat 1)) (idxV o) = some (iv k) := by
      cases o with
      | none => exact ⟨_, add_w _ _⟩
      | some i => exact ⟨_, add_w _ _⟩
    refine Vr (k := ?_)
    exact ⟨⟨_, rfl⟩, m, hp2.trans hp⟩
end
end Go.Ev
set_option maxHeartbeats 8000000
namespace Go.Ev
section
variable {P : Program} {K : Orc} {rd : Option Nat} {nt : Nat} {l : Sl} {ds : List ADef} {s : SH} {Q Qn Qr : Po} {Qe : Nat → Po} {F : Nat → FuncId} {T : Nat → TypeId}
theorem SlT.row1 {v : AV} {L : List (List AV)} (h : SlT s [tI] v L) {i : Nat} (hi : i < L.length) : ∃ b r n c sl ro M w Lw, v = .slice (some ⟨b, r, 0⟩) n c sl 1 ∧ Has b (.r ro M 1) s ∧ i < n ∧ M[Nat.add r i]? = some [w] ∧ SlT s [.i] w Lw := by
  obtain ⟨b, r, n, c, sl, ro, M, row, e, hb, hn, hM, hr, -⟩ := h.at hi
  obtain ⟨w, r', rfl, hw, hr'⟩ := hr.inv
  cases hr'.nil_inv
  obtain ⟨Lw, hLw⟩ := hw.sl
  exact ⟨b, r, n, c, sl, ro, M, w, Lw, e, hb, hn, hM, hLw⟩
theorem placed563 (hJ : BaseJu P K F T) (hS : BaseSl P K F T) (t45 : Ty P (T 45) 14) {bc bk : Nat} {v : Nat → AV} {n : Nat → Int} {py : Bool} (hc : Crt s bc bk v n py) (hev : Evn v) : Tri P K (F 563) [.ptr (some ⟨bc, 0, 0⟩)] s (Gro s isB) := by
  refine Tri.canon (hJ.f563.tri ?_)
  unfold a563
  have h0 := hc.has
  obtain ⟨L, es, hL, -, -⟩ := hc.ob
  obtain ⟨L0, hL0⟩ := hc.pl
  obtain ⟨L2, hL2⟩ := hc.lb
  obtain ⟨L3, hL3⟩ := hc.hd
  obtain ⟨L4, hL4⟩ := hc.gr
  obtain ⟨L5, hL5⟩ := hc.ex
  obtain ⟨L6, hL6⟩ := hc.fi
  obtain ⟨g2, g3, g4, g5⟩ := hev
  rw [hL2.len, hL0.len] at g2
  rw [hL3.len, hL0.len] at g3
  rw [hL4.len, hL0.len] at g4
  rw [hL5.len, hL0.len] at g5
  injection g2 with g2
  injection g3 with g3
  injection g4 with g4
  injection g5 with g5
  have hl0 := hL0.len
  refine Vr (k := fun bx => Vr (k := WO.a .mkmap fun bm => Vr (k := fun bs => ?_)))
  obtain ⟨t, ht⟩ : ∃ t, t = (bs, .r false [[.map (some bm)]] 1) :: (bx, .r false [[.ptr (some ⟨bc, 0, 0⟩)]] 1) :: s := ⟨_, rfl⟩
  have hx : Has bx (.r false [[.ptr (some ⟨bc, 0, 0⟩)]] 1) t := by rw [ht]; exact .there .here
  have hs : Has bs (.r false [[.map (some bm)]] 1) t := by rw [ht]; exact .here
  have hc' : Crt t bc bk v n py := by rw [ht]; exact hc.up fun p hp => by simp [hp]
  have hst : ∀ p, p ∈ s → p ∈ t := by rw [ht]; intro p hp; simp [hp]
  have hk : KI [] (I2 bm t) ((bs, .r false [[.map (some bm)]] 1) :: (bm, .m []) :: (bx, .r false [[.ptr (some ⟨bc, 0, 0⟩)]] 1) :: s) := by
    rw [ht]
    exact ⟨_, ⟨[], [], .refl _, fun p hp => by cases hp⟩, pm2⟩
  have hpl : ∀ {lv : AV} {Lw : List (List AV)} {z w : Int} {s1 : SH}, SlT s [.i] lv Lw → KI [] (I2 bm t) s1 → TriV P K (.func (F 593) [] [.ptr (some ⟨bx, 0, 0⟩), .ptr (some ⟨bs, 0, 0⟩)]) [lv, iv z, iv w] s1 (fun w s' => isB w ∧ KI [] (I2 bm t) s') := fun hLw hk => KI.callV hk fun u hu => TriV.func (placed593 hJ hS t45 hc' hx hs (hLw.mono hst) hu)
  refine Vr (k := WO.w (WS.call rfl rfl (hpl hL6 hk) ?_))
  rintro _ s2 ⟨⟨q, rfl⟩, hk⟩
  have h1 := hx.mono (hk.sub I2.mem)
  have h3 := hc'.has.mono (hk.sub I2.mem)
  refine Vr (k := WP.loop (fun k l ds s' => ds = [] ∧ ∃ i q, k = L0.length - i ∧ i ≤ L0.length ∧ KI [] (I2 bm t) s' ∧ ∀ j w, lk [(1, .ptr (some ⟨bx, 0, 0⟩)), (3, .ptr (some ⟨bs, 0, 0⟩)), (4, .func (F 593) [] [.ptr (some ⟨bx, 0, 0⟩), .ptr (some ⟨bs, 0, 0⟩)]), (5, .bool q), (21, .int .i64 (.ofNat L0.length)), (22, .int .i64 (.ofNat i))] j = some w → lk l j = some w) ?_ (n := L0.length - 0) ⟨rfl, 0, q, rfl, Nat.zero_le _, hk, sbs⟩)
  rintro k l ds s3 ⟨rfl, i, q, rfl, hi, hk, hl⟩
  refine WP.weak hl (fun _ _ h => h) ?_
  have h1 := hx.mono (hk.sub I2.mem)
  have h3 := hc'.has.mono (hk.sub I2.mem)
  refine Vr (k := WP.cond rfl (fun hlt0 => ?_) (fun _ => ?_))
  · have hlt : i < L0.length := Int.ofNat_lt.1 (of_decide_eq_true hlt0)
    obtain ⟨c2, r2, n2, a2, sl2, ro2, M2, w2, Lw2, e2, b2, m2, x2, y2⟩ := hL2.row1 (i := i) (by omega)
    obtain ⟨c3, r3, n3, a3, sl3, ro3, M3, w3, Lw3, e3, b3, m3, x3, y3⟩ := hL3.row1 (i := i) (by omega)
    obtain ⟨c4, r4, n4, a4, sl4, ro4, M4, w4, Lw4, e4, b4, m4, x4, y4⟩ := hL4.row1 (i := i) (by omega)
    obtain ⟨c5, r5, n5, a5, sl5, ro5, M5, w5, Lw5, e5, b5, m5, x5, y5⟩ := hL5.row1 (i := i) (by omega)
    have k2 := (b2.mono hst).mono (hk.sub I2.mem)
    have k3 := (b3.mono hst).mono (hk.sub I2.mem)
    have k4 := (b4.mono hst).mono (hk.sub I2.mem)
    have k5 := (b5.mono hst).mono (hk.sub I2.mem)
    have hadd : binV .add (AV.int .i64 (.ofNat i)) (AV.int .i64 (.ofNat 1)) = some (AV.int .i64 (.ofNat (i + 1))) := add_n (by have := hL0.2.1; simp only [big] at this; omega)
    repeat' (refine Vr (k := ?_); first | exact ⟨L0.length - (i + 1), by omega, rfl, i + 1, _, rfl, hlt, by assumption, sbs⟩ | refine WO.g2 rfl ?_ ?_ | refine WO.r (.ia e2 m2) ?_ | refine WO.r (.ia e3 m3) ?_ | refine WO.r (.ia e4 m4) ?_ | refine WO.r (.ia e5 m5) ?_ | (refine WO.w (WS.call rfl rfl (hpl y2 (by assumption)) ?_); rintro _ s2 ⟨⟨q, rfl⟩, hk⟩; have h1 := hx.mono (hk.sub I2.mem); have h3 := hc'.has.mono (hk.sub I2.mem); have k2 := (b2.mono hst).mono (hk.sub I2.mem); have k3 := (b3.mono hst).mono (hk.sub I2.mem); have k4 := (b4.mono hst).mono (hk.sub I2.mem); have k5 := (b5.mono hst).mono (hk.sub I2.mem)) | (refine WO.w (WS.call rfl rfl (hpl y3 (by assumption)) ?_); rintro _ s2 ⟨⟨q, rfl⟩, hk⟩; have h1 := hx.mono (hk.sub I2.mem); have h3 := hc'.has.mono (hk.sub I2.mem); have k2 := (b2.mono hst).mono (hk.sub I2.mem); have k3 := (b3.mono hst).mono (hk.sub I2.mem); have k4 := (b4.mono hst).mono (hk.sub I2.mem); have k5 := (b5.mono hst).mono (hk.sub I2.mem)) | (refine WO.w (WS.call rfl rfl (hpl y4 (by assumption)) ?_); rintro _ s2 ⟨⟨q, rfl⟩, hk⟩; have h1 := hx.mono (hk.sub I2.mem); have h3 := hc'.has.mono (hk.sub I2.mem); have k2 := (b2.mono hst).mono (hk.sub I2.mem); have k3 := (b3.mono hst).mono (hk.sub I2.mem); have k4 := (b4.mono hst).mono (hk.sub I2.mem); have k5 := (b5.mono hst).mono (hk.sub I2.mem)) | (refine WO.w (WS.call rfl rfl (hpl y5 (by assumption)) ?_); rintro _ s2 ⟨⟨q, rfl⟩, hk⟩; have h1 := hx.mono (hk.sub I2.mem); have h3 := hc'.has.mono (hk.sub I2.mem); have k2 := (b2.mono hst).mono (hk.sub I2.mem); have k3 := (b3.mono hst).mono (hk.sub I2.mem); have k4 := (b4.mono hst).mono (hk.sub I2.mem); have k5 := (b5.mono hst).mono (hk.sub I2.mem)))
  · repeat' (refine Vr (k := ?_); first | (obtain ⟨u2, ⟨m, es, hp, -⟩, hp2⟩ := hk; subst ht; exact Gro.perm (m := m ++ [(bm, .m es), (bs, .r false [[.map (some bm)]] 1), (bx, .r false [[.ptr (some ⟨bc, 0, 0⟩)]] 1)]) ((hp2.trans hp).trans pm2)) | refine WP.exit ?_ | refine WO.g2 rfl ?_ ?_ | (refine WO.w (WS.cl (KI.all (all590 hJ hS) rfl (by assumption) I2.cons I2.mem (hL.mono hst) (placed595 hJ hs fun r hr => (hL.2.2 r hr).mono hst)) ?_); rintro _ s2 ⟨⟨q, rfl⟩, hk⟩))
end
end Go.Ev
set_option maxHeartbeats 8000000
namespace Go.Ev
section
variable {P : Program} {K : Orc} {rd : Option Nat} {nt : Nat} {l : Sl} {ds : List ADef} {s : SH} {Q Qn Qr : Po} {Qe : Nat → Po} {F : Nat → FuncId} {T : Nat → TypeId}
def IM (D : AV → Prop) (bm : Nat) (t u : SH) : Prop := ∃ m es, u.Perm (m ++ ((bm, .m es) :: t)) ∧ IntM D es
theorem IM.cons {D : AV → Prop} {bm : Nat} {t u : SH} (p : Nat × HO) (h : IM D bm t u) : IM D bm t (p :: u) := by
  obtain ⟨m, es, hp, he⟩ := h
  exact ⟨p :: m, es, hp.cons p, he⟩
theorem IM.mem {D : AV → Prop} {bm : Nat} {t u : SH} (h : IM D bm t u) : ∀ p, p ∈ t → p ∈ u := by
  obtain ⟨m, es, hp, he⟩ := h
  exact fun p hq => hp.symm.subset (List.mem_append_right _ (List.mem_cons_of_mem _ hq))
theorem IM.has {D : AV → Prop} {bm : Nat} {t u : SH} (h : IM D bm t u) : ∃ es, Has bm (.m es) u ∧ IntM D es := by
  obtain ⟨m, es, hp, he⟩ := h
  exact ⟨es, .of_mem (hp.symm.subset (List.mem_append_right _ (List.mem_cons_self ..))), he⟩
theorem IM.put {D : AV → Prop} {bm : Nat} {t u : SH} (h : IM D bm t u) (a : Int) {v : AV} (hv : D v) : ∃ es es' u', putIn .pi (iv a) v es = some es' ∧ Upd bm (.m es) (.m es') u u' ∧ IM D bm t u' := by
  obtain ⟨m, es, hp, he⟩ := h
  obtain ⟨es', h1, h2⟩ := putM he a hv
  have hr : u.Perm ((bm, .m es) :: (m ++ t)) := hp.trans pm2
  have hmem : (bm, HO.m es) ∈ u := hr.symm.subset (List.mem_cons_self ..)
  obtain ⟨x1, x2, rfl⟩ := List.append_of_mem hmem
  refine ⟨es, es', x1 ++ (bm, .m es') :: x2, h1, .mid, m, es', ?_, h2⟩
  have hc : (x1 ++ x2).Perm (m ++ t) := (List.perm_middle.symm.trans hr).cons_inv
  exact (List.perm_middle.trans (hc.cons _)).trans pm2
@[reducible] def stRow (v : Nat → AV) (n : Nat → Int) (py : Bool) : List AV := [v 0, v 1, v 2, v 3, v 4, v 5, v 6, v 7, v 8, iv (n 0), iv (n 1), iv (n 2), iv (n 3), iv (n 4), iv (n 5), iv (n 6), iv (n 7), iv (n 8), iv (n 9), iv (n 10), iv (n 11), v 9, .bool py, iv (n 12), iv (n 13)]
@[reducible] def cfRow (n : Nat → Int) : List AV := [iv (n 14), iv (n 15), iv (n 16), iv (n 17), iv (n 18)]
structure Sta (s : SH) (v : Nat → AV) : Prop where
  pl : ∃ L, SlT s rPl (v 0) L
  ob : ∃ L, SlT s rOb (v 1) L
  lb : ∃ L, SlT s [tI] (v 2) L
  hd : ∃ L, SlT s [tI] (v 3) L
  gr : ∃ L, SlT s [tI] (v 4) L
  ex : ∃ L, SlT s [tI] (v 5) L
  fi : ∃ L, SlT s [.i] (v 6) L
  st : ∃ L, SlT s rIt (v 7) L
  wa : ∃ L, SlT s rIt (v 8) L
  kt : ∃ L, SlT s rTg (v 9) L
  cd : ∃ L, SlT s rCd (v 10) L
theorem of558 (hJ : BaseJu P K F T) {v : Nat → AV} {n : Nat → Int} {py : Bool} (hv : Sta s v) : Tri P K (F 558) [v 10, .agg (cfRow n), .agg (stRow v n py)] s (fun w s' => ∃ bc bm, w = .ptr (some ⟨bc, 0, 0⟩) ∧ Crt s' bc bm v n py ∧ ∃ m, s'.Perm (m ++ s)) := by
  refine hJ.f558.tri ?_
  unfold a558
  obtain ⟨L, hL⟩ := hv.ob
  have hl := hL.len
  have p10 : partCells 1 (v 10) = some [v 10] := by
    obtain ⟨L10, h10⟩ := hv.cd
    exact part1 h10.ok.one
  refine Vr (k := fun b4 => Vr (k := fun b5 => Vr (k := WO.a .mkmap fun bm => Vr (k := WO.r (.build (cs := coRow v n py bm) (by simp only [bparts, lmapO, opl, lk, p10]; rfl) rfl) (Vr (k := fun bc => ?_))))))
  obtain ⟨t, ht⟩ : ∃ t, t = (bc, HO.r false [coRow v n py bm] 32) :: (b5, .r false [stRow v n py] 25) :: (b4, .r false [cfRow n] 5) :: s := ⟨_, rfl⟩
  have hbc : Has bc (.r false [coRow v n py bm] 32) t := by rw [ht]; exact .here
  have hst : ∀ p, p ∈ s → p ∈ t := by rw [ht]; intro p hp; simp [hp]
  have hI : IM (Below L.length) bm t ((bc, HO.r false [coRow v n py bm] 32) :: (bm, .m []) :: (b5, .r false [stRow v n py] 25) :: (b4, .r false [cfRow n] 5) :: s) := by
    rw [ht]
    exact ⟨[], [], pm2, fun p hp => by cases hp⟩
  refine Vr (k := WP.loop (fun k l ds s' => ds = [] ∧ ∃ i, k = L.length - i ∧ i ≤ L.length ∧ IM (Below L.length) bm t s' ∧ ∀ j w, lk [(7, .ptr (some ⟨bc, 0, 0⟩)), (19, v 1), (20, .int .i64 (.ofNat L.length)), (21, .int .i64 (.ofNat i))] j = some w → lk l j = some w) ?_ (n := L.length - 0) ⟨rfl, 0, rfl, Nat.zero_le _, hI, sbs⟩)
  rintro k l ds s3 ⟨rfl, i, rfl, hi, hI, hlk⟩
  refine WP.weak hlk (fun _ _ h => h) ?_
  refine Vr (k := WP.cond rfl (fun hlt0 => ?_) (fun _ => ?_))
  · have hlt : i < L.length := Int.ofNat_lt.1 (of_decide_eq_true hlt0)
    obtain ⟨b, r, n0, c, sl, ro, M, row, e, hb, hn, hM, hr, -⟩ := hL.at hlt
    obtain ⟨a, bb, ev, rfl, -⟩ := hr.ob
    have k1 := (hb.mono hst).mono hI.mem
    have hadd : binV .add (AV.int .i64 (.ofNat i)) (AV.int .i64 (.ofNat 1)) = some (AV.int .i64 (.ofNat (i + 1))) := add_n (by have := hL.2.1; simp only [big] at this; omega)
    refine Vr (k := WO.r (.ia e hn) (Vr (k := fun b9 => ?_)))
    have hI := IM.cons (b9, .r false [[iv (a 0), iv (a 1), iv (a 2), iv (a 3), iv (a 4), .bool (bb 0), .bool (bb 1), .bool (bb 2), iv (a 5), iv (a 6), iv (a 7), iv (a 8), .bool (bb 3), ev]] 14) hI
    obtain ⟨es, hm, he⟩ := hI.has
    obtain ⟨o, ho, hd⟩ := lookM he (a 0)
    have k2 := hbc.mono hI.mem
    cases o with
    | none =>
      obtain ⟨es2, es', s4, hp, hu, hI⟩ := hI.put (a 0) (v := iv (.ofNat i)) ⟨i, rfl, hlt⟩
      repeat' (refine Vr (k := ?_); first | exact ⟨L.length - (i + 1), by omega, rfl, i + 1, rfl, hlt, by assumption, sbs⟩ | refine WD.ld rfl .nil (.look rfl rfl hm ho) ?_ | refine WD.ch .nil (WS.ins rfl rfl rfl hu hp ?_))
    | some w =>
      obtain ⟨i2, rfl, hi2⟩ := hd w rfl
      repeat' (refine Vr (k := ?_); first | exact ⟨L.length - (i + 1), by omega, rfl, i + 1, rfl, hlt, by assumption, sbs⟩ | refine WD.ld rfl .nil (.look rfl rfl hm ho) ?_)
  · refine WP.exit (Vr (k := ?_))
    obtain ⟨es, hm, he⟩ := hI.has
    have hs3 : ∀ p, p ∈ s → p ∈ s3 := fun p hp => hI.mem p (hst p hp)
    obtain ⟨⟨L0, h0⟩, -, ⟨L2, h2⟩, ⟨L3, h3⟩, ⟨L4, h4⟩, ⟨L5, h5⟩, ⟨L6, h6⟩, ⟨L7, h7⟩, ⟨L8, h8⟩, ⟨L9, h9⟩, ⟨L10, h10⟩⟩ := hv
    refine ⟨bc, bm, rfl, ⟨hbc.mono hI.mem, ⟨_, h0.mono hs3⟩, ⟨_, es, hL.mono hs3, hm, he⟩, ⟨_, h2.mono hs3⟩, ⟨_, h3.mono hs3⟩, ⟨_, h4.mono hs3⟩, ⟨_, h5.mono hs3⟩, ⟨_, h6.mono hs3⟩, ⟨_, h7.mono hs3⟩, ⟨_, h8.mono hs3⟩, ⟨_, h9.mono hs3⟩, ⟨_, h10.mono hs3⟩⟩, ?_⟩
    obtain ⟨m, es, hp, -⟩ := hI
    subst ht
    exact ⟨m ++ [(bm, .m es), (bc, HO.r false [coRow v n py bm] 32), (b5, .r false [stRow v n py] 25), (b4, .r false [cfRow n] 5)], hp.trans pm2⟩
end
end Go.Ev
set_option maxHeartbeats 8000000
namespace Go.Ev
section
variable {P : Program} {K : Orc} {rd : Option Nat} {nt : Nat} {l : Sl} {ds : List ADef} {s : SH} {Q Qn Qr : Po} {Qe : Nat → Po} {F : Nat → FuncId} {T : Nat → TypeId}
def Meth (P : Program) (K : Orc) (f : FuncId) : Prop := ∀ (s : SH) (bc bk : Nat) (v : Nat → AV) (n : Nat → Int) (py : Bool), Crt s bc bk v n py → Tri P K f [.ptr (some ⟨bc, 0, 0⟩)] s (Gro s isB)
def Sml (v : Nat → AV) : Prop := (∀ k, lenOf (v 7) = some k → k ≤ 1000) ∧ ∀ k, lenOf (v 8) = some k → k ≤ 1000
theorem Rule.meth {f : FuncId} {t : SH} {bc bk : Nat} {v : Nat → AV} {n : Nat → Int} {py : Bool} {A C : Prop} (hc : Crt t bc bk v n py) (hm : ∀ s, Crt s bc bk v n py → A → Tri P K f [.ptr (some ⟨bc, 0, 0⟩)] s (Gro s isB)) (h : A → C) : Rule P K (.func f [.ptr (some ⟨bc, 0, 0⟩)] []) t A C := by
  intro s hs ha
  refine TriV.func ((hm s (hc.up hs) ha).post ?_)
  rintro w s' ⟨⟨b, rfl⟩, m, rfl⟩
  exact ⟨⟨b, rfl, fun _ => h ha⟩, m, .refl _⟩
theorem perm_up {s2 s3 m m2 : SH} {p q r : Nat × HO} (h2 : s3.Perm (m2 ++ p :: s2)) (h : s2.Perm (m ++ q :: r :: s)) : ∃ m, s3.Perm (m ++ s) := ⟨m2 ++ p :: (m ++ [q, r]), (h2.trans ((h.cons p).append_left m2)).trans pm2⟩
theorem sound505 (hJ : BaseJu P K F T) (hS : BaseSl P K F T) (t45 : Ty P (T 45) 14) (h566 : Meth P K (F 566)) (h567 : ∀ (s : SH) (bc bk : Nat) (v : Nat → AV) (n : Nat → Int) (py : Bool), Crt s bc bk v n py → Sml v → Tri P K (F 567) [.ptr (some ⟨bc, 0, 0⟩)] s (Gro s isB)) {v : Nat → AV} {n : Nat → Int} {py : Bool} (hv : Sta s v) (hm0 : Sml v) : Tri P K (F 505) [v 10, .agg (cfRow n), .agg (stRow v n py)] s (fun w s' => isI w ∧ ∃ m, s'.Perm (m ++ s)) := by
  refine hJ.f505.tri ?_
  unfold a505
  have hv' : ∀ (p q : Nat × HO), Sta (p :: q :: s) v := fun p q => by
    have hs : ∀ x, x ∈ s → x ∈ p :: q :: s := fun x hx => sub1 _ (sub1 _ hx)
    obtain ⟨⟨L0, h0⟩, ⟨L1, h1⟩, ⟨L2, h2⟩, ⟨L3, h3⟩, ⟨L4, h4⟩, ⟨L5, h5⟩, ⟨L6, h6⟩, ⟨L7, h7⟩, ⟨L8, h8⟩, ⟨L9, h9⟩, ⟨L10, h10⟩⟩ := hv
    exact ⟨⟨_, h0.mono hs⟩, ⟨_, h1.mono hs⟩, ⟨_, h2.mono hs⟩, ⟨_, h3.mono hs⟩, ⟨_, h4.mono hs⟩, ⟨_, h5.mono hs⟩, ⟨_, h6.mono hs⟩, ⟨_, h7.mono hs⟩, ⟨_, h8.mono hs⟩, ⟨_, h9.mono hs⟩, ⟨_, h10.mono hs⟩⟩
  refine Vr (k := fun b4 => Vr (k := fun b5 => Vr (k := WO.w (WS.cl (of558 hJ (hv' _ _)) ?_))))
  rintro _ s2 ⟨bc, bm, rfl, hc, m, hp⟩
  refine Vr (k := WO.a (.bslice (len := 10) rfl rfl) fun bl => Vr (k := WO.w (WS.cl (first559 hJ hS (rs := [.func (F 560) [.ptr (some ⟨bc, 0, 0⟩)] [], .func (F 561) [.ptr (some ⟨bc, 0, 0⟩)] [], .func (F 562) [.ptr (some ⟨bc, 0, 0⟩)] [], .func (F 563) [.ptr (some ⟨bc, 0, 0⟩)] [], .func (F 564) [.ptr (some ⟨bc, 0, 0⟩)] [], .func (F 565) [.ptr (some ⟨bc, 0, 0⟩)] [], .func (F 566) [.ptr (some ⟨bc, 0, 0⟩)] [], .func (F 567) [.ptr (some ⟨bc, 0, 0⟩)] [], .func (F 568) [.ptr (some ⟨bc, 0, 0⟩)] [], .func (F 569) [.ptr (some ⟨bc, 0, 0⟩)] []]) (C := fun i => 1 ≤ i → Evn v) (Src.all .here) (show 10 ≤ 1000 by decide) ?_ ?_ (fun h => by omega)) ?_)))
  · intro f hf
    simp only [List.mem_cons, List.not_mem_nil, or_false] at hf
    rcases hf with rfl | rfl | rfl | rfl | rfl | rfl | rfl | rfl | rfl | rfl <;> rfl
  · have hc := hc.up (sub1 (p := (bl, HO.r false [[.func (F 560) [.ptr (some ⟨bc, 0, 0⟩)] []], [.func (F 561) [.ptr (some ⟨bc, 0, 0⟩)] []], [.func (F 562) [.ptr (some ⟨bc, 0, 0⟩)] []], [.func (F 563) [.ptr (some ⟨bc, 0, 0⟩)] []], [.func (F 564) [.ptr (some ⟨bc, 0, 0⟩)] []], [.func (F 565) [.ptr (some ⟨bc, 0, 0⟩)] []], [.func (F 566) [.ptr (some ⟨bc, 0, 0⟩)] []], [.func (F 567) [.ptr (some ⟨bc, 0, 0⟩)] []], [.func (F 568) [.ptr (some ⟨bc, 0, 0⟩)] []], [.func (F 569) [.ptr (some ⟨bc, 0, 0⟩)] []]] 1)))
    intro i f hf
    match i, hf with
    | 0, hf =>
      cases hf
      intro s hs _
      refine TriV.func ((even560 hJ hS (hc.up hs)).post ?_)
      rintro w s' ⟨⟨b, rfl, hb⟩, m, rfl⟩
      exact ⟨⟨b, rfl, fun h _ => hb h⟩, m, .refl _⟩
    | 1, hf => cases hf; exact Rule.meth hc (fun s h _ => rise561 hJ hS h) (fun h _ => h (by omega))
    | 2, hf => cases hf; exact Rule.meth hc (fun s h _ => owned562 hJ hS h) (fun h _ => h (by omega))
    | 3, hf => cases hf; exact Rule.meth hc (fun s h he => placed563 hJ hS t45 h (he (by omega))) (fun h _ => h (by omega))
    | 4, hf => cases hf; exact Rule.meth hc (fun s h _ => bare564 hJ hS h) (fun h _ => h (by omega))
    | 5, hf => cases hf; exact Rule.meth hc (fun s h _ => field565 hJ hS t45 h) (fun h _ => h (by omega))
    | 6, hf => cases hf; exact Rule.meth hc (fun s h _ => h566 s _ _ _ _ _ h) (fun h _ => h (by omega))
    | 7, hf => cases hf; exact Rule.meth hc (fun s h _ => h567 s _ _ _ _ _ h hm0) (fun h _ => h (by omega))
    | 8, hf => cases hf; exact Rule.meth hc (fun s h _ => spells568 hJ hS t45 h) (fun h _ => h (by omega))
    | 9, hf => cases hf; exact Rule.meth hc (fun s h _ => bounds569 hJ h) (fun h _ => h (by omega))
    | _ + 10, hf => cases hf
  · rintro w s3 ⟨⟨k, rfl⟩, m2, hp2⟩
    refine Vr (k := ?_)
    exact ⟨⟨k, rfl⟩, perm_up hp2 hp⟩
end
end Go.Ev
set_option maxHeartbeats 8000000
namespace Go.Ev
section
variable {P : Program} {K : Orc} {rd : Option Nat} {nt : Nat} {l : Sl} {ds : List ADef} {s : SH} {Q Qn Qr : Po} {Qe : Nat → Po} {F : Nat → FuncId} {T : Nat → TypeId}
theorem WR.slcA0 {n sz : Nat} {x : Operand} {b r o : Nat} (hx : opl l x = some (.ptr (some ⟨b, r, o⟩))) (hn : n ≠ 0) : WR P (.slcA n sz x none none none) l s (.slice (some ⟨b, r, o⟩) n n false 0) := by
  refine WR.mk' (fun _ _ _ _ _ => rfl) (fun e H he => ?_)
  have h1 : Nat.beq 0 n = false := by
    cases n with
    | zero => exact absurd rfl hn
    | succ n => rfl
  simp only [aval, opl_ok he hx, bndO, h1, elemAt]
  simp
theorem WR.iaddrC {sz : Nat} {x i : Operand} {b r o n c : Nat} {sl : Bool} {q : IntKind} {j : Nat} (hx : opl l x = some (.slice (some ⟨b, r, o⟩) n c sl 0)) (hi : opl l i = some (.int q (.ofNat j))) (hj : j < n) : WR P (.iaddrS sz x i) l s (.ptr (some ⟨b, r, Nat.add o (Nat.mul j sz)⟩)) := by
  refine WR.mk' (fun _ _ _ _ _ => rfl) (fun e H he => ?_)
  have h1 : Nat.blt j n = true := Nat.ble_eq_true_of_le hj
  simp only [aval, opl_ok he hx, opl_ok he hi, h1, elemAt]
theorem idxCells {fv : AV} {b r o n : Nat} {ro : Bool} {L : List (List AV)} {row : List AV} {sz : Nat} {I : SH → Prop} {x u : SH} (hS : ∀ u, I u → Has b (.r ro L sz) u) (hr : L[r]? = some row) (hint : ∀ j, j < n → ∃ a : Int, ltake 1 (ldrop (o + j) row) = some [iv a]) (h1 : n ≤ 1000000)
    (hf : ∀ (a : Int) u, I u → TriV P K fv [iv a] (x ++ u) (Keeps I x isB)) (hu : I u) :
    WP P K none nt (idxC false 1) (sl0 0 [.slice (some ⟨b, r, o⟩) n n false 0, fv]) [] (x ++ u) (Fin P [.tmp 4] (Keeps I x fun w => ∃ o : Option Nat, w = idxV o ∧ ∀ i, o = some i → i < n)) (fun _ _ _ _ => False) (Fin P [.tmp 4] (Keeps I x fun w => ∃ o : Option Nat, w = idxV o ∧ ∀ i, o = some i → i < n)) := by
  unfold idxC
  refine Vk (k := ?_)
  refine WP.loop (fun k l ds s' => ds = [] ∧ ∃ i u', k = n - i ∧ i ≤ n ∧ I u' ∧ s'.Perm (x ++ u') ∧
    ∀ j w, lk [(0, .slice (some ⟨b, r, o⟩) n n false 0), (1, fv), (7, .int .i64 (.ofNat n)), (8, .int .i64 (.ofNat i))] j = some w → lk l j = some w) ?_ (n := n - 0) ⟨rfl, 0, u, rfl, Nat.zero_le _, hu, .refl _, sbs⟩
  rintro k l ds s' ⟨rfl, i, u', rfl, hi, hu', hp, hl⟩
  refine WP.pre hp (WP.weak hl (fun _ _ h => h) ?_)
  refine Vk (k := WP.cond rfl (fun ht => ?_) (fun ht => ?_))
  · have hlt : i < n := blt_iff.1 ht
    obtain ⟨a, ha⟩ := hint i hlt
    have ha' : ltake 1 (ldrop (Nat.add o (Nat.mul i 1)) row) = some [iv a] := by simpa using ha
    refine Vk (k := WO.r (.iaddrC rfl rfl hlt) (WO.r (.load rfl (.app (hS u' hu')) hr ha' rfl) (WO.w (WS.call rfl rfl (hf a u' hu') ?_))))
    rintro w s2 ⟨⟨b2, rfl⟩, u2, hu2, hp2⟩
    refine WO.nil (WP.cond rfl (fun ht => ?_) (fun ht => ?_))
    · refine Vk (k := WP.ret (Fin.mk (.tmp rfl .nil) ?_))
      exact ⟨⟨some i, rfl, fun j hj => by cases hj; exact hlt⟩, u2, hu2, hp2⟩
    · refine Vk (k := ?_)
      exact ⟨n - (i + 1), by omega, rfl, i + 1, u2, rfl, hlt, hu2, hp2, sbs⟩
  · refine WP.exit ?_
    refine Vk (k := WP.ret (Fin.mk (.tmp rfl .nil) ?_))
    exact ⟨⟨none, rfl, fun j hj => by cases hj⟩, u', hu', .refl _⟩
end
end Go.Ev
set_option maxHeartbeats 8000000
namespace Go.Ev
section
variable {P : Program} {K : Orc} {rd : Option Nat} {nt : Nat} {l : Sl} {ds : List ADef} {s : SH} {Q Qn Qr : Po} {Qe : Nat → Po} {F : Nat → FuncId} {T : Nat → TypeId}
theorem allCells {fa f1 f2 fi : FuncId} (h : AllK P K false 1 fa f1 f2 fi) {fv : AV} {b r o n : Nat} {ro : Bool} {L : List (List AV)} {row : List AV} {sz : Nat} (hS : Has b (.r ro L sz) s) (hr : L[r]? = some row) (hint : ∀ j, j < n → ∃ a : Int, ltake 1 (ldrop (o + j) row) = some [iv a]) (h1 : n ≤ 1000000)
    (hf : ∀ (a : Int) (s' : SH), TriV P K fv [iv a] s' (Gro s' isB)) (hv : partCells 1 fv = some [fv] := by rfl) : Tri P K fa [.slice (some ⟨b, r, o⟩) n n false 0, fv] s (fun w s' => isB w ∧ ∃ m, s'.Perm (m ++ s)) := by
  refine h.a.tri ?_
  unfold allC
  refine Vk (k := WO.a (.box rfl hv) fun b2 => Vk (k := WO.w (WS.callF rfl rfl (R' := Keeps (I0 s) [(b2, .r false [[fv]] 1)] isB) ?_ ?_)))
  · refine h.c.tri (conI (x := [(b2, .r false [[fv]] 1)]) (u := s) (n := n) (h.d.tri (idxCells (x := [(b2, .r false [[fv]] 1)]) (u := s) (I := I0 s) (fun u hu => hS.mono hu.sub) hr hint h1 ?_ ⟨[], .refl _⟩)))
    intro a u hu
    refine TriV.func (h.b.tri ?_)
    unfold allC1
    refine Vk (k := WO.w (WS.call rfl rfl (hf a _) ?_))
    rintro w s2 ⟨⟨q, rfl⟩, m, rfl⟩
    refine Vk (k := WP.ret (Fin.mk (.tmp rfl .nil) ?_))
    obtain ⟨m2, hp⟩ := hu
    exact ⟨⟨_, rfl⟩, m ++ u, ⟨m ++ m2, (hp.append_left m).trans pm2⟩, pm2⟩
  · rintro w s2 ⟨⟨q, rfl⟩, u2, ⟨m, hp⟩, hp2⟩
    refine Vk (k := WP.ret (Fin.mk (.tmp rfl .nil) ?_))
    exact ⟨⟨_, rfl⟩, m ++ [(b2, .r false [[fv]] 1)], (hp2.trans (hp.append_left _)).trans pm2⟩
theorem pl602 (hJ : BaseJu P K F T) (hS : BaseSl P K F T) {r : List AV} (hr : OkR s rPl r) : Tri P K (F 602) [.agg r] s (Gro s isB) := by
  refine Tri.canon (hJ.f602.tri ?_)
  unfold a602
  obtain ⟨a, b, rfl⟩ := hr.pl
  refine Vr (k := fun b1 => Vr (k := WO.w (WS.cl (in587 hJ) ?_)))
  rintro _ _ ⟨⟨q, rfl⟩, rfl⟩
  cases q
  · refine Vr (k := Gro.perm (m := [(b1, _)]) (.refl _))
  · refine Vr (k := WO.r (.slcA0 rfl (by decide)) (Vr (k := WO.w (WS.cl (allCells (all574 hJ hS) .here rfl ?_ (show 4 ≤ 1000000 by decide) (fun a s' => TriV.func (pl603 hJ))) ?_))))
    · intro j hj
      match j, hj with
      | 0, _ => exact ⟨_, rfl⟩
      | 1, _ => exact ⟨_, rfl⟩
      | 2, _ => exact ⟨_, rfl⟩
      | 3, _ => exact ⟨_, rfl⟩
    · rintro w s2 ⟨⟨q, rfl⟩, m, hp⟩
      refine Vr (k := Gro.perm (m := m ++ [(b1, .r false [[iv (a 0), iv (a 1), iv (a 2), iv (a 3), iv (a 4), .bool (b 0), .bool (b 1), .bool (b 2)]] 8)]) (hp.trans pm2))
theorem players566 (hJ : BaseJu P K F T) (hS : BaseSl P K F T) : Meth P K (F 566) := by
  intro s bc bk v n py hc
  refine Tri.canon (hJ.f566.tri ?_)
  unfold a566
  have h0 := hc.has
  obtain ⟨L, hL⟩ := hc.pl
  refine Vr (k := WO.w (WS.cl (all0 (all570 hJ hS) rfl hL fun s' r hs hr hok => TriV.func (pl602 hJ hS hok)) ?_))
  rintro _ s2 ⟨⟨q, rfl⟩, m, hp⟩
  refine Vr (k := Gro.perm hp)
end
end Go.Ev
set_option maxHeartbeats 8000000
namespace Go.Ev
section
variable {P : Program} {K : Orc} {rd : Option Nat} {nt : Nat} {l : Sl} {ds : List ADef} {s : SH} {Q Qn Qr : Po} {Qe : Nat → Po} {F : Nat → FuncId} {T : Nat → TypeId}
theorem WD.li {d : Option Nat} {m q : Operand} {b j lo hi a : Nat} {k : Int} {es : List (AV × AV)} {rest : List DC} {bs : List Nat} {hs : List SH} {os : List OB} {is : List Nat} (he : IntM isI es) (hb : Has b (.m es) s) (h : ∀ n, WD P K rd rest (j + 1) bs [] hs os is (pl d (iv n) l) ds s Q) (hlo : Nat.beq lo hi = true := by exact rfl) (hm : opl l m = some (.map (some b)) := by exact rfl) (hk : opl l q = some (iv k) := by exact rfl) : WD P K rd (⟨⟨d, .look .pi (.int .i64 (.ofNat 0)) false m q, none⟩, .read, lo, hi, a⟩ :: rest) j bs [] hs os is l ds s Q := by
  obtain ⟨o, ho, hd⟩ := lookM he k
  cases o with
  | none => exact WD.ld hlo .nil (.look hm hk hb ho) (h 0)
  | some w =>
    obtain ⟨n, rfl⟩ := hd w rfl
    exact WD.ld hlo .nil (.look hm hk hb ho) (h n)
theorem items606 (hJ : BaseJu P K F T) (t45 : Ty P (T 45) 14) {bc bk bx bs bm : Nat} {v : Nat → AV} {n : Nat → Int} {py : Bool} {t : SH} (hc : Crt t bc bk v n py) (hx : Has bx (.r false [[.ptr (some ⟨bc, 0, 0⟩)]] 1) t) (hs : Has bs (.r false [[.map (some bm)]] 1) t) {L : List (List AV)} (hL : ∀ r ∈ L, OkR t rIt r) :
    AskF P K true (.func (F 606) [] [.ptr (some ⟨bx, 0, 0⟩), .ptr (some ⟨bs, 0, 0⟩)]) (I2 bm t) (fun _ => True) (fun r => r ∈ L) := by
  rintro u x r - hr hu
  obtain ⟨a, tv, rfl, -⟩ := (hL r hr).it
  refine TriV.func (hJ.f606.tri ?_)
  unfold a606
  obtain ⟨Lc, hLc⟩ := hc.cd
  have hlc := hLc.len
  obtain ⟨m0, hm0⟩ : ∃ m, binV .sub (AV.int .i64 (.ofNat Lc.length)) (AV.int .i64 (.ofNat 1)) = some (iv m) := ⟨_, sub_w _ _⟩
  refine Vr (k := fun b3 => ?_)
  have hk := KI.one (p := (b3, .r false [[iv (a 0), iv (a 1), iv (a 2), iv (a 3), iv (a 4), iv (a 5), tv]] 7)) (x := x) hu
  have h1 := hx.mono (hk.sub I2.mem)
  have h2 := hs.mono (hk.sub I2.mem)
  have h3 := hc.has.mono (hk.sub I2.mem)
  refine Vr (k := WO.w (WS.cl (obj573 hJ t45 (hc.up (hk.sub I2.mem))) ?_))
  rintro _ _ ⟨⟨row, b, rfl, hrow⟩, m, rfl⟩
  obtain ⟨a2, bb, ev, rfl, -⟩ := hrow.ob
  have hk := KI.gro (m := m) I2.cons hk
  refine Vr (k := fun b7 => ?_)
  have hk := KI.gro (m := [(b7, .r false [[iv (a2 0), iv (a2 1), iv (a2 2), iv (a2 3), iv (a2 4), .bool (bb 0), .bool (bb 1), .bool (bb 2), iv (a2 5), iv (a2 6), iv (a2 7), iv (a2 8), .bool (bb 3), ev]] 14)]) I2.cons hk
  repeat' (refine Vr (k := ?_); first | exact KI.end I2.cons (by assumption) | refine WD.skipc rfl rfl ?_ | refine WD.skipcu rfl ?_ | refine WO.g2 rfl ?_ ?_ | refine WD.g2 rfl ?_ ?_ | (obtain ⟨es, -, -, hm, he, -, -, -⟩ := KI.map hk 0; refine WD.li he hm ?_; intro n0) | (refine WD.ch .nil (WS.cl (there575 hJ (hc.up (KI.sub (by assumption) I2.mem))) ?_); rintro _ _ ⟨⟨q, rfl⟩, rfl⟩) | (refine WD.ch .nil (WS.cl (in587 hJ) ?_); rintro _ _ ⟨⟨q, rfl⟩, rfl⟩) | (obtain ⟨es, es', s', hm, he, hp, hu, hk⟩ := KI.map hk (a 0); refine WO.w (WS.ins rfl rfl rfl hu hp ?_); have h1 := hx.mono (hk.sub I2.mem); have h2 := hs.mono (hk.sub I2.mem); have h3 := hc.has.mono (hk.sub I2.mem); have h4 := Has.of_mem (hk.memY _ (List.mem_append_left _ (List.mem_singleton.2 rfl)))))
end
end Go.Ev
set_option maxHeartbeats 8000000
namespace Go.Ev
section
variable {P : Program} {K : Orc} {rd : Option Nat} {nt : Nat} {l : Sl} {ds : List ADef} {s : SH} {Q Qn Qr : Po} {Qe : Nat → Po} {F : Nat → FuncId} {T : Nat → TypeId}
theorem repl_eq {α : Type} (n : Nat) (x : α) : repl n x = List.replicate n x := by
  induction n with
  | zero => rfl
  | succ n ih => show x :: repl n x = _; rw [ih]; rfl
theorem WR.cap {x : Operand} {a : Option Pl} {n c : Nat} {rw : Nat} (hx : opl l x = some (.slice a n c false rw)) : WR P (.cap x) l s (.int .i64 (.ofNat c)) := by
  refine WR.mk' (fun _ _ _ _ _ => rfl) (fun e H he => ?_)
  simp only [aval, opl_ok he hx]
theorem WS.appendZ_nil {R : AV → List ADef → SH → Prop} {sz bytes n : Nat} {z : List AV} {ss x : Operand} {rw : Nat} (hs : opl l ss = some (.slice none 0 0 false rw)) (hx : opl l x = some (.int .i64 (.ofNat n))) (h0 : n ≠ 0) (h1 : n ≤ 901000) (h2 : bytes ≤ 1000) (hz : z.length = sz)
    (k : ∀ b, R (.slice (some ⟨b, 0, 0⟩) n n true sz) ds ((b, .r false (List.replicate n z) sz) :: s)) : WS P K (.appendZ sz bytes z ss x) l ds s R := by
  intro H0 e H he hH
  obtain ⟨t, ht⟩ := rowsOf_some (List.replicate n z)
  have hl := List.length_replicate (n := n) (a := z)
  refine ⟨.slice (some ⟨H.next, 0, 0⟩) n n true sz, ds, _, _, ⟨0, ?_⟩, hH.alloc (o := .rows t n sz false) (by have := lay_rows (sz := sz) (rowsOf_get ht) fun row hrow => (List.eq_of_mem_replicate hrow) ▸ hz; rw [hl] at this; exact this), k _⟩
  show (match aval P H (opv e) (.appendZ sz bytes z ss x) with | some (v, H') => some (OR.mk v ds H') | none => none) = _
  have hb : (Nat.ble n 1000000 && Nat.ble (n * bytes) 281474976710656) = true := by
    have : n * bytes ≤ 901000 * 1000 := Nat.mul_le_mul h1 h2
    rw [bl_true.2 (by omega), bl_true.2 (by omega)]; rfl
  simp only [aval, opl_ok he hs, opl_ok he hx, hb, repl_eq]
  unfold appendV
  simp only [force_eq, llen_eq, hl]
  rw [show Nat.add 0 n = n from Nat.zero_add _]
  have : Nat.ble n 0 = false := by rw [bl_false]; omega
  simp only [this, ht]
  unfold grown
  rw [fitsN (by omega) h2]
  rfl
inductive GrT (sz : Nat) : AV → List (List AV) → Nat → SH → Prop
  | nil : GrT sz nilS [] 0 []
  | rows {b n c : Nat} {L T : List (List AV)} (hn : n = L.length) (hc : c = L.length + T.length) (hL : 0 < c) : GrT sz (.slice (some ⟨b, 0, 0⟩) n c true sz) L T.length [(b, .r false (L ++ T) sz)]
theorem GrT.gr {sz k : Nat} {v : AV} {L : List (List AV)} {o : SH} (h : GrT sz v L k o) : Gr sz v L o := by
  cases h with
  | nil => exact .nil
  | rows hn hc hL => exact .rows hn hc hL
theorem WS.append_grt {R : AV → List ADef → SH → Prop} {sz bytes k0 : Nat} {ss x : Operand} {sv xv : AV} {L N : List (List AV)} {m o t : SH} (hs : opl l ss = some sv) (ho : GrT sz sv L (N.length + k0) o) (hx : opl l x = some xv) (hN : Src (m ++ (o ++ t)) sz xv N) (hz : sz ≠ 0)
    (k : ∀ v o', GrT sz v (L ++ N) k0 o' → R v ds (m ++ (o' ++ t))) : WS P K (.append sz bytes ss x) l ds (m ++ (o ++ t)) R := by
  by_cases h0 : N = []
  · subst h0
    rw [List.length_nil, Nat.zero_add] at ho
    have ho' := ho
    rw [← List.append_nil L] at ho'
    cases ho with
    | nil => exact WS.append_none hs hx hN hz (Nat.le_refl _) (k _ _ ho')
    | rows hn hc hL => exact WS.append_none hs hx hN hz (by omega) (k _ _ ho')
  · generalize hk : N.length + k0 = kk at ho
    cases ho with
    | nil => exact absurd (List.eq_nil_of_length_eq_zero (by omega)) h0
    | @rows b n c L T hn hc hL =>
      refine WS.append_room (s' := m ++ ([(b, HO.r false (L ++ (N ++ T.drop N.length)) sz)] ++ t)) hs hn hc (.app .here) hx hN hz h0 (by omega) ?_
      refine k _ _ ?_
      have := GrT.rows (b := b) (sz := sz) (n := n + N.length) (c := c) (L := L ++ N) (T := T.drop N.length) (by simp [hn]) (by simp; omega) hL
      rw [List.length_drop, show T.length - N.length = k0 by omega, List.append_assoc] at this
      exact this
theorem sub_n {a b : Nat} (h : b ≤ a) (ha : a ≤ 9223372036854775807) : binV .sub (iv (.ofNat a)) (iv (.ofNat b)) = some (iv (.ofNat (a - b))) := by
  rw [sub_w, isub_eq, wrap_i64 (by simp; omega) (by simp; omega)]
  simp; omega
end
end Go.Ev
set_option maxHeartbeats 8000000
namespace Go.Ev
section
variable {P : Program} {K : Orc} {rd : Option Nat} {nt : Nat} {l : Sl} {ds : List ADef} {s : SH} {Q Qn Qr : Po} {Qe : Nat → Po} {F : Nat → FuncId} {T : Nat → TypeId}
theorem grow629 (hS : BaseSl P K F T) {n : Nat} (hn : n ≤ 900000) : Tri P K (F 629) [nilS, .int .i64 (.ofNat n)] s (fun w s' => ∃ o, GrT 7 w [] n o ∧ s' = o ++ s) := by
  refine hS.f629.tri ?_
  unfold a629
  have h1 : binV .sub (AV.int .i64 (.ofNat n)) (AV.int .i64 (.ofNat 0)) = some (iv (.ofNat n)) := sub_n (Nat.zero_le _) (by omega)
  refine Vr (k := WO.r (.cap rfl) (Vr (k := ?_)))
  refine WP.cond rfl (fun h => ?_) (fun h => ?_)
  · refine Vr (k := WO.r (.cap rfl) (WO.r (.slc_to rfl rfl (Nat.le_refl _)) (Vr (k := ?_))))
    have h0 : n ≠ 0 := by rintro rfl; simp at h
    refine WO.w (WS.appendZ_nil (sz := 7) (n := n) rfl rfl h0 (by omega) (by decide) rfl fun b => ?_)
    refine Vr (k := WO.r (.slc_to rfl rfl (Nat.zero_le _)) (Vr (k := ?_)))
    have key : ∀ z : List AV, ∃ o, GrT 7 (.slice (some ⟨b, 0, 0⟩) 0 n true 7) [] n o ∧ (b, HO.r false (List.replicate n z) 7) :: s = o ++ s := fun z => ⟨[(b, .r false ([] ++ List.replicate n z) 7)], by
      have := GrT.rows (b := b) (sz := 7) (n := 0) (c := n) (L := []) (T := List.replicate n z) rfl (by simp) (by omega)
      rwa [List.length_replicate] at this, rfl⟩
    exact key _
  · have h0 : n = 0 := by simpa using h
    subst h0
    refine Vr (k := ?_)
    exact ⟨[], .nil, rfl⟩
def catR (W : List (AV × List (List AV))) (i : Nat) : List (List AV) := ((W.take i).map Prod.snd).flatten
theorem catR_succ {W : List (AV × List (List AV))} {i : Nat} (hi : i < W.length) : catR W (i + 1) = catR W i ++ (W[i]).2 := by
  unfold catR
  rw [List.take_succ_eq_append_getElem hi, List.map_append, List.flatten_append]
  simp
theorem catR_le {W : List (AV × List (List AV))} {i : Nat} (hi : i ≤ W.length) : (catR W i).length ≤ (catR W W.length).length := by
  obtain ⟨n, rfl⟩ : ∃ n, n = W.length - i := ⟨_, rfl⟩
  have : ∀ n i, i + n = W.length → (catR W i).length ≤ (catR W W.length).length := by
    intro n
    induction n with
    | zero => intro i h; rw [Nat.add_zero] at h; rw [h]; exact Nat.le_refl _
    | succ n ih =>
      intro i h
      have h1 := ih (i + 1) (by omega)
      rw [catR_succ (by omega), List.length_append] at h1
      omega
  exact this (W.length - i) i (by omega)
theorem concat605 (hS : BaseSl P K F T) {lv : AV} {W : List (AV × List (List AV))} (hl : Src s 1 lv (W.map fun p => [p.1])) (hw : W.length ≤ 1000) (hW : ∀ p ∈ W, SlT s rIt p.1 p.2) (hn : (catR W W.length).length ≤ 900000) : Tri P K (F 605) [lv] s (fun w s' => ∃ o, Src o 7 w (catR W W.length) ∧ s' = o ++ s) := by
  refine hS.f605.tri ?_
  unfold a605
  have hle := hl.lenOf
  rw [List.length_map] at hle
  refine Vr (k := ?_)
  refine WP.loop (fun k l ds s' => ds = [] ∧ ∃ i, k = W.length - i ∧ i ≤ W.length ∧ s' = s ∧ ∀ j w, lk [(0, lv), (3, iv (.ofNat (catR W i).length)), (9, lv), (10, .int .i64 (.ofNat W.length)), (11, .int .i64 (.ofNat i))] j = some w → lk l j = some w) ?_ (n := W.length - 0) ⟨rfl, 0, rfl, Nat.zero_le _, rfl, sbs⟩
  rintro k l ds s' ⟨rfl, i, rfl, hi, hse, hlk⟩
  have hse := hse.symm
  subst hse
  refine WP.weak hlk (fun _ _ h => h) ?_
  refine Vr (k := WP.cond rfl (fun hlt0 => ?_) (fun hlt0 => ?_))
  · have hlt : i < W.length := Int.ofNat_lt.1 (of_decide_eq_true hlt0)
    obtain ⟨b, r, n0, c, sl, ro, M, e, hb, hn0, hM⟩ := hl.at (i := i) (by simpa using hlt)
    have hM : M[r + i]? = some [(W[i]).1] := hM.trans (by rw [List.getElem?_map, List.getElem?_eq_getElem hlt]; rfl)
    have hWi := hW _ (List.getElem_mem hlt)
    have hlen := hWi.len
    have hs := catR_succ hlt
    have hc := catR_le (W := W) (i := i + 1) hlt
    have hadd : binV .add (iv (.ofNat (catR W i).length)) (AV.int .i64 (.ofNat (W[i]).2.length)) = some (iv (.ofNat (catR W (i + 1)).length)) := by
      rw [hs, List.length_append]
      exact add_n (by rw [hs, List.length_append] at hc; omega)
    have hadd2 : binV .add (AV.int .i64 (.ofNat i)) (AV.int .i64 (.ofNat 1)) = some (AV.int .i64 (.ofNat (i + 1))) := add_n (by omega)
    refine Vr (k := WO.r (.ia e hn0) (Vr (k := ?_)))
    exact ⟨W.length - (i + 1), by omega, rfl, i + 1, rfl, hlt, rfl, sbs⟩
  · have hie : i = W.length := by have := of_decide_eq_false hlt0; simp at this; omega
    subst hie
    refine WP.exit (Vr (k := WO.w (WS.cl (grow629 hS hn) ?_)))
    rintro w _ ⟨o, ho, rfl⟩
    refine Vr (k := ?_)
    refine WP.loop (fun k l ds s' => ds = [] ∧ ∃ i w o, k = W.length - i ∧ i ≤ W.length ∧ GrT 7 w (catR W i) ((catR W W.length).length - (catR W i).length) o ∧ s' = o ++ s ∧ ∀ j v, lk [(6, w), (25, lv), (26, .int .i64 (.ofNat W.length)), (27, .int .i64 (.ofNat i))] j = some v → lk l j = some v) ?_ (n := W.length - 0) ⟨rfl, 0, w, o, rfl, Nat.zero_le _, ho, rfl, sbs⟩
    rintro k l ds s' ⟨rfl, i, w, o, rfl, hi, ho, rfl, hlk⟩
    refine WP.weak hlk (fun _ _ h => h) ?_
    refine Vr (k := WP.cond rfl (fun hlt0 => ?_) (fun hlt0 => ?_))
    · have hlt : i < W.length := Int.ofNat_lt.1 (of_decide_eq_true hlt0)
      obtain ⟨b, r, n0, c, sl, ro, M, e, hb, hn0, hM⟩ := hl.at (i := i) (by simpa using hlt)
      have hM : M[r + i]? = some [(W[i]).1] := hM.trans (by rw [List.getElem?_map, List.getElem?_eq_getElem hlt]; rfl)
      have hWi := hW _ (List.getElem_mem hlt)
      have hs := catR_succ hlt
      have hc := catR_le (W := W) (i := i + 1) hlt
      rw [hs, List.length_append] at hc
      rw [show (catR W W.length).length - (catR W i).length = (W[i]).2.length + ((catR W W.length).length - (catR W (i + 1)).length) by rw [hs, List.length_append]; omega] at ho
      have hadd2 : binV .add (AV.int .i64 (.ofNat i)) (AV.int .i64 (.ofNat 1)) = some (AV.int .i64 (.ofNat (i + 1))) := add_n (by omega)
      have hb := hb.mono (s' := o ++ s) fun p hp => List.mem_append_right _ hp
      refine Vr (k := WO.r (.ia e hn0) (Vr (k := WO.w (WS.append_grt (m := []) rfl ho rfl (hWi.1.mono fun p hp => List.mem_append_right _ (List.mem_append_right _ hp)) (by decide) fun w2 o2 ho2 => Vr (k := ?_)))))
      exact ⟨W.length - (i + 1), by omega, rfl, i + 1, w2, o2, rfl, hlt, hs ▸ ho2, rfl, sbs⟩
    · have hie : i = W.length := by have := of_decide_eq_false hlt0; simp at this; omega
      subst hie
      refine WP.exit (Vr (k := ?_))
      exact ⟨o, ho.gr.out.src, rfl⟩
theorem bsrows2 {l : Sl} {sz : Nat} {x y : Operand} {u v : AV} {cs es : List AV} (hx : opl l x = some u) (hc : partCells sz u = some cs) (hy : opl l y = some v) (he : partCells sz v = some es) : bsrows l sz 0 [(0, x), (1, y)] = some [cs, es] := by
  simp [bsrows, hx, hc, hy, he]
theorem items567 (hJ : BaseJu P K F T) (hS : BaseSl P K F T) (t45 : Ty P (T 45) 14) {bc bk : Nat} {v : Nat → AV} {n : Nat → Int} {py : Bool} (hc : Crt s bc bk v n py) (hm0 : Sml v) : Tri P K (F 567) [.ptr (some ⟨bc, 0, 0⟩)] s (Gro s isB) := by
  refine Tri.canon (hJ.f567.tri ?_)
  unfold a567
  have h0 := hc.has
  obtain ⟨L7, hL7⟩ := hc.st
  obtain ⟨L8, hL8⟩ := hc.wa
  have n7 := hm0.1 _ hL7.len
  have n8 := hm0.2 _ hL8.len
  have p7 := part1 hL7.ok.one
  have p8 := part1 hL8.ok.one
  refine Vr (k := fun bx => Vr (k := WO.a .mkmap fun bm => Vr (k := fun bs => Vr (k := WP.drawn1 fun bd => Vr (k := WD.al (.bslice (bsrows2 rfl p7 rfl p8) rfl) rfl (Vr (k := WD.ch (.yes (show bit 2047 10 = true from rfl) rfl .here .nil) ?_)))))))
  have hcat : catR [(v 7, L7), (v 8, L8)] 2 = L7 ++ L8 := by simp [catR]
  refine WS.cl (concat605 hS (W := [(v 7, L7), (v 8, L8)]) (Src.all .here) (show 2 ≤ 1000 by decide) ?_ (by show (catR _ 2).length ≤ _; rw [hcat, List.length_append]; omega)) ?_
  · intro p hp
    simp only [List.mem_cons, List.not_mem_nil, or_false] at hp
    rcases hp with rfl | rfl
    · exact hL7.mono fun p hp => by simp [hp]
    · exact hL8.mono fun p hp => by simp [hp]
  rintro w _ ⟨m, hw, rfl⟩
  replace hw : Src m 7 w (L7 ++ L8) := hcat ▸ hw
  obtain ⟨t, ht⟩ : ∃ t, t = m ++ ((bd, HO.r false [[v 7], [v 8]] 1) :: (bs, .r false [[.map (some bm)]] 1) :: (bx, .r false [[.ptr (some ⟨bc, 0, 0⟩)]] 1) :: s) := ⟨_, rfl⟩
  have hx : Has bx (.r false [[.ptr (some ⟨bc, 0, 0⟩)]] 1) t := by rw [ht]; exact .app (.there (.there .here))
  have hs : Has bs (.r false [[.map (some bm)]] 1) t := by rw [ht]; exact .app (.there .here)
  have hst : ∀ p, p ∈ s → p ∈ t := by rw [ht]; intro p hp; simp [hp]
  have hc' : Crt t bc bk v n py := hc.up hst
  have hL : SlT t rIt w (L7 ++ L8) := by
    refine ⟨hw.mono fun p hp => by rw [ht]; exact List.mem_append_left _ hp, by simp only [big, List.length_append]; omega, fun r hr => ?_⟩
    rcases List.mem_append.1 hr with hr | hr
    · exact (hL7.2.2 r hr).mono hst
    · exact (hL8.2.2 r hr).mono hst
  have hk : KI [] (I2 bm t) (m ++ ((bd, HO.r false [[v 7], [v 8]] 1) :: (bs, .r false [[.map (some bm)]] 1) :: (bm, .m []) :: (bx, .r false [[.ptr (some ⟨bc, 0, 0⟩)]] 1) :: s)) := by
    rw [ht]
    exact ⟨_, ⟨[], [], .refl _, fun p hp => by cases hp⟩, pm2⟩
  refine Vr (k := WD.ch .nil (WS.cl (KI.all (all604 hJ hS) rfl hk I2.cons I2.mem hL (items606 hJ t45 hc' hx hs hL.2.2)) ?_))
  rintro _ s2 ⟨⟨q, rfl⟩, hk⟩
  refine Vr (k := ?_)
  obtain ⟨u2, ⟨m2, es, hp, -⟩, hp2⟩ := hk
  subst ht
  exact Gro.perm (m := m2 ++ (bm, .m es) :: (m ++ [(bd, HO.r false [[v 7], [v 8]] 1), (bs, .r false [[.map (some bm)]] 1), (bx, .r false [[.ptr (some ⟨bc, 0, 0⟩)]] 1)])) ((hp2.trans hp).trans (by simp))
end
end Go.Ev
set_option maxHeartbeats 8000000
namespace Go.Ev
section
variable {P : Program} {K : Orc} {s : SH} {F : Nat → FuncId} {T : Nat → TypeId}
theorem sound505' (hJ : BaseJu P K F T) (hS : BaseSl P K F T) (t45 : Ty P (T 45) 14) {v : Nat → AV} {n : Nat → Int} {py : Bool} (hv : Sta s v) (hm0 : Sml v) : Tri P K (F 505) [v 10, .agg (cfRow n), .agg (stRow v n py)] s (fun w s' => isI w ∧ ∃ m, s'.Perm (m ++ s)) :=
  sound505 hJ hS t45 (players566 hJ hS) (fun _ _ _ _ _ _ hc hm => items567 hJ hS t45 hc hm) hv hm0
end
end Go.Ev
set_option maxHeartbeats 8000000
namespace Go.Ev
structure TyC (P : Program) (T : Nat → TypeId) : Prop where
  t71 : Ty P (T 71) 3
  t99 : Ty P (T 99) 11
  t264 : Ty P (T 264) 2
  t294 : Ty P (T 294) 10
def rowOf (F : Nat → FuncId) (op : Int) : List AV := if op = 1 then [iv 1, .func (F 233) [] []] else if op = 2 then [iv 1, .func (F 234) [] []] else if op = 3 then [iv 2, .func (F 235) [] []] else if op = 4 then [iv 3, .func (F 236) [] []] else [iv 0, .nilFunc]
def layerOf (op : Int) : Int := if op = 1 then 1 else if op = 2 then 1 else if op = 3 then 2 else if op = 4 then 3 else 0
theorem rowOf_fst (F : Nat → FuncId) (op : Int) : ∃ fn, rowOf F op = [iv (layerOf op), fn] := by
  unfold rowOf layerOf
  split
  · exact ⟨_, rfl⟩
  · split
    · exact ⟨_, rfl⟩
    · split
      · exact ⟨_, rfl⟩
      · split <;> exact ⟨_, rfl⟩
def rows5 (F : Nat → FuncId) : List AV := [iv 0, .nilFunc, iv 1, .func (F 233) [] [], iv 1, .func (F 234) [] [], iv 2, .func (F 235) [] [], iv 3, .func (F 236) [] []]
structure ED where
  op : Int
  a : Int
  b : Int
  st : Int
@[reducible] def ED.row (e : ED) : List AV := [iv e.op, iv e.a, iv e.b, iv e.st]
theorem pull1 {p : Nat × HO} {s : SH} : p :: s = [p] ++ s := rfl
theorem same_i (n : Int) : sameV (iv n) (iv n) = true := by
  have : ieq n n = true := ieq_iff.2 rfl
  simp [sameV, sameN, same0, keq, this]
theorem sameN_i (n : Nat) (k : Int) : sameN (n + 1) (iv k) (iv k) = true := by
  have : ieq k k = true := ieq_iff.2 rfl
  simp [sameN, same0, keq, this]
def edR (l : List ED) : List (List AV) := l.map ED.row
section
variable {P : Program} {K : Orc} {rd : Option Nat} {nt : Nat} {l : Sl} {ds : List ADef} {s : SH} {Q Qn Qr : Po} {Qe : Nat → Po} {F : Nat → FuncId} {T : Nat → TypeId}
theorem rows_ok (hC : BaseCh P K F T) (hS : BaseSl P K F T) (hT : TyC P T) : Tri P K (F 205) [] s (fun v s' => v = .agg (rows5 F) ∧ ∃ m, s' = m ++ s) := by
  refine hC.f205.tri ?_
  unfold a205
  refine WP.seq (WP.ops (WO.a (.alloc rfl) fun b0 => WO.nil ?_))
  refine WP.seq (WP.ops (WO.r (.build rfl rfl) (WO.r (.build rfl rfl) (WO.r (.build rfl rfl) (WO.r (.build rfl rfl) (WO.r (.build rfl rfl) (WO.r (.build rfl rfl) (WO.w (WS.store rfl rfl rfl .here rfl rfl (WO.nil (WP.ret (Fin.mk (.cell rfl hT.t294.1 hT.t294.2 (.inl rfl) .here rfl rfl rfl .nil) ?_))))))))))))
  exact ⟨rfl, [_], rfl⟩
theorem ofRow_ok (hC : BaseCh P K F T) (hS : BaseSl P K F T) (hT : TyC P T) {e : ED} : Tri P K (F 169) [.agg e.row] s (fun v s' => v = .agg (rowOf F e.op) ∧ ∃ m, s' = m ++ s) := by
  refine hC.f169.tri ?_
  unfold a169
  refine WP.seq (WP.ops (WO.a (.box rfl rfl) fun b1 => WO.a (.alloc rfl) fun b2 => WO.nil ?_))
  have out : ¬ (0 ≤ e.op ∧ e.op ≤ 4) → rowOf F e.op = [iv 0, .nilFunc] := by
    intro h
    unfold rowOf
    rw [if_neg (by omega), if_neg (by omega), if_neg (by omega), if_neg (by omega)]
  have zero : ∀ {l2 : Sl} (h2 : lk l2 2 = some (.ptr (some ⟨b2, 0, 0⟩))), rowOf F e.op = [iv 0, .nilFunc] → WP P K none 16 (.seq (.ops [⟨(some 11), (.build [(.int .i64 (.ofNat 0)), .nilFunc] []), none⟩, ⟨none, (.store 2 (.tmp 2) (.tmp 11)), none⟩]) .ret) l2 [] ((b2, .r false [[(.int .i64 (.ofNat 0)), .nilFunc]] 2) :: (b1, .r false [e.row] 4) :: s) (fun _ _ _ => False) (fun _ _ _ _ => False) (Fin P [.cell 2 (T 264)] fun v s' => v = .agg (rowOf F e.op) ∧ ∃ m, s' = m ++ s) := by
    intro l2 h2 hr
    refine WP.seq (WP.ops (WO.r (.build rfl rfl) (WO.w (WS.store h2 rfl rfl .here rfl rfl (WO.nil (WP.ret (Fin.mk (.cell h2 hT.t264.1 hT.t264.2 (.inl rfl) .here rfl rfl rfl .nil) ?_)))))))
    exact ⟨by rw [hr]; rfl, [_, _], rfl⟩
  by_cases h0 : e.op < 0
  · refine WP.seq (WP.seq (WP.ops (WO.r (.faddr rfl) (WO.r (.load rfl (.there .here) rfl rfl rfl) (WO.r (.arith rfl rfl (lss_i e.op 0)) ?_)))))
    rw [decide_eq_true h0]
    refine WO.r (.mv rfl) (WO.skip (WO.skip (WO.skip (WO.r (.pick1 rfl rfl) (WO.nil ?_)))))
    exact WP.cond rfl (fun _ => (zero rfl (out (by omega))).post (fun _ _ _ h => h.elim) (fun _ _ _ _ h => h) (fun _ _ _ h => h)) (fun h => by cases h)
  · by_cases h4 : 4 < e.op
    · refine WP.seq (WP.seq (WP.ops (WO.r (.faddr rfl) (WO.r (.load rfl (.there .here) rfl rfl rfl) (WO.r (.arith rfl rfl (lss_i e.op 0)) ?_)))))
      rw [decide_eq_false h0]
      refine WO.r (.mv rfl) (WO.yes (WO.r (.faddr rfl) (WO.yes (WO.r (.load rfl (.there .here) rfl rfl rfl) (WO.yes (WO.r (.arith rfl rfl (gtr_i e.op 4)) ?_))))))
      rw [decide_eq_true h4]
      refine WO.r (.pick0 rfl rfl) (WO.nil ?_)
      exact WP.cond rfl (fun _ => (zero rfl (out (by omega))).post (fun _ _ _ h => h.elim) (fun _ _ _ _ h => h) (fun _ _ _ h => h)) (fun h => by cases h)
    · refine WP.seq (WP.seq (WP.ops (WO.r (.faddr rfl) (WO.r (.load rfl (.there .here) rfl rfl rfl) (WO.r (.arith rfl rfl (lss_i e.op 0)) ?_)))))
      rw [decide_eq_false h0]
      refine WO.r (.mv rfl) (WO.yes (WO.r (.faddr rfl) (WO.yes (WO.r (.load rfl (.there .here) rfl rfl rfl) (WO.yes (WO.r (.arith rfl rfl (gtr_i e.op 4)) ?_))))))
      rw [decide_eq_false h4]
      refine WO.r (.pick0 rfl rfl) (WO.nil ?_)
      refine WP.cond rfl (fun h => by cases h) (fun _ => WP.skip ?_)
      refine WP.seq (WP.drawn0 (WD.ch .nil (WS.callF (first := []) (vs := []) (cap := []) rfl rfl (rows_ok hC hS hT) ?_)))
      rintro w _ ⟨rfl, m, rfl⟩
      have hidx : ∃ j : Nat, e.op = .ofNat j ∧ j < 5 ∧ part true (rows5 F) (Nat.mul j 2) 2 = some (.agg (rowOf F e.op)) := by
        rcases (by omega : e.op = 0 ∨ e.op = 1 ∨ e.op = 2 ∨ e.op = 3 ∨ e.op = 4) with h | h | h | h | h <;> rw [h]
        · exact ⟨0, rfl, by omega, rfl⟩
        · exact ⟨1, rfl, by omega, rfl⟩
        · exact ⟨2, rfl, by omega, rfl⟩
        · exact ⟨3, rfl, by omega, rfl⟩
        · exact ⟨4, rfl, by omega, rfl⟩
      obtain ⟨j, hj, hj5, hp⟩ := hidx
      obtain ⟨fn, hfn⟩ := rowOf_fst F e.op
      refine WD.pu (.faddr rfl) (WD.lk rfl .nil (.load rfl (.app (.there .here)) rfl rfl rfl) ?_)
      refine WD.pu (.idxA rfl (show lk _ 14 = some (.int .i64 (.ofNat j)) from by rw [← hj]; rfl) hj5 hp) ?_
      rw [hfn]
      refine WD.ch .nil (WS.store rfl rfl rfl (.app .here) rfl rfl (WD.nil .nil ?_ ?_))
      · refine WP.ret (Fin.mk (.cell rfl hT.t264.1 hT.t264.2 (.inl rfl) (.app .here) rfl rfl rfl .nil) ?_)
        exact ⟨rfl, _, pull pull2⟩
      · intro o ho
        rw [List.mem_singleton.1 ho]
        refine ⟨(fun i hi => nomatch hi), Nat.zero_le _, same_i _, fun k _ hk => ?_⟩
        rcases (by have : k ≤ 1 := hk; omega : k = 0 ∨ k = 1) with rfl | rfl
        · exact ⟨_, rfl, .load rfl (.there .here) rfl rfl rfl⟩
        · exact ⟨_, rfl, .load rfl (.app (.there .here)) rfl rfl rfl⟩
theorem noLayer_ok (hC : BaseCh P K F T) (hS : BaseSl P K F T) (hT : TyC P T) {e : ED} : Tri P K (F 173) [.agg e.row] s (fun v s' => v = .bool (decide (layerOf e.op = 0)) ∧ ∃ m, s' = m ++ s) := by
  refine hC.f173.tri ?_
  unfold a173
  refine WP.seq (WP.ops (WO.a (.box rfl rfl) fun b1 => WO.r (.mv rfl) (WO.nil ?_)))
  refine WP.seq (WP.ops (WO.r (.load rfl .here rfl rfl rfl) (WO.w (WS.callF (first := []) (vs := [.agg e.row]) (cap := []) rfl rfl (ofRow_ok hC hS hT) ?_))))
  rintro w _ ⟨rfl, m, rfl⟩
  obtain ⟨fn, hfn⟩ := rowOf_fst F e.op
  rw [hfn]
  refine WO.r (.fld rfl rfl) (WO.r (.eql rfl rfl (eqB_i _ _)) (WO.r (.mv rfl) (WO.nil (WP.ret (Fin.mk (.tmp rfl .nil) ?_)))))
  exact ⟨rfl, _, pull pull1⟩
theorem before_ok (hC : BaseCh P K F T) (hS : BaseSl P K F T) (hT : TyC P T) {sv : AV} {x y : ED} : Tri P K (F 175) [sv, .agg x.row, .agg y.row] s (fun v s' => ∃ n : Int, v = iv n ∧ ∃ m, s' = m ++ s) := by
  refine hC.f175.tri ?_
  unfold a175
  refine WP.seq (WP.ops (WO.a (.box rfl rfl) fun b4 => WO.a (.box rfl rfl) fun b5 => WO.r (.mv rfl) (WO.nil ?_)))
  refine WP.seq (WP.seq (WP.drawn0 (WD.ld rfl .nil (.load rfl (.there .here) rfl rfl rfl) (WD.ch .nil (WS.callF (first := []) (vs := [.agg x.row]) (cap := []) rfl rfl (ofRow_ok hC hS hT) ?_)))))
  rintro w1 _ ⟨rfl, m1, rfl⟩
  obtain ⟨f1, h1⟩ := rowOf_fst F x.op
  rw [h1]
  refine WD.pu (.fld rfl rfl) (WD.lk rfl .nil (.load rfl (.app .here) rfl rfl rfl) (WD.ch .nil (WS.callF (first := []) (vs := [.agg y.row]) (cap := []) rfl rfl (ofRow_ok hC hS hT) ?_)))
  rintro w2 _ ⟨rfl, m2, rfl⟩
  obtain ⟨f2, h2⟩ := rowOf_fst F y.op
  rw [h2]
  have hsub : ∃ n : Int, binV .sub (iv (layerOf x.op)) (iv (layerOf y.op)) = some (iv n) := by
    have hl : ∀ q : Int, layerOf q = 0 ∨ layerOf q = 1 ∨ layerOf q = 2 ∨ layerOf q = 3 := by
      intro q
      unfold layerOf
      split
      · omega
      · split
        · omega
        · split
          · omega
          · split <;> omega
    rcases hl x.op with h | h | h | h <;> rcases hl y.op with h' | h' | h' | h' <;> rw [h, h'] <;> exact ⟨_, rfl⟩
  obtain ⟨n, hn⟩ := hsub
  refine WD.pu (.fld rfl rfl) (WD.pu (.arith rfl rfl hn) (WD.pu (.mv rfl) (WD.nil .nil ?_ ?_)))
  rotate_left
  · intro o ho
    rw [List.mem_singleton.1 ho]
    refine ⟨(fun i hi => nomatch hi), Nat.zero_le _, ?_, fun k _ hk => ?_⟩
    · show sameL (sameN 5) [iv y.op, iv y.a, iv y.b, iv y.st] [iv y.op, iv y.a, iv y.b, iv y.st] = true
      simp only [sameL, sameN_i, Bool.and_true]
    rcases (by have : k ≤ 1 := hk; omega : k = 0 ∨ k = 1) with rfl | rfl
    · exact ⟨_, rfl, .load rfl .here rfl rfl rfl⟩
    · exact ⟨_, rfl, .load rfl (.app .here) rfl rfl rfl⟩
  refine WP.seq (WP.ops (WO.r (.mv rfl) (WO.r (.eql rfl rfl (eqB_i _ _)) (WO.nil ?_))))
  refine WP.cond rfl (fun _ => ?_) (fun _ => WP.skip ?_)
  · refine WP.seq (WP.ops (WO.r (.mv rfl) (WO.r (.mv rfl) (WO.nil (WP.ret (Fin.mk (.tmp rfl .nil) ?_))))))
    exact ⟨n, rfl, _, pull (pull pull2)⟩
  refine WP.seq (WP.block (WP.seq (WP.ops (WO.r (.faddr rfl) (WO.r (.load rfl (.app (.app (.there .here))) rfl rfl rfl) (WO.r (.faddr rfl) (WO.r (.load rfl (.app (.app .here)) rfl rfl rfl) (WO.r (.arith rfl rfl (lss_i _ _)) (WO.r (.mv rfl) (WO.nil ?_))))))))))
  refine WP.cond rfl (fun _ => ?_) (fun _ => ?_)
  · refine WP.seq (WP.ops (WO.r (.mv rfl) (WO.nil (WP.ret (Fin.mk (.tmp rfl .nil) ?_)))))
    exact ⟨-1, rfl, _, pull (pull pull2)⟩
  refine WP.seq (WP.ops (WO.r (.faddr rfl) (WO.r (.load rfl (.app (.app (.there .here))) rfl rfl rfl) (WO.r (.faddr rfl) (WO.r (.load rfl (.app (.app .here)) rfl rfl rfl) (WO.r (.arith rfl rfl (gtr_i _ _)) (WO.r (.mv rfl) (WO.nil ?_))))))))
  refine WP.cond rfl (fun _ => ?_) (fun _ => WP.skip ?_)
  · refine WP.seq (WP.ops (WO.r (.mv rfl) (WO.nil (WP.ret (Fin.mk (.tmp rfl .nil) ?_)))))
    exact ⟨1, rfl, _, pull (pull pull2)⟩
  refine WP.seq (WP.ops (WO.r (.mv rfl) (WO.nil (WP.ret (Fin.mk (.tmp rfl .nil) ?_)))))
  exact ⟨0, rfl, _, pull (pull pull2)⟩
end
end Go.Ev
