/- A machine that is proved sound, and walks by it. Conditions: none. -/
import Derived.Test.YtehcpacbinbioaaGreatEvE
set_option linter.all false
namespace Go.Ev
def Ext (p p' : Pend) : Prop := p'.i = p.i ∧ p'.id = p.id ∧ (p.o.isRows = true → p'.o = p.o) ∧ p.ent <+: p'.ent
theorem Ext.refl (p : Pend) : Ext p p := ⟨rfl, rfl, fun _ => rfl, List.prefix_refl _⟩
theorem Ext.trans {p q r : Pend} (h : Ext p q) (h' : Ext q r) : Ext p r :=
  ⟨h'.1.trans h.1, h'.2.1.trans h.2.1, fun hr => by rw [h'.2.2.1 (by rw [h.2.2.1 hr]; exact hr), h.2.2.1 hr], h.2.2.2.trans h'.2.2.2⟩
theorem nodup_map_inj {α β : Type} {f : α → β} : ∀ {l : List α}, (l.map f).Nodup → ∀ {x y : α}, x ∈ l → y ∈ l → f x = f y → x = y := by
  intro l
  induction l with
  | nil => grind
  | cons a l ih =>
    grind
section
variable {P : Program} {ih : EvF} {rd : Option Nat} {nt : Nat} {ops : Array Oper} {e0 : Tr AV} {ds : List ADef} {H : Heap} {I : DInfo} {W : Tr Nat} {S : Nat → DS}
def InBl (P : Program) (nt : Nat) (ops : Array Oper) (S : Nat → DS) (p : Pend) (m : Nat) : Prop :=
  (p ∈ (S ops.size).pend ∧ m = cf (isChain P nt ops) 0 ops.size + 1) ∨ (p, m) ∈ (S ops.size).mats
noncomputable def kks (P : Program) (nt : Nat) (ops : Array Oper) (L : Array Bool) : Nat := cf (fun i => isChain P nt ops i && L.getD i false) 0 ops.size
noncomputable def envL (ops : Array Oper) (W : Tr Nat) (S : Nat → DS) (e0 : Tr AV) (L : Array Bool) (t : Nat) : Option AV :=
  match W.get t with
  | some i => if L.getD i false = true then (S ops.size).e.get t else e0.get t
  | none => e0.get t
def XL (P : Program) (nt : Nat) (ops : Array Oper) (H : Heap) (X : Pt) (L : Array Bool) : Pt :=
  ⟨X.blk, fun b => X.ids b ∨ ∃ i, i < ops.size ∧ isD P nt ops i = true ∧ L.getD i false = false ∧ b = H.next + cf (isD P nt ops) 0 i⟩
def entL (L : Array Bool) (p : Pend) : List (AV × AV) := (p.ent.filter (fun x => L.getD x.1 false)).map (·.2)
def Cont (L : Array Bool) (p : Pend) (o : AObj) : Prop :=
  (p.o.isRows = true ∧ o = p.o) ∨ (p.o = .map (p.ent.map (·.2)) ∧ ∃ es, o = .map es ∧ es.Perm (entL L p))
variable (T : TR P ih nt ops e0 ds H I W S)
include T
theorem TR.mats_step {j : Nat} (hj : j < ops.size) {x : Pend × Nat} (hx : x ∈ (S j).mats) : x ∈ (S (j + 1)).mats := by
  obtain ⟨o, ho⟩ := T.op hj
  obtain ⟨d, _, hs, _⟩ := T.step j o ho
  generalize S (j + 1) = s' at hs ⊢
  cases hs
  case chain hw hc a hanc pend mats H1 hset v H2 hop =>
    obtain ⟨f1, f2, _⟩ := settle_ok hset
    grind
  all_goals exact hx
theorem TR.pend_step {j : Nat} (hj : j < ops.size) {p : Pend} (hp : p ∈ (S j).pend) : (∃ p' ∈ (S (j + 1)).pend, Ext p p') ∨ (p, cf (isChain P nt ops) 0 j + 1) ∈ (S (j + 1)).mats := by
  obtain ⟨o, ho⟩ := T.op hj
  obtain ⟨d, _, hs, _⟩ := T.step j o ho
  generalize S (j + 1) = s' at hs ⊢
  cases hs
  case chain hw hc a hanc pend mats H1 hset v H2 hop =>
    obtain ⟨f1, f2, _⟩ := settle_ok hset
    cases hb : bit a p.i with
    | false => exact .inl ⟨p, (f1 p).2 (.inr ⟨hp, hb⟩), Ext.refl p⟩
    | true =>
      refine .inr ((f2 _).2 (.inr ⟨p, hp, hb, ?_⟩))
      rw [T.llenHs (by omega)]
  case alloc hw hc ob f ha => exact .inl ⟨p, by simp [hp], Ext.refl p⟩
  case ins hw hc a hanc l kk m k v hop b kv vv hm hk hv pend hi =>
    obtain ⟨f1, f2, f3, f4, f5⟩ := insPend_ok hi
    rcases f2 p hp with ⟨h1, h2⟩ | ⟨h1, h2, es, h3, h4, h5, h6⟩
    · exact .inl ⟨p, h2, Ext.refl p⟩
    · exact .inl ⟨_, h6, show Ext p (updP kv vv (S j).j p es) from ⟨rfl, rfl, (fun hr => by rw [h3] at hr; cases hr), by simp [updP, lapp_eq]⟩⟩
  all_goals exact .inl ⟨p, hp, Ext.refl p⟩
theorem TR.mats_le {i j : Nat} (hij : i ≤ j) (hj : j ≤ ops.size) {x : Pend × Nat} (hx : x ∈ (S i).mats) : x ∈ (S j).mats := by
  induction j with
  | zero => grind
  | succ j ihj =>
    by_cases h : i = j + 1
    · grind
    · exact T.mats_step hj (ihj (by omega) (by omega))
theorem TR.persist {j : Nat} (hj : j ≤ ops.size) {p : Pend} (hp : p ∈ (S j).pend) : ∃ p' m, InBl P nt ops S p' m ∧ Ext p p' ∧ cf (isChain P nt ops) 0 j < m := by
  obtain ⟨k, hk⟩ : ∃ k, ops.size = j + k := ⟨ops.size - j, by omega⟩
  induction k generalizing j p with
  | zero =>
    have : j = ops.size := by omega
    subst this
    exact ⟨p, _, .inl ⟨hp, rfl⟩, Ext.refl p, by omega⟩
  | succ k ihk =>
    rcases T.pend_step (show j < ops.size by omega) hp with ⟨p1, hp1, he⟩ | hm
    · obtain ⟨p', m, h1, h2, h3⟩ := ihk (show j + 1 ≤ ops.size by omega) hp1 (by omega)
      have : cf (isChain P nt ops) 0 j ≤ cf (isChain P nt ops) 0 (j + 1) := cf_le (by omega)
      exact ⟨p', m, h1, he.trans h2, by omega⟩
    · exact ⟨p, _, .inr (T.mats_le (by omega) (Nat.le_refl _) hm), Ext.refl p, by omega⟩
theorem TR.bl {p : Pend} {m : Nat} (h : InBl P nt ops S p m) : BI P nt ops H I.anc S ops.size p := by
  have := T.pi (Nat.le_refl _)
  rcases h with ⟨h, _⟩ | h
  · exact this.bp p h
  · exact (this.bm _ h).1
theorem TR.uniq {p p' : Pend} {m m' : Nat} (h : InBl P nt ops S p m) (h' : InBl P nt ops S p' m') (he : p.i = p'.i) : p = p' ∧ m = m' := by
  have hpi := (T.pi (Nat.le_refl _)).nd
  have hl : ((((S ops.size).pend.map fun p => (p, cf (isChain P nt ops) 0 ops.size + 1)) ++ (S ops.size).mats).map (fun x : Pend × Nat => x.1.i)).Nodup := by
    grind
  have mem : ∀ {p m}, InBl P nt ops S p m → (p, m) ∈ ((S ops.size).pend.map fun p => (p, cf (isChain P nt ops) 0 ops.size + 1)) ++ (S ops.size).mats := by
    intro p m h
    rcases h with ⟨h, rfl⟩ | h
    · grind
    grind
  have := nodup_map_inj hl (mem h) (mem h') he
  grind
theorem TR.uniq_id {p p' : Pend} {m m' : Nat} (h : InBl P nt ops S p m) (h' : InBl P nt ops S p' m') (he : p.id = p'.id) : p = p' ∧ m = m' := by
  refine T.uniq h h' ?_
  have h1 := T.bl h
  have h2 := T.bl h'
  rw [h1.id, h2.id] at he
  exact cf_inj h1.d h2.d (by omega)
theorem TR.anc_lt {j a k : Nat} (ha : I.anc.get j = some a) (hk : bit a k = true) : k < j := by
  induction j using Nat.strongRecOn generalizing a k with
  | _ j ih' =>
    obtain ⟨o, ho⟩ := T.op (T.di.anc.lt j a ha)
    obtain ⟨e, he, hb, hc⟩ := T.di.anc.back j a o ha ho k hk
    obtain ⟨h1, h2, b, h3, h4⟩ := T.di.anc.edge j a o ha ho e he hb
    grind
structure LOk (ops : Array Oper) (anc : Tr Nat) (L : Array Bool) : Prop where
  size : L.size = ops.size
  closed : ∀ i, L.getD i false = true → ∀ a, anc.get i = some a → ∀ k, bit a k = true → L.getD k false = true
omit T in
theorem getD_set {L : Array Bool} {i j : Nat} (hj : j < L.size) : (L.setIfInBounds j true).getD i false = if j = i then true else L.getD i false := by
  simp only [Array.getD_eq_getD_getElem?, Array.getElem?_setIfInBounds]
  split
  · rename_i h; subst h; simp
  · rfl
theorem TR.ready {L : Array Bool} (hL : LOk ops I.anc L) {j : Nat} (hj : j ∈ Region.ready .any ops L) :
    ∃ o a, ops[j]? = some o ∧ j < ops.size ∧ L.getD j false = false ∧ I.anc.get j = some a ∧ (∀ k, bit a k = true → L.getD k false = true) ∧ (∀ i b, L.getD i false = true → I.anc.get i = some b → bit b j = false) ∧ LOk ops I.anc (L.setIfInBounds j true) := by
  obtain ⟨hun, o, ho, hall⟩ := mem_ready.1 hj
  have hjs := (Array.getElem?_eq_some_iff.1 ho).1
  obtain ⟨a, ha⟩ := T.di.anc.all j hjs
  have hLj : L.getD j false = false := by
    grind
  have hanc : ∀ k, bit a k = true → L.getD k false = true := by
    intro k hk
    obtain ⟨e, he, hb, hc⟩ := T.di.anc.back j a o ha ho k hk
    have hon := hall e (by simpa using he) hb
    rcases hc with rfl | ⟨b, hb', hk'⟩
    · exact hon
    · exact hL.closed e.on hon b hb' k hk'
  refine ⟨o, a, ho, hjs, hLj, ha, hanc, ?_, by simpa using hL.size, ?_⟩
  · intro i b hi hb
    cases hbj : bit b j with
    | false => rfl
    | true => rw [hL.closed i hi b hb j hbj] at hLj; cases hLj
  · intro i hi b hb k hk
    have hjL : j < L.size := by grind
    rw [getD_set hjL] at hi ⊢
    split at hi
    · grind
    · rw [hL.closed i hi b hb k hk]; simp
theorem TR.all_listed {L : Array Bool} (hL : LOk ops I.anc L) (h : Region.ready .any ops L = []) : ∀ j, j < ops.size → L.getD j false = true := by
  intro j
  induction j using Nat.strongRecOn with
  | _ j ih' =>
    intro hj
    cases hl : L.getD j false with
    | true => rfl
    | false =>
      exfalso
      obtain ⟨o, ho⟩ := T.op hj
      obtain ⟨a, ha⟩ := T.di.anc.all j hj
      have : j ∈ Region.ready .any ops L := by
        refine mem_ready.2 ⟨?_, o, ho, ?_⟩
        · have hjL : j < L.size := by rw [hL.size]; exact hj
          grind
        · intro e he hb
          obtain ⟨h1, _⟩ := T.di.anc.edge j a o ha ho e (by simpa using he) hb
          grind
      grind
theorem TR.kks_chain {L : Array Bool} (hL : LOk ops I.anc L) {j : Nat} (hj : j < ops.size) (hLj : L.getD j false = false) (hc : isChain P nt ops j = true) : kks P nt ops L ≤ cf (isChain P nt ops) 0 j := by
  have : kks P nt ops L ≤ cf (fun i => isChain P nt ops i && decide (i < j)) 0 ops.size := by
    refine cf_mono _ _ ?_
    intro i _ hi hp
    simp only [Bool.and_eq_true, decide_eq_true_eq] at hp ⊢
    refine ⟨hp.1, ?_⟩
    rcases Nat.lt_trichotomy i j with h | h | h
    · exact h
    · grind
    · obtain ⟨a, ha, hall⟩ := T.di.chain i hp.1
      have := hL.closed i hp.2 a ha j (hall j h hc)
      grind
  refine Nat.le_trans this ?_
  obtain ⟨k, hk⟩ : ∃ k, ops.size = j + k := ⟨ops.size - j, by omega⟩
  rw [hk, cf_add]
  have h1 : cf (fun i => isChain P nt ops i && decide (i < j)) (0 + j) k = 0 := by
    have : cf (fun i => isChain P nt ops i && decide (i < j)) (0 + j) k ≤ cf (fun _ => false) (0 + j) k := cf_mono _ _ (fun i h1 _ h => by grind)
    have z : ∀ n i, cf (fun _ => false) i n = 0 := by
      intro n
      induction n with
      | zero => intro i; rfl
      | succ n ih => intro i; simp [cf, ih]
    grind
  rw [h1]
  exact cf_mono _ _ (fun i _ _ h => by grind)
theorem TR.kks_ready {L : Array Bool} (hL : LOk ops I.anc L) {j a : Nat} (hj : j < ops.size) (hLj : L.getD j false = false) (hc : isChain P nt ops j = true) (ha : I.anc.get j = some a) (hanc : ∀ k, bit a k = true → L.getD k false = true) :
    kks P nt ops L = cf (isChain P nt ops) 0 j := by
  refine Nat.le_antisymm (T.kks_chain hL hj hLj hc) ?_
  obtain ⟨k, hk⟩ : ∃ k, ops.size = j + k := ⟨ops.size - j, by omega⟩
  unfold kks
  rw [hk, cf_add]
  have : cf (isChain P nt ops) 0 j ≤ cf (fun i => isChain P nt ops i && L.getD i false) 0 j := by
    refine cf_mono _ _ ?_
    intro i _ hi hci
    obtain ⟨a', ha', hall⟩ := T.di.chain j hc
    grind
  omega
omit T in
theorem kks_set {L : Array Bool} {j : Nat} (hs : L.size = ops.size) (hj : j < ops.size) (hLj : L.getD j false = false) : kks P nt ops (L.setIfInBounds j true) = kks P nt ops L + if isChain P nt ops j then 1 else 0 := by
  unfold kks
  cases hc : isChain P nt ops j with
  | true =>
    simp only [if_true]
    refine cf_insert j (by simp [hLj]) (by rw [getD_set (by omega)]; simp [hc]) ?_ _ _ (Nat.zero_le _) (by omega)
    intro m hm
    rw [getD_set (by omega), if_neg (Ne.symm hm)]
  | false =>
    simp only [Bool.false_eq_true, if_false, Nat.add_zero]
    refine cf_congr _ _ ?_
    intro i _ _
    rw [getD_set (by omega)]
    split
    · rename_i e; subst e; simp [hc]
    · rfl
theorem TR.kks_le {L : Array Bool} : kks P nt ops L ≤ cf (isChain P nt ops) 0 ops.size := by
  have _ := T
  exact cf_mono _ _ (fun i _ _ h => by grind)
theorem TR.kks_all {L : Array Bool} (h : ∀ j, j < ops.size → L.getD j false = true) : kks P nt ops L = cf (isChain P nt ops) 0 ops.size :=
  by
    have _ := T
    exact cf_congr _ _ (fun i _ hi => by grind)
theorem TR.stage_lt {L : Array Bool} (hL : LOk ops I.anc L) {p : Pend} {m j : Nat} (h : InBl P nt ops S p m) (hp : p.i = j ∨ bit p.ins j = true) (hLj : L.getD j false = false) : kks P nt ops L < m := by
  rcases h with ⟨h, rfl⟩ | h
  · have : kks P nt ops L ≤ _ := T.kks_le
    omega
  · obtain ⟨c, a, hc, hcs, rfl, ha, hb, hi⟩ := ((T.pi (Nat.le_refl _)).bm _ h).2
    have hLc : L.getD c false = false := by
      cases hl : L.getD c false with
      | false => rfl
      | true =>
        have : L.getD j false = true := hL.closed c hl a ha j (by
          grind)
        grind
    have := T.kks_chain hL hcs hLc hc
    omega
end
end Go.Ev
namespace Go.Ev
section
variable {P : Program} {ih : EvF} {rd r : Option Nat} {nt : Nat} {ops : Array Oper} {e0 : Tr AV} {ds : List ADef} {H : Heap} {I : DInfo} {W : Tr Nat} {S : Nat → DS}
variable {X : Pt} {w0 : World} {g0 g : G} {K : Heap} {w : World} {a : Act} {L : Array Bool}
def EnvOk (nt : Nat) (ops : Array Oper) (W : Tr Nat) (S : Nat → DS) (e0 : Tr AV) (g : G) (L : Array Bool) (tm : Array Value) : Prop :=
  tm.size = nt ∧ ∀ t v, envL ops W S e0 L t = some v → ∃ x, tm[t]? = some x ∧ VR g v x
structure InvK (P : Program) (nt : Nat) (ops : Array Oper) (e0 : Tr AV) (ds : List ADef) (H : Heap) (W : Tr Nat) (S : Nat → DS) (X : Pt) (w0 : World) (g0 : G) (L : Array Bool) (g : G) (K : Heap) (a : Act) (w : World) : Prop where
  le : G.le g0 g
  env : EnvOk nt ops W S e0 g L a.tmps
  defs : DR g ds a.defers
  heap : HR (XL P nt ops H X L) w0 g K w
  at_ : ∃ Hk, HHs S ops.size (kks P nt ops L) = some Hk ∧ K.next = Hk.next ∧ (∀ b o, Hk.get b = some o → K.get b = some o) ∧ ∀ p m, InBl P nt ops S p m → kks P nt ops L < m → Hk.get p.id = none
  pend : ∀ p m, InBl P nt ops S p m → L.getD p.i false = true → kks P nt ops L < m → ∃ o, K.get p.id = some o ∧ Cont L p o
def Inv (P : Program) (nt : Nat) (ops : Array Oper) (e0 : Tr AV) (ds : List ADef) (H : Heap) (anc W : Tr Nat) (S : Nat → DS) (X : Pt) (w0 : World) (g0 : G) (L : Array Bool) (a : Act) (w : World) : Prop :=
  LOk ops anc L ∧ ∃ g K, InvK P nt ops e0 ds H W S X w0 g0 L g K a w
variable (T : TR P ih nt ops e0 ds H I W S)
noncomputable def rhoL (ops : Array Oper) (W : Tr Nat) (S : Nat → DS) (e0 : Tr AV) (L : Array Bool) (x : Operand) : Option AV :=
  match x with
  | .tmp t => envL ops W S e0 L t
  | x => opv .lf x
theorem rho_ok (h : EnvOk nt ops W S e0 g L a.tmps) : RhoOk g (rhoL ops W S e0 L) a.eval := by
  intro x v hx
  cases x with
  | tmp t =>
    obtain ⟨y, hy, hv⟩ := h.2 t v hx
    simpa [Act.eval, Array.getD_eq_getD_getElem?, hy] using hv
  | const c => exact opv_VR (e := .lf) (fun t v h => by simp [Tr.get] at h) (.const c) v hx
  | global i => exact opv_VR (e := .lf) (fun t v h => by simp [Tr.get] at h) (.global i) v hx
  | func f => exact opv_VR (e := .lf) (fun t v h => by simp [Tr.get] at h) (.func f) v hx
include T
theorem rho_same {j x : Nat} {o : Oper} (ho : ops[j]? = some o) (hLj : L.getD j false = false) (ha : I.anc.get j = some x) (hanc : ∀ k, bit x k = true → L.getD k false = true)
    (hno : ∀ i b, L.getD i false = true → I.anc.get i = some b → bit b j = false) : ∀ y ∈ (cOper P nt o).op.opers, rhoL ops W S e0 L y = opv (S j).e y := by
  intro y hy
  have hj := (Array.getElem?_eq_some_iff.1 ho).1
  cases y with
  | tmp t =>
    have hsl := (T.di.slots ho).1 t hy
    show envL ops W S e0 L t = (S j).e.get t
    unfold envL
    unfold slotOk at hsl
    cases hw : W.get t with
    | none => simp only; rw [T.slot_none (by omega) hw]
    | some i =>
      rw [hw] at hsl
      simp only at hsl ⊢
      split at hsl
      · rename_i he
        have he := Nat.eq_of_beq_eq_true he
        subst he
        rw [hLj]
        simp only [Bool.false_eq_true, if_false]
        rw [T.slot_before (Nat.le_refl _) (by omega) hw]
      · rw [ha] at hsl
        split at hsl
        · rename_i x' b hx' hb
          cases hx'
          simp only [Bool.or_eq_true] at hsl
          rcases hsl with hsl | hsl
          · rw [if_pos (hanc i hsl)]
            exact T.slot_after (T.anc_lt ha hsl) (by omega) hw
          · have hLi : L.getD i false = false := by
              grind
            rw [hLi]
            simp only [Bool.false_eq_true, if_false]
            have := T.anc_lt hb hsl
            have := T.di.anc.lt i b hb
            rw [T.slot_before (j := j) (by omega) (by omega) hw]
        · cases hsl
  | const c => rfl
  | global i => rfl
  | func f => rfl
theorem wanted_L {j x : Nat} {o : Oper} {b : Bool} (ho : ops[j]? = some o) (ha : I.anc.get j = some x) (hanc : ∀ k, bit x k = true → L.getD k false = true) (henv : EnvOk nt ops W S e0 g L a.tmps) (h : wanted (S j).e ops o.guard = some b) :
    Region.wanted o (yielded ops a.tmps) = b := by
  have hj := (Array.getElem?_eq_some_iff.1 ho).1
  have hg := (T.di.slots ho).2
  unfold wanted at h
  unfold Region.wanted
  split at h
  · grind
  · rename_i k want hgd
    obtain ⟨ok, x', d, hok, hx', hd, hbk, hkj⟩ := hg k want hgd
    rw [ha] at hx'; cases hx'
    simp only [hgd]
    rw [lget_eq] at h
    have hok' : ops.toList[k]? = some ok := by grind
    rw [hok'] at h
    simp only [hd] at h
    have hw := (T.di.wr d k).2 ⟨ok, hok, hd⟩
    have hsame : envL ops W S e0 L d = (S j).e.get d := by
      unfold envL
      rw [hw]
      simp only
      rw [if_pos (hanc k hbk)]
      exact T.slot_after hkj (by omega) hw
    split at h
    · rename_i c hc
      obtain ⟨y, hy, hv⟩ := henv.2 d _ (hsame.trans hc)
      cases h
      have : y = .bool c := hv
      subst this
      simp [yielded, hok, hd, hy]
    · rename_i u hu hc
      obtain ⟨y, hy, hv⟩ := henv.2 d _ (hsame.trans hc)
      cases h
      have : yielded ops a.tmps k = none := by
        unfold yielded
        simp only [hok, Option.bind_some, hd, hy]
        split
        · rename_i c hx'
          cases hx'
          exact absurd (VR.bool_of hv) (fun h => hu c h)
        · rfl
      simp [this]
    · cases h
theorem env_step {j : Nat} {o : Oper} {u : AV} {y : Value} {g' : G} (hL : L.size = ops.size) (ho : ops[j]? = some o) (hLj : L.getD j false = false) (he0 : ∀ t v, e0.get t = some v → t < nt) (henv : EnvOk nt ops W S e0 g L a.tmps)
    (hput : (S (j + 1)).e = putO (S j).e (effDst nt o.dst) u) (hg : G.le g g') (hv : VR g' u y) : EnvOk nt ops W S e0 g' (L.setIfInBounds j true) (a.put o.dst y).tmps := by
  have hj := (Array.getElem?_eq_some_iff.1 ho).1
  have hsz : (a.put o.dst y).tmps.size = nt := by cases o.dst <;> simp [Act.put, henv.1]
  refine ⟨hsz, fun t v ht => ?_⟩
  by_cases hw : W.get t = some j
  · obtain ⟨o', ho', hd⟩ := (T.di.wr t j).1 hw
    rw [ho] at ho'; cases ho'
    unfold envL at ht
    rw [hw] at ht
    simp only at ht
    rw [if_pos (by rw [getD_set (by omega)]; simp), T.slot_after (j := j + 1) (by omega) (by omega) hw, hput] at ht
    rw [hd] at ht
    cases hef : effDst nt (some t) with
    | none =>
      rw [hef] at ht
      simp only [putO] at ht
      rw [T.slot_before (Nat.le_refl _) (by omega) hw] at ht
      have := he0 t v ht
      unfold effDst at hef
      simp only at hef
      split at hef
      · cases hef
      · rename_i hb
        have hb' : Nat.blt t nt = true := Nat.ble_eq_true_of_le this
        grind
    | some d =>
      obtain ⟨h1, h2⟩ := effDst_lt hef
      cases h2
      rw [hef] at ht
      simp only [putO, Tr.get_put_same] at ht
      cases ht
      refine ⟨y, ?_, hv⟩
      rw [hd]
      have : t < a.tmps.size := by rw [henv.1]; exact h1
      simp [Act.put, this]
  · have hsame : envL ops W S e0 (L.setIfInBounds j true) t = envL ops W S e0 L t := by
      unfold envL
      cases hwt : W.get t with
      | none => rfl
      | some i =>
        simp only
        have : j ≠ i := fun e => hw (by rw [hwt, e])
        rw [getD_set (by omega), if_neg this]
    rw [hsame] at ht
    obtain ⟨z, hz, hvz⟩ := henv.2 t v ht
    refine ⟨z, ?_, VR.mono hg _ _ hvz⟩
    cases hd : o.dst with
    | none => simpa [Act.put] using hz
    | some d =>
      have : d ≠ t := fun e => hw ((T.di.wr t j).2 ⟨o, ho, by rw [hd, e]⟩)
      simp only [Act.put]
      grind
omit T in
theorem XL_sub {j : Nat} (hL : L.size = ops.size) (hj : j < ops.size) : ∀ b, (XL P nt ops H X (L.setIfInBounds j true)).ids b → (XL P nt ops H X L).ids b := by
  rintro b (h | ⟨i, h1, h2, h3, h4⟩)
  · exact .inl h
  · refine .inr ⟨i, h1, h2, ?_, h4⟩
    rw [getD_set (by omega)] at h3
    split at h3
    · cases h3
    · exact h3
omit T in
theorem cont_same {p : Pend} {j : Nat} {o : AObj} (hL : L.size = ops.size) (hj : j < ops.size) (h : ∀ x ∈ p.ent, x.1 ≠ j) (hc : Cont L p o) : Cont (L.setIfInBounds j true) p o := by
  have he : entL (L.setIfInBounds j true) p = entL L p := by
    unfold entL
    congr 1
    refine List.filter_congr ?_
    intro x hx
    rw [getD_set (by omega), if_neg (Ne.symm (h x hx))]
  rcases hc with h | ⟨h1, es, h2, h3⟩
  · exact .inl h
  · exact .inr ⟨h1, es, h2, by rw [he]; exact h3⟩
theorem inv_keep {j : Nat} {o : Oper} {u : AV} {y : Value} (hL : LOk ops I.anc L) (hL' : LOk ops I.anc (L.setIfInBounds j true)) (ho : ops[j]? = some o) (hLj : L.getD j false = false) (he0 : ∀ t v, e0.get t = some v → t < nt)
    (hi : InvK P nt ops e0 ds H W S X w0 g0 L g K a w) (hput : (S (j + 1)).e = putO (S j).e (effDst nt o.dst) u) (hv : VR g u y)
    (hk : HHs S ops.size (kks P nt ops (L.setIfInBounds j true)) = HHs S ops.size (kks P nt ops L)) (hnot : ∀ p m, InBl P nt ops S p m → p.i ≠ j ∧ ∀ x ∈ p.ent, x.1 ≠ j) :
    Inv P nt ops e0 ds H I.anc W S X w0 g0 (L.setIfInBounds j true) (a.put o.dst y) w := by
  have hj := (Array.getElem?_eq_some_iff.1 ho).1
  refine ⟨hL', g, K, hi.le, env_step T hL.size ho hLj he0 hi.env hput (G.le.refl g) hv, ?_, hi.heap.weaken rfl (XL_sub hL.size hj), ?_, ?_⟩
  · cases o.dst <;> exact hi.defs
  · obtain ⟨Hk, h1, h2, h3, h4⟩ := hi.at_
    refine ⟨Hk, by grind, h2, h3, fun p m hp hm => h4 p m hp ?_⟩
    have hkk := kks_set (P := P) (nt := nt) hL.size hj hLj
    grind
  · intro p m hp hLp hm
    obtain ⟨h1, h2⟩ := hnot p m hp
    rw [getD_set (by rw [hL.size]; omega), if_neg (Ne.symm h1)] at hLp
    have hkk := kks_set (P := P) (nt := nt) hL.size hj hLj
    obtain ⟨ob, h3, h4⟩ := hi.pend p m hp hLp (by grind)
    exact ⟨ob, h3, cont_same hL.size hj h2 h4⟩
end
end Go.Ev
namespace Go.Ev
theorem nfold_each {β : Type} {f : Nat → β → Option β} : ∀ (n i : Nat) (b c : β), nfold f n i b = some c → ∀ k, i ≤ k → k < i + n → ∃ b1 b2, f k b1 = some b2 := by
  intro n
  induction n with
  | zero => grind
  | succ n ih =>
    intro i b c h k h1 h2
    rw [nfold_succ] at h
    obtain ⟨b', hb, hn⟩ := h
    by_cases hk : k = i
    · grind
    · exact ih (i + 1) b' c hn k (by omega) (by omega)
theorem withAnc_ok {a : Nat} : ∀ {pend : List Pend} {H0 H1 : Heap}, withAnc a pend H0 = some H1 → H1.next = H0.next ∧ ∀ b o, H1.get b = some o → H0.get b = some o ∨ ∃ p ∈ pend, bit a p.i = true ∧ p.o.isRows = true ∧ p.id = b ∧ p.o = o := by
  intro pend
  induction pend with
  | nil => intro H0 H1 h; cases h; grind
  | cons p pend ih =>
    intro H0 H1 h
    unfold withAnc at h
    rw [lfold_cons] at h
    obtain ⟨H', h1, h2⟩ := h
    obtain ⟨i1, i2⟩ := ih h2
    split at h1
    · rename_i hc
      cases h1
      refine ⟨i1, fun b o hb => ?_⟩
      rcases i2 b o hb with h | ⟨p', h, h'⟩
      · rw [Heap.get_put] at h
        split at h
        · grind
        grind
      grind
    grind
theorem withMats_ok {a k : Nat} : ∀ {mats : List (Pend × Nat)} {H0 H1 : Heap}, withMats a k mats H0 = some H1 → H1.next = H0.next ∧ ∀ b o, H1.get b = some o → H0.get b = some o ∨ ∃ x ∈ mats, bit a x.1.i = true ∧ x.1.o.isRows = true ∧ k < x.2 ∧ x.1.id = b ∧ x.1.o = o := by
  intro mats
  induction mats with
  | nil => intro H0 H1 h; cases h; grind
  | cons p pend ih =>
    intro H0 H1 h
    unfold withMats at h
    rw [lfold_cons] at h
    obtain ⟨H', h1, h2⟩ := h
    obtain ⟨i1, i2⟩ := ih h2
    split at h1
    · rename_i hc
      cases h1
      refine ⟨i1, fun b o hb => ?_⟩
      rcases i2 b o hb with h | ⟨p', h, h'⟩
      · rw [Heap.get_put] at h
        split at h
        · rename_i e; cases h; simp_all
        grind
      grind
    grind
theorem cf_before (p : Nat → Bool) {j n : Nat} (h : j ≤ n) : cf (fun i => p i && decide (i < j)) 0 n = cf p 0 j := by
  obtain ⟨k, rfl⟩ : ∃ k, n = j + k := ⟨n - j, by omega⟩
  rw [cf_add]
  have h1 : cf (fun i => p i && decide (i < j)) (0 + j) k = 0 := by
    have : cf (fun i => p i && decide (i < j)) (0 + j) k ≤ cf (fun _ => false) (0 + j) k := cf_mono _ _ (fun i h1 _ h => by grind)
    have z : ∀ n i, cf (fun _ => false) i n = 0 := by
      intro n
      induction n with
      | zero => intro i; rfl
      | succ n ih => intro i; simp [cf, ih]
    grind
  rw [h1]
  exact cf_congr _ _ (fun i _ hi => by grind)
section
variable {P : Program} {ih : EvF} {rd r : Option Nat} {nt : Nat} {ops : Array Oper} {e0 : Tr AV} {ds : List ADef} {H : Heap} {I : DInfo} {W : Tr Nat} {S : Nat → DS}
variable {X : Pt} {w0 : World} {g0 g : G} {K : Heap} {w : World} {a : Act} {L : Array Bool}
theorem cOp_of {o : Oper} (h : clsOf (cOper P nt o).op ≠ .chain) : cOp P o.op = some (cOper P nt o).op ∧ ∀ c, o.op ≠ .defer c := by
  rw [cOper_eq] at h ⊢
  simp only at h ⊢
  cases hc : cOp P o.op with
  | none => rw [hc] at h; exact absurd rfl h
  | some op =>
    refine ⟨rfl, fun c ho => ?_⟩
    rw [hc] at h
    simp only [Option.getD_some] at h
    rw [ho] at hc
    simp only [cOp] at hc
    split at hc
    · cases hc; exact h rfl
    · cases hc
variable (T : TR P ih nt ops e0 ds H I W S)
include T
theorem bl_alloc {p : Pend} {m j : Nat} {o : Oper} (h : InBl P nt ops S p m) (ho : ops[j]? = some o) (he : p.i = j) : wanted (S j).e ops o.guard = some true ∧ isD P nt ops j = true := by
  have hb := T.bl h
  obtain ⟨o', ob, f, h1, h2, _⟩ := hb.al
  rw [he] at h1 h2
  rw [ho] at h1; cases h1
  exact ⟨h2, by rw [← he]; exact hb.d⟩
theorem bl_ins {p : Pend} {m j : Nat} {o : Oper} (h : InBl P nt ops S p m) (ho : ops[j]? = some o) {x : Nat × AV × AV} (hx : x ∈ p.ent) (he : x.1 = j) : wanted (S j).e ops o.guard = some true ∧ clsOf (cOper P nt o).op = .dins := by
  obtain ⟨_, ⟨o', l, kk, mm, k, v, h1, h2, h3, h4, _⟩, _⟩ := (T.bl h).at_ x hx
  grind
theorem bl_not {j : Nat} {o : Oper} (ho : ops[j]? = some o) (h1 : isD P nt ops j = false ∨ wanted (S j).e ops o.guard ≠ some true) (h2 : clsOf (cOper P nt o).op ≠ .dins ∨ wanted (S j).e ops o.guard ≠ some true) :
    ∀ p m, InBl P nt ops S p m → p.i ≠ j ∧ ∀ x ∈ p.ent, x.1 ≠ j := by
  intro p m hp
  refine ⟨fun e => ?_, fun x hx e => ?_⟩
  · obtain ⟨h3, h4⟩ := bl_alloc T hp ho e
    rcases h1 with h1 | h1
    · grind
    · exact h1 h3
  · obtain ⟨h3, h4⟩ := bl_ins T hp ho hx e
    rcases h2 with h2 | h2
    · exact h2 h4
    · exact h2 h3
theorem sub_rows {Hk Hx : Heap} {x : Nat} (hk : ∀ b o, Hk.get b = some o → K.get b = some o)
    (hanc : ∀ k, bit x k = true → L.getD k false = true) (hp : ∀ p m, InBl P nt ops S p m → L.getD p.i false = true → kks P nt ops L < m → ∃ o, K.get p.id = some o ∧ Cont L p o)
    (hx : ∀ b o, Hx.get b = some o → Hk.get b = some o ∨ ∃ p m, InBl P nt ops S p m ∧ kks P nt ops L < m ∧ bit x p.i = true ∧ p.o.isRows = true ∧ p.id = b ∧ p.o = o) :
    ∀ b o, Hx.get b = some o → ∃ o', K.get b = some o' ∧ Alike o o' := by
  have _ := T
  intro b o hb
  rcases hx b o hb with h | ⟨p, m, h1, h2, h3, h4, h5, h6⟩
  · exact ⟨o, hk b o h, .inl rfl⟩
  · obtain ⟨o', h7, h8⟩ := hp p m h1 (hanc _ h3) h2
    subst h5 h6
    refine ⟨o', h7, ?_⟩
    rcases h8 with ⟨_, h⟩ | ⟨h, _⟩
    · exact .inl h
    · rw [h] at h4; cases h4
theorem looks_le {j : Nat} (hj : j ≤ ops.size) {l : Look} (h : l ∈ (S j).looks) : l ∈ (S ops.size).looks := by
  obtain ⟨k, hk⟩ : ∃ k, ops.size = j + k := ⟨ops.size - j, by omega⟩
  induction k generalizing j with
  | zero => grind
  | succ k ihk =>
    refine ihk (j := j + 1) (by omega) ?_ (by omega)
    obtain ⟨o, ho⟩ := T.op (show j < ops.size by omega)
    obtain ⟨d, _, hs, _⟩ := T.step j o ho
    generalize S (j + 1) = s' at hs ⊢
    cases hs
    case read hw hc a hanc Hx hx v H1 ha looks hl =>
      grind
    all_goals exact h
theorem step_quiet {Q : Exit → Act → World → Prop} {j x : Nat} {o : Oper} {v : AV} {Hx Hy : Heap} (hL : LOk ops I.anc L) (hL' : LOk ops I.anc (L.setIfInBounds j true)) (ho : ops[j]? = some o) (hLj : L.getD j false = false) (ha : I.anc.get j = some x)
    (hanc : ∀ k, bit x k = true → L.getD k false = true) (hno : ∀ i b, L.getD i false = true → I.anc.get i = some b → bit b j = false) (he0 : ∀ t v, e0.get t = some v → t < nt) (hi : InvK P nt ops e0 ds H W S X w0 g0 L g K a w)
    (hw : wanted (S j).e ops o.guard = some true) (hq : (clsOf (cOper P nt o).op).quiet = true) (hput : (S (j + 1)).e = putO (S j).e (effDst nt o.dst) v)
    (hsub : ∀ b o, Hx.get b = some o → ∃ o', K.get b = some o' ∧ Alike o o') (hn : Hx.next = K.next) (hav : aval P Hx (opv (S j).e) (cOper P nt o).op = some (v, Hy)) :
    o.wpIn (Fn r) 0 P a w (fun a' w' => Inv P nt ops e0 ds H I.anc W S X w0 g0 (L.setIfInBounds j true) a' w') Q := by
  have hne : clsOf (cOper P nt o).op ≠ .chain := by intro h; rw [h] at hq; cases hq
  obtain ⟨hc, hnd⟩ := cOp_of hne
  rw [← aval_congr (rho_same T ho hLj ha hanc hno)] at hav
  obtain ⟨_, y, hrun, hv⟩ := quiet_sound (rho_ok hi.env) (hi.heap.subp hsub hn) hc hq hav
  refine ⟨fun _ _ => trivial, ?_⟩
  rw [semAt_exec hnd, hrun]
  have hch : isChain P nt ops j = false := by
    rw [isChain_eq ho]
    grind
  have hj := (Array.getElem?_eq_some_iff.1 ho).1
  refine inv_keep T hL hL' ho hLj he0 hi hput hv ?_ (bl_not T ho (.inl ?_) (.inl ?_))
  · rw [kks_set hL.size hj hLj, hch]; rfl
  · rw [isD_eq ho]
    cases hcl : clsOf (cOper P nt o).op <;> first | rfl | (rw [hcl] at hq; cases hq)
  · intro h; rw [h] at hq; cases hq
theorem step_read {Q : Exit → Act → World → Prop} {j x : Nat} {o : Oper} {d : DOp} {v : AV} {Hx Hy : Heap} (hL : LOk ops I.anc L) (hL' : LOk ops I.anc (L.setIfInBounds j true)) (ho : ops[j]? = some o) (hLj : L.getD j false = false) (ha : I.anc.get j = some x)
    (hanc : ∀ k, bit x k = true → L.getD k false = true) (hno : ∀ i b, L.getD i false = true → I.anc.get i = some b → bit b j = false) (he0 : ∀ t v, e0.get t = some v → t < nt) (hi : InvK P nt ops e0 ds H W S X w0 g0 L g K a w)
    (hw : wanted (S j).e ops o.guard = some true) (hc : clsOf (cOper P nt o).op = .read) (hput : (S (j + 1)).e = putO (S j).e (effDst nt o.dst) v)
    (hx : withAnc x (S j).pend (S j).H = some Hx) (hav : aval P Hx (opv (S j).e) (cOper P nt o).op = some (v, Hy))
    (hl : d.lo = d.hi ∨ (⟨(S j).e, (cOper P nt o).op, x, d.lo, d.hi, v⟩ : Look) ∈ (S ops.size).looks)
    (hd : d.lo = cf (fun i => isChain P nt ops i && bit x i) 0 ops.size ∧ d.hi = cf (fun i => isChain P nt ops i && !(match I.anc.get i with | some b => bit b j | none => false)) 0 ops.size)
    (hlooks : ∀ l ∈ (S ops.size).looks, looksOk P (S ops.size).Hs.reverse (S ops.size).pend (S ops.size).mats l = true) :
    o.wpIn (Fn r) 0 P a w (fun a' w' => Inv P nt ops e0 ds H I.anc W S X w0 g0 (L.setIfInBounds j true) a' w') Q := by
  have hj := (Array.getElem?_eq_some_iff.1 ho).1
  obtain ⟨Hk, hk1, hk2, hk3, hk4⟩ := hi.at_
  have hlo : d.lo ≤ kks P nt ops L := by
    rw [hd.1]
    refine cf_mono _ _ (fun i _ _ h => ?_)
    grind
  have hhi : kks P nt ops L ≤ d.hi := by
    rw [hd.2]
    refine cf_mono _ _ (fun i _ _ h => ?_)
    grind
  by_cases heq : d.lo = d.hi
  · have h1 : d.lo ≤ cf (isChain P nt ops) 0 j := by
      rw [hd.1, ← cf_before _ (show j ≤ ops.size by omega)]
      refine cf_mono _ _ (fun i _ _ h => ?_)
      simp only [Bool.and_eq_true, decide_eq_true_eq] at h ⊢
      exact ⟨h.1, T.anc_lt ha h.2⟩
    have h2 : cf (isChain P nt ops) 0 j ≤ d.hi := by
      rw [hd.2, ← cf_before _ (show j ≤ ops.size by omega)]
      refine cf_mono _ _ (fun i _ _ h => ?_)
      simp only [Bool.and_eq_true, decide_eq_true_eq] at h ⊢
      refine ⟨h.1, ?_⟩
      split
      · rename_i b hb
        cases hbit : bit b j with
        | false => rfl
        | true => have := T.anc_lt hb hbit; omega
      · rfl
    have hkj : kks P nt ops L = cf (isChain P nt ops) 0 j := by omega
    rw [hkj, T.HH (by omega)] at hk1
    cases hk1
    obtain ⟨hx1, hx2⟩ := withAnc_ok hx
    refine step_quiet T (Hx := Hx) hL hL' ho hLj ha hanc hno he0 hi hw (by rw [hc]; rfl) hput ?_ (by rw [hx1, hk2]) hav
    refine sub_rows T hk3 hanc hi.pend ?_
    intro b ob hb
    rcases hx2 b ob hb with h | ⟨p, h3, h4, h5, h6, h7⟩
    · exact .inl h
    · obtain ⟨p', m, q1, q2, q3⟩ := T.persist (by omega) h3
      obtain ⟨e1, e2, e3, _⟩ := q2
      grind
  · have hl := hl.resolve_left heq
    have hok := hlooks _ hl
    unfold looksOk at hok
    split at hok
    · rename_i u hu
      obtain ⟨_, _, hf⟩ := nfold_each _ _ _ _ hu (kks P nt ops L) hlo (by simp only [Nat.succ_eq_add_one]; have : Nat.sub d.hi d.lo = d.hi - d.lo := rfl; omega)
      split at hf
      · rename_i Hk' hk'
        have : Hk' = Hk := by
          rw [lget_eq] at hk'
          unfold HHs at hk1
          rw [hk1] at hk'
          exact (Option.some.inj hk').symm
        subst this
        split at hf
        · rename_i H2 hH2
          split at hf
          · rename_i H3 hH3
            split at hf
            · rename_i v' H4 hv'
              split at hf
              · rename_i hsame
                have hvv := sameV_eq hsame
                simp only at hvv
                subst hvv
                obtain ⟨m1, m2⟩ := withMats_ok hH2
                obtain ⟨n1, n2⟩ := withAnc_ok hH3
                refine step_quiet T (Hx := H3) hL hL' ho hLj ha hanc hno he0 hi hw (by rw [hc]; rfl) hput ?_ (by rw [n1, m1, hk2]) hv'
                refine sub_rows T hk3 hanc hi.pend ?_
                intro b ob hb
                rcases n2 b ob hb with h | ⟨p, h3, h4, h5, h6, h7⟩
                · rcases m2 b ob h with h | ⟨y, h3, h4, h5, h6, h7, h8⟩
                  · exact .inl h
                  · exact .inr ⟨y.1, y.2, .inr h3, h6, h4, h5, h7, h8⟩
                · have : kks P nt ops L ≤ _ := T.kks_le
                  exact .inr ⟨p, _, .inl ⟨h3, rfl⟩, by omega, h4, h5, h6, h7⟩
              · cases hf
            · cases hf
          · cases hf
        · cases hf
      · cases hf
    · cases hok
end
end Go.Ev
namespace Go.Ev
section
variable {P : Program} {ih : EvF} {rd r : Option Nat} {nt : Nat} {ops : Array Oper} {e0 : Tr AV} {ds : List ADef} {H : Heap} {I : DInfo} {W : Tr Nat} {S : Nat → DS}
variable {X : Pt} {w0 : World} {g0 g : G} {K : Heap} {w : World} {a : Act} {L : Array Bool}
variable (T : TR P ih nt ops e0 ds H I W S)
include T
theorem step_alloc {Q : Exit → Act → World → Prop} {j x : Nat} {o : Oper} {ob : AObj} {f : Nat → AV} (hX : ∀ b, X.ids b → b < H.next) (hL : LOk ops I.anc L) (hL' : LOk ops I.anc (L.setIfInBounds j true)) (ho : ops[j]? = some o) (hLj : L.getD j false = false) (ha : I.anc.get j = some x)
    (hanc : ∀ k, bit x k = true → L.getD k false = true) (hno : ∀ i b, L.getD i false = true → I.anc.get i = some b → bit b j = false) (he0 : ∀ t v, e0.get t = some v → t < nt) (hi : InvK P nt ops e0 ds H W S X w0 g0 L g K a w)
    (hw : wanted (S j).e ops o.guard = some true) (hc : clsOf (cOper P nt o).op = .dalloc ∨ clsOf (cOper P nt o).op = .dmap) (hput : (S (j + 1)).e = putO (S j).e (effDst nt o.dst) (f (S j).nid))
    (hal : allocOf (opv (S j).e) (cOper P nt o).op = some (ob, f)) :
    o.wpIn (Fn r) 0 P a w (fun a' w' => Inv P nt ops e0 ds H I.anc W S X w0 g0 (L.setIfInBounds j true) a' w') Q := by
  have hj := (Array.getElem?_eq_some_iff.1 ho).1
  have hne : clsOf (cOper P nt o).op ≠ .chain := by grind
  obtain ⟨hcop, hnd⟩ := cOp_of hne
  have hdj : isD P nt ops j = true := by rw [isD_eq ho]; grind
  have hnid := T.nid (show j ≤ ops.size by omega)
  have hal' := hal
  rw [← allocOf_congr (rho_same T ho hLj ha hanc hno)] at hal'
  obtain ⟨cob, y, d, hrun, hdb, hdr, hv⟩ := alloc_sound (P := P) (w := w) (rho_ok hi.env) hcop hal'
  have hid : (XL P nt ops H X L).ids (H.next + cf (isD P nt ops) 0 j) := .inr ⟨j, hj, hdj, hLj, rfl⟩
  obtain ⟨hidlt, hidg⟩ := hi.heap.hole _ hid
  have hLs := hL.size
  have hnew := hi.heap.newAt (X' := XL P nt ops H X (L.setIfInBounds j true)) hid rfl (fun b hb => by
    refine ⟨XL_sub hLs hj b hb, ?_⟩
    rcases hb with hb | ⟨i, h1, h2, h3, h4⟩
    · grind
    · intro e
      rw [h4] at e
      have : i = j := cf_inj h2 hdj (by omega)
      subst this
      rw [getD_set (by omega)] at h3
      simp at h3) ob cob d hdb (fun g' hle hg' => (hv g' _ hle hg').2) hdr
  obtain ⟨hle, hheap⟩ := hnew
  have hKid : K.get (H.next + cf (isD P nt ops) 0 j) = none := by
    cases hg : K.get (H.next + cf (isD P nt ops) 0 j) with
    | none => rfl
    | some o' => obtain ⟨d', hd', _⟩ := hi.heap.obj _ _ hg; grind
  refine ⟨fun _ _ => trivial, ?_⟩
  rw [semAt_exec hnd, hrun]
  have hch : isChain P nt ops j = false := by
    rw [isChain_eq ho]
    cases hcl : clsOf (cOper P nt o).op <;> first | rfl | exact absurd hcl hne
  have hkk : kks P nt ops (L.setIfInBounds j true) = kks P nt ops L := by rw [kks_set hLs hj hLj, hch]; rfl
  obtain ⟨Hk, hk1, hk2, hk3, hk4⟩ := hi.at_
  refine ⟨hL', g.put (H.next + cf (isD P nt ops) 0 j) d, K.put (H.next + cf (isD P nt ops) 0 j) ob, hi.le.trans hle, ?_, ?_, hheap, ?_, ?_⟩
  · refine env_step T hLs ho hLj he0 hi.env hput hle ?_
    rw [hnid]
    exact (hv _ _ hle (G.put_same _ _ _)).1
  · have := hi.defs.mono hle
    cases o.dst <;> exact this
  · rw [hkk]
    refine ⟨Hk, hk1, hk2, fun b o' hb => ?_, hk4⟩
    rw [Heap.get_put]
    split
    · rename_i e
      rw [← e] at hb
      have := hk3 _ _ hb
      rw [hKid] at this; cases this
    · exact hk3 b o' hb
  · intro p m hp hLp hm
    rw [hkk] at hm
    have hbi := T.bl hp
    by_cases hpj : p.i = j
    · obtain ⟨o', ob', f', h1, h2, h3, h4⟩ := hbi.al
      rw [hpj] at h1 h2 h3
      rw [ho] at h1; cases h1
      rw [hal] at h3; cases h3
      refine ⟨ob, ?_, ?_⟩
      · rw [hbi.id, hpj, Heap.get_put, if_pos rfl]
      · rcases h4 with ⟨h4, h5, _⟩ | ⟨h4, h5⟩
        · exact .inl ⟨by rw [h5]; exact h4, h5.symm⟩
        · refine .inr ⟨h5, [], h4, ?_⟩
          have : entL (L.setIfInBounds j true) p = [] := by
            unfold entL
            rw [List.filter_eq_nil_iff.2 ?_]; rfl
            intro z hz hlz
            obtain ⟨h6, h7, b, h8, h9⟩ := hbi.at_ z hz
            rw [getD_set (by omega)] at hlz
            split at hlz
            · rename_i e
              have := (bl_ins T hp ho hz e.symm).2
              rcases hc with hc | hc <;> rw [this] at hc <;> cases hc
            · have := hno z.1 b hlz h8
              rw [hpj] at h9
              rw [h9] at this; cases this
          rw [this]
    · rw [getD_set (by omega), if_neg (Ne.symm hpj)] at hLp
      obtain ⟨o', h1, h2⟩ := hi.pend p m hp hLp hm
      refine ⟨o', ?_, cont_same hLs hj (fun z hz e => ?_) h2⟩
      · rw [Heap.get_put, if_neg ?_]
        · exact h1
        · rw [hbi.id]
          intro e
          exact hpj (cf_inj hbi.d hdj (by omega))
      · have := (bl_ins T hp ho hz e).2
        rcases hc with hc | hc <;> rw [this] at hc <;> cases hc
theorem step_ins {Q : Exit → Act → World → Prop} {j x : Nat} {o : Oper} {l : Bool} {kk : EqP} {m k v : Operand} {b : Nat} {kv vv : AV} {pend : List Pend} (hL : LOk ops I.anc L) (hL' : LOk ops I.anc (L.setIfInBounds j true)) (ho : ops[j]? = some o) (hLj : L.getD j false = false) (ha : I.anc.get j = some x)
    (hanc : ∀ k, bit x k = true → L.getD k false = true) (hno : ∀ i b, L.getD i false = true → I.anc.get i = some b → bit b j = false) (he0 : ∀ t v, e0.get t = some v → t < nt) (hi : InvK P nt ops e0 ds H W S X w0 g0 L g K a w)
    (hw : wanted (S j).e ops o.guard = some true) (hc : clsOf (cOper P nt o).op = .dins) (hop : (cOper P nt o).op = .ins l kk m k v) (hm : opv (S j).e m = some (.map (some b))) (hk : opv (S j).e k = some kv) (hv : opv (S j).e v = some vv)
    (hin : insPend kk kv vv b j x (S j).pend = some (true, pend)) (hput : (S (j + 1)).e = putO (S j).e (effDst nt o.dst) .undef) (hpend : (S (j + 1)).pend = pend) :
    o.wpIn (Fn r) 0 P a w (fun a' w' => Inv P nt ops e0 ds H I.anc W S X w0 g0 (L.setIfInBounds j true) a' w') Q := by
  have hj := (Array.getElem?_eq_some_iff.1 ho).1
  have hne : clsOf (cOper P nt o).op ≠ .chain := by rw [hc]; simp
  obtain ⟨hcop, hnd⟩ := cOp_of hne
  have hLs := hL.size
  obtain ⟨f1, f2, f3, f4, f5⟩ := insPend_ok hin
  obtain ⟨p0, hp0, hp0b⟩ := (f1 rfl).resolve_left (by simp)
  obtain ⟨_, hbx, es0, hes0, hlk, hpe, hup⟩ := (f2 p0 hp0).resolve_left (fun h => h.1 hp0b)
  obtain ⟨p', mm, hbl, hext, _⟩ := T.persist (j := j + 1) (by omega) (p := updP kv vv j p0 es0) (by grind)
  obtain ⟨hx1, hx2, _, hx4⟩ := hext
  obtain ⟨l2, hent⟩ := hx4
  have hent : p'.ent = p0.ent ++ (j, kv, vv) :: l2 := by rw [← hent]; simp [updP, lapp_eq]
  have hp'id : p'.id = b := by rw [hx2]; exact hp0b
  have hp'i : p'.i = p0.i := hx1
  have hbi := T.bl hbl
  have hins : bit p'.ins j = true := (hbi.ins j).2 ⟨(kv, vv), by rw [hent]; simp⟩
  have hkm := T.stage_lt hL hbl (.inr hins) hLj
  have hLp : L.getD p'.i false = true := by rw [hp'i]; exact hanc _ hbx
  obtain ⟨ob, hKb, hcont⟩ := hi.pend p' mm hbl hLp hkm
  have hmap : ∃ es, p'.o = .map (p'.ent.map (·.2)) ∧ ob = .map es ∧ es.Perm (entL L p') := by
    rcases hcont with ⟨h1, h2⟩ | ⟨h1, es, h2, h3⟩
    · obtain ⟨o', ob', f', h3, h4, h5, h6⟩ := hbi.al
      rcases h6 with ⟨_, _, h7⟩ | ⟨_, h7⟩
      · rw [hent] at h7; simp at h7
      · rw [h7] at h1; cases h1
    · exact ⟨es, h1, h2, h3⟩
  obtain ⟨es, hpo, rfl, hperm⟩ := hmap
  have hpw := hbi.pw
  rw [hent, List.pairwise_append] at hpw
  obtain ⟨_, hpw2, hpw3⟩ := hpw
  rw [List.pairwise_cons] at hpw2
  have hnew : ∀ e ∈ es, primEq kk kv e.1 = some false := by
    intro e he
    have := hperm.subset he
    obtain ⟨z, hz, rfl⟩ := List.mem_map.1 this
    obtain ⟨hz1, hz2⟩ := List.mem_filter.1 hz
    rw [hent] at hz1
    rcases List.mem_append.1 hz1 with hz1 | hz1
    · obtain ⟨_, kk', h1, h2⟩ := hpw3 z hz1 (j, kv, vv) (by simp)
      exact primEq_any hpe h2
    · rcases List.mem_cons.1 hz1 with rfl | hz1
      · simp only at hz2; rw [hLj] at hz2; cases hz2
      · obtain ⟨_, kk', h1, h2⟩ := hpw2.1 z hz1
        exact primEq_any' hpe h2
  have hρ := rho_same T ho hLj ha hanc hno
  rw [hop] at hρ
  have hav : aval P K (rhoL ops W S e0 L) (cOper P nt o).op = some (.undef, K.put b (.map (es ++ [(kv, vv)]))) := by
    rw [hop]
    simp only [aval]
    rw [hρ m (by simp [AOp.opers]), hρ k (by simp [AOp.opers]), hρ v (by simp [AOp.opers]), hm, hk, hv]
    rw [hp'id] at hKb
    simp only [hKb, putIn, hpe, lookIn_of hnew, lapp_eq]
  obtain ⟨g', w', n, y, hle, hrun, hN, hvy, hheap⟩ := eff_sound (rho_ok hi.env) hi.heap hcop hav
  have hch : isChain P nt ops j = false := by rw [isChain_eq ho, hc]
  have hkk : kks P nt ops (L.setIfInBounds j true) = kks P nt ops L := by rw [kks_set hLs hj hLj, hch]; rfl
  obtain ⟨Hk, hk1, hk2, hk3, hk4⟩ := hi.at_
  have fin : Inv P nt ops e0 ds H I.anc W S X w0 g0 (L.setIfInBounds j true) (a.put o.dst y) w' := by
    refine ⟨hL', g', K.put b (.map (es ++ [(kv, vv)])), hi.le.trans hle, env_step T hLs ho hLj he0 hi.env hput hle hvy, ?_, hheap.weaken rfl (XL_sub hLs hj), ?_, ?_⟩
    · have := hi.defs.mono hle
      cases o.dst <;> exact this
    · rw [hkk]
      refine ⟨Hk, hk1, hk2, fun b' o' hb' => ?_, hk4⟩
      rw [Heap.get_put]
      split
      · rename_i e
        rw [← e, ← hp'id, hk4 p' mm hbl hkm] at hb'; cases hb'
      · exact hk3 b' o' hb'
    · intro p m' hp hLp' hm'
      rw [hkk] at hm'
      have hpi : p.i ≠ j := fun e => by
        have := (bl_alloc T hp ho e).2
        rw [isD_eq ho, hc] at this; cases this
      rw [getD_set (by omega), if_neg (Ne.symm hpi)] at hLp'
      by_cases hpb : p.id = b
      · obtain ⟨rfl, rfl⟩ := T.uniq_id hp hbl (by rw [hpb, hp'id])
        refine ⟨_, by rw [hpb, Heap.get_put, if_pos rfl], .inr ⟨hpo, _, rfl, ?_⟩⟩
        have hsame : ∀ (ll : List (Nat × AV × AV)), (∀ z ∈ ll, z.1 ≠ j) → ll.filter (fun z => (L.setIfInBounds j true).getD z.1 false) = ll.filter (fun z => L.getD z.1 false) := by
          intro ll h
          refine List.filter_congr ?_
          intro z hz
          rw [getD_set (by omega), if_neg (Ne.symm (h z hz))]
        have e1 : entL (L.setIfInBounds j true) p = (p0.ent.filter (fun z => L.getD z.1 false)).map (·.2) ++ (kv, vv) :: (l2.filter (fun z => L.getD z.1 false)).map (·.2) := by
          unfold entL
          rw [hent, List.filter_append, List.filter_cons, hsame p0.ent (fun z hz e => by have := (hpw3 z hz (j, kv, vv) (by simp)).1; simp at this; omega), hsame l2 (fun z hz e => by have := (hpw2.1 z hz).1; simp at this; omega)]
          rw [if_pos (by rw [getD_set (by omega)]; simp)]
          simp
        have e2 : entL L p = (p0.ent.filter (fun z => L.getD z.1 false)).map (·.2) ++ (l2.filter (fun z => L.getD z.1 false)).map (·.2) := by
          unfold entL
          rw [hent, List.filter_append, List.filter_cons, if_neg (by simp [hLj])]
          simp
        rw [e1]
        rw [e2] at hperm
        refine (hperm.append_right [(kv, vv)]).trans ?_
        refine List.perm_append_comm.trans ?_
        simp only [List.cons_append, List.nil_append]
        exact List.perm_middle.symm
      · obtain ⟨o', h1, h2⟩ := hi.pend p m' hp hLp' hm'
        refine ⟨o', by rw [Heap.get_put, if_neg (Ne.symm hpb)]; exact h1, cont_same hLs hj (fun z hz e => ?_) h2⟩
        obtain ⟨_, ⟨o'', l', kk', m'', k', v', g1, g2, g3, g4, g5, g6, g7⟩, _⟩ := (T.bl hp).at_ z hz
        rw [e] at g1 g5
        rw [ho] at g1; cases g1
        rw [hop] at g3; cases g3
        rw [hm] at g5; cases g5
        exact hpb rfl
  refine ⟨fun _ _ => trivial, ?_⟩
  rw [semAt_exec hnd, hrun]
  cases n with
  | value z => cases hN; exact fin
  | skip => cases hN; exact fin
  | _ => cases hN
theorem step_chain (hS : SoundF P ih) {Q : Exit → Act → World → Prop} {j x : Nat} {o : Oper} {pend : List Pend} {mats : List (Pend × Nat)} {H1 H2 : Heap} {v : AV} (hL : LOk ops I.anc L) (hL' : LOk ops I.anc (L.setIfInBounds j true)) (ho : ops[j]? = some o) (hLj : L.getD j false = false) (ha : I.anc.get j = some x)
    (hanc : ∀ k, bit x k = true → L.getD k false = true) (hno : ∀ i b, L.getD i false = true → I.anc.get i = some b → bit b j = false) (he0 : ∀ t v, e0.get t = some v → t < nt) (hi : InvK P nt ops e0 ds H W S X w0 g0 L g K a w)
    (hw : wanted (S j).e ops o.guard = some true) (hc : clsOf (cOper P nt o).op = .chain) (hset : settle x (llen (S j).Hs) (S j).pend (S j).mats (S j).H = some (pend, mats, H1))
    (hop : oper P ih (opv (S j).e) (cOper P nt o).op (S j).ds H1 = some (.mk v (S j).ds H2)) (hput : (S (j + 1)).e = putO (S j).e (effDst nt o.dst) v) (hmats : (S (j + 1)).mats = mats) (hH : (S (j + 1)).H = H2) :
    o.wpIn (Fn r) 0 P a w (fun a' w' => Inv P nt ops e0 ds H I.anc W S X w0 g0 (L.setIfInBounds j true) a' w') Q := by
  have hj := (Array.getElem?_eq_some_iff.1 ho).1
  have hLs := hL.size
  have hch : isChain P nt ops j = true := by rw [isChain_eq ho, hc]
  have hkL := T.kks_ready hL hj hLj hch ha hanc
  have hkk : kks P nt ops (L.setIfInBounds j true) = kks P nt ops L + 1 := by rw [kks_set hLs hj hLj, hch]; rfl
  obtain ⟨Hk, hk1, hk2, hk3, hk4⟩ := hi.at_
  rw [hkL, T.HH (by omega)] at hk1
  cases hk1
  obtain ⟨f1, f2, f3, f4, f5, f6⟩ := settle_ok hset
  rw [T.llenHs (by omega)] at f2
  have hcop : cOp P o.op = some (cOper P nt o).op := by
    have hbad : (cOper P nt o).op ≠ .bad := by intro h; rw [h] at hop; simp [oper, aval, allocOf] at hop
    rw [cOper_eq] at hbad ⊢
    simp only at hbad ⊢
    cases hc : cOp P o.op with
    | none => rw [hc] at hbad; exact absurd rfl hbad
    | some op => rfl
  -- blocks that stay aside
  let BL : List (Pend × Nat) := ((S ops.size).pend.map fun p => (p, cf (isChain P nt ops) 0 ops.size + 1)) ++ (S ops.size).mats
  have hBL : ∀ p m, (p, m) ∈ BL ↔ InBl P nt ops S p m := by
    intro p m
    simp only [BL, List.mem_append, List.mem_map, InBl]
    constructor
    · rintro (⟨p', h1, h2⟩ | h)
      · cases h2; exact .inl ⟨h1, rfl⟩
      grind
    · rintro (⟨h1, h2⟩ | h)
      · exact .inl ⟨p, h1, by rw [h2]⟩
      · exact .inr h
  let l : List (Nat × AObj) := (BL.filter (fun z => L.getD z.1.i false && decide (kks P nt ops L + 1 < z.2))).map (fun z => (z.1.id, (K.get z.1.id).getD .deferred))
  have hlmem : ∀ z ∈ l, ∃ p m, InBl P nt ops S p m ∧ L.getD p.i false = true ∧ kks P nt ops L + 1 < m ∧ z.1 = p.id ∧ K.get p.id = some z.2 := by
    intro z hz
    obtain ⟨⟨p, m⟩, h1, rfl⟩ := List.mem_map.1 hz
    obtain ⟨h2, h3⟩ := List.mem_filter.1 h1
    simp only [Bool.and_eq_true, decide_eq_true_eq] at h3
    have hbl := (hBL p m).1 h2
    obtain ⟨ob, h4, _⟩ := hi.pend p m hbl h3.1 (by omega)
    exact ⟨p, m, hbl, h3.1, h3.2, rfl, by simp [h4]⟩
  have hlin : ∀ p m, InBl P nt ops S p m → L.getD p.i false = true → kks P nt ops L + 1 < m → ∀ ob, K.get p.id = some ob → (p.id, ob) ∈ l := by
    intro p m hp h1 h2 ob h3
    refine List.mem_map.2 ⟨(p, m), List.mem_filter.2 ⟨(hBL p m).2 hp, by simp [h1, h2]⟩, by simp [h3]⟩
  have hl : ∀ z ∈ l, K.get z.1 = some z.2 := fun z hz => by
    obtain ⟨p, m, _, _, _, h1, h2⟩ := hlmem z hz
    rw [h1]; exact h2
  have hu : ∀ b o o', (b, o) ∈ l → (b, o') ∈ l → o = o' := by
    intro b o o' h1 h2
    have e1 := hl _ h1
    have e2 := hl _ h2
    simp only at e1 e2
    rw [e1] at e2
    exact Option.some.inj e2
  have hsub : ∀ b ob, H1.get b = some ob → ∃ o', K.get b = some o' ∧ Alike ob o' := by
    intro b ob hb
    rcases f5 b ob hb with h | ⟨p, h1, h2, h3, h4⟩
    · exact ⟨ob, hk3 b ob h, .inl rfl⟩
    · have hbl : InBl P nt ops S p (cf (isChain P nt ops) 0 j + 1) := .inr (T.mats_le (i := j + 1) (by omega) (Nat.le_refl _) (by rw [hmats]; exact (f2 _).2 (.inr ⟨p, h1, h2, rfl⟩)))
      obtain ⟨o', h5, h6⟩ := hi.pend p _ hbl (hanc _ h2) (by omega)
      subst h3 h4
      refine ⟨o', h5, ?_⟩
      rcases h6 with ⟨_, h⟩ | ⟨h7, es, h8, h9⟩
      · exact .inl h
      · refine .inr ⟨_, es, h7, h8, ?_⟩
        have hall : entL L p = p.ent.map (·.2) := by
          unfold entL
          rw [List.filter_eq_self.2 ?_]
          intro z hz
          exact hanc _ (f3 p h1 h2 z.1 (((T.bl hbl).ins z.1).2 ⟨z.2, hz⟩))
        rw [hall] at h9
        exact h9.symm
  have hdis : ∀ z ∈ l, H1.get z.1 = none := by
    intro z hz
    obtain ⟨p, m, h1, h2, h3, h4, h5⟩ := hlmem z hz
    cases hg : H1.get z.1 with
    | none => rfl
    | some ob =>
      exfalso
      rcases f5 _ _ hg with h | ⟨p2, h6, h7, h8, h9⟩
      · rw [h4, hk4 p m h1 (by omega)] at h; cases h
      · have hbl : InBl P nt ops S p2 (cf (isChain P nt ops) 0 j + 1) := .inr (T.mats_le (i := j + 1) (by omega) (Nat.le_refl _) (by rw [hmats]; exact (f2 _).2 (.inr ⟨p2, h6, h7, rfl⟩)))
        obtain ⟨_, h10⟩ := T.uniq_id hbl h1 (by rw [h8, h4])
        omega
  have hpart := hi.heap.part hsub (by rw [f4, hk2]) hl hdis
  rw [← oper_congr (rho_same T ho hLj ha hanc hno)] at hop
  refine oper_sound hS (rho_ok hi.env) (by rw [T.dsEq (by omega)]; exact hi.defs) hpart hcop hop ?_
  intro y g' w' hle hvy hds' hh
  obtain ⟨hb1, hb2, hb3⟩ := hi.heap.beside hl hu hle hh
  refine ⟨hL', g', aside H2 l, hi.le.trans hle, env_step T hLs ho hLj he0 hi.env hput hle hvy, ?_, hb1.weaken rfl (XL_sub hLs hj), ?_, ?_⟩
  · rw [T.dsEq (by omega)] at hds'
    cases o.dst <;> exact hds'
  · rw [hkk, hkL]
    refine ⟨H2, ?_, aside_next _ _, hb2, ?_⟩
    · have := T.HH (j := j + 1) (by omega)
      rw [cf_succ, hch, hH] at this
      simpa using this
    · intro p m hp hm
      cases hg : H2.get p.id with
      | none => rfl
      | some ob =>
        exfalso
        obtain ⟨d, hd, _⟩ := hh.obj _ _ hg
        cases hLp : L.getD p.i false with
        | true =>
          obtain ⟨o', h1, _⟩ := hi.pend p m hp hLp (by omega)
          have hz := hlin p m hp hLp (by omega) o' h1
          obtain ⟨d', hd', _⟩ := hi.heap.obj _ _ h1
          have := hle _ _ hd'
          rw [hd] at this; cases this
          exact hh.prot _ _ d hg rfl hd (.inr ⟨_, hz, d, hd', rfl, .inr (.inr rfl)⟩)
        | false =>
          have hbi := T.bl hp
          have := (hh.hole p.id (.inr ⟨p.i, by have := hbi.lt; omega, hbi.d, hLp, hbi.id⟩)).2
          rw [hd] at this; cases this
  · intro p m hp hLp hm
    rw [hkk] at hm
    have hpi : p.i ≠ j := fun e => by
      have := (bl_alloc T hp ho e).2
      rw [isD_eq ho, hc] at this; cases this
    rw [getD_set (by omega), if_neg (Ne.symm hpi)] at hLp
    obtain ⟨ob, h1, h2⟩ := hi.pend p m hp hLp (by omega)
    refine ⟨ob, hb3 _ (hlin p m hp hLp hm ob h1), cont_same hLs hj (fun z hz e => ?_) h2⟩
    have := (bl_ins T hp ho hz e).2
    rw [hc] at this; cases this
theorem step_any (hS : SoundF P ih) {j : Nat} (hX : ∀ b, X.ids b → b < H.next) (he0 : ∀ t v, e0.get t = some v → t < nt) (hlooks : ∀ l ∈ (S ops.size).looks, looksOk P (S ops.size).Hs.reverse (S ops.size).pend (S ops.size).mats l = true)
    (hI : Inv P nt ops e0 ds H I.anc W S X w0 g0 L a w) (hr : j ∈ Region.ready .any ops L) {Q : Exit → Act → World → Prop} :
    wpOpIn (Fn r) 0 P ops Q j (fun a' w' => Inv P nt ops e0 ds H I.anc W S X w0 g0 (L.setIfInBounds j true) a' w') a w := by
  obtain ⟨hL, g, K, hi⟩ := hI
  obtain ⟨o, x, ho, hj, hLj, ha, hanc, hno, hL'⟩ := T.ready hL hr
  unfold wpOpIn
  rw [ho]
  obtain ⟨d, hdo, hs, hd, hdc⟩ := T.step j o ho
  have hjj := T.j (show j ≤ ops.size by omega)
  have hLs := hL.size
  have yes : wanted (S j).e ops o.guard = some true → ∀ {K' : Act → World → Prop}, o.wpIn (Fn r) 0 P a w K' Q → (if Region.wanted o (yielded ops a.tmps) = true then o.wpIn (Fn r) 0 P a w K' Q else (∀ f, o.about P w a.eval = some f → (Fn r).fn f) ∧ K' (a.put o.dst undef) w) := by
    intro hw K' h
    rw [if_pos (wanted_L T ho ha hanc hi.env hw)]
    exact h
  have no : wanted (S j).e ops o.guard = some false → ∀ {K' : Act → World → Prop}, K' (a.put o.dst undef) w → (if Region.wanted o (yielded ops a.tmps) = true then o.wpIn (Fn r) 0 P a w K' Q else (∀ f, o.about P w a.eval = some f → (Fn r).fn f) ∧ K' (a.put o.dst undef) w) := by
    intro hw K' h
    rw [if_neg (by rw [wanted_L T ho ha hanc hi.env hw]; simp)]
    exact ⟨fun _ _ => trivial, h⟩
  generalize hSj : S (j + 1) = s' at hs
  cases hs
  case skip hw hc k hk =>
    refine no hw (inv_keep T hL hL' ho hLj he0 hi (u := .undef) (by rw [hSj]) (undef_VR g) ?_ (bl_not T ho (.inr (by rw [hw]; simp)) (.inr (by rw [hw]; simp))))
    rw [kks_set hLs hj hLj]
    have : isChain P nt ops j = false := by
      rw [isChain_eq ho]
      grind
    rw [this]; rfl
  case skipc hw hc =>
    refine no hw (inv_keep T hL hL' ho hLj he0 hi (u := .undef) (by rw [hSj]) (undef_VR g) ?_ (bl_not T ho (.inr (by rw [hw]; simp)) (.inr (by rw [hw]; simp))))
    have hch : isChain P nt ops j = true := by rw [isChain_eq ho, hc]
    have hkL := T.kks_ready hL hj hLj hch ha hanc
    have h1 := T.HH (j := j) (by omega)
    have h2 := T.HH (j := j + 1) (by omega)
    rw [cf_succ, hch, hSj] at h2
    rw [kks_set hLs hj hLj, hch, hkL, h1]
    simpa using h2
  case pure hw hc v H1 hav =>
    refine yes hw (step_quiet T (Hx := K) (Hy := K) hL hL' ho hLj ha hanc hno he0 hi hw (by rw [hc]; rfl) (by rw [hSj]) (fun b ob hb => ⟨ob, hb, .inl rfl⟩) rfl ?_)
    exact (pure_heap hc hav).2
  case read hw hc x' hx' Hx hx v H1 hav looks hl =>
    rw [hjj, ha] at hx'; cases hx'
    obtain ⟨x'', hx'', hd1, hd2⟩ := hd (by rw [hdc, hc])
    rw [ha] at hx''; cases hx''
    refine yes hw (step_read T hL hL' ho hLj ha hanc hno he0 hi hw hc (by rw [hSj]) hx hav ?_ ⟨hd1, hd2⟩ hlooks)
    rcases hl with ⟨h, _⟩ | h
    · exact .inl h
    · refine .inr (looks_le T (j := j + 1) (by omega) ?_)
      grind
  case chain hw hc x' hx' pend mats H1 hset v H2 hop =>
    rw [hjj, ha] at hx'; cases hx'
    exact yes hw (step_chain T hS hL hL' ho hLj ha hanc hno he0 hi hw hc hset hop (by rw [hSj]) (by rw [hSj]) (by rw [hSj]))
  case alloc hw hc ob f hal =>
    exact yes hw (step_alloc T hX hL hL' ho hLj ha hanc hno he0 hi hw hc (by rw [hSj]) hal)
  case ins hw hc x' hx' l kk m k v hop b kv vv hm hk hv pend hin =>
    rw [hjj] at hin hx'
    rw [ha] at hx'; cases hx'
    exact yes hw (step_ins T hL hL' ho hLj ha hanc hno he0 hi hw hc hop hm hk hv hin (by rw [hSj]) (by rw [hSj]))
theorem any_order (hS : SoundF P ih) (hX : ∀ b, X.ids b → b < H.next) (he0 : ∀ t v, e0.get t = some v → t < nt) (hlooks : ∀ l ∈ (S ops.size).looks, looksOk P (S ops.size).Hs.reverse (S ops.size).pend (S ops.size).mats l = true)
    {Q : Exit → Act → World → Prop} (hQ : ∀ L a w, Inv P nt ops e0 ds H I.anc W S X w0 g0 L a w → (∀ j, j < ops.size → L.getD j false = true) → Q .normal a w) :
    ∀ (fuel : Nat) (L : Array Bool) (a : Act) (w : World), cf (fun i => !L.getD i false) 0 ops.size ≤ fuel → Inv P nt ops e0 ds H I.anc W S X w0 g0 L a w → wpAnyIn (Fn r) 0 P .any ops Q fuel L a w := by
  intro fuel
  induction fuel with
  | zero =>
    intro L a w hf hI
    have hall : ∀ j, j < ops.size → L.getD j false = true := by
      intro j hj
      cases h : L.getD j false with
      | true => rfl
      | false =>
        have h1 := cf_lt (p := fun i => !L.getD i false) hj (by simp [h])
        omega
    refine ⟨?_, hQ L a w hI hall⟩
    cases hr : Region.ready .any ops L with
    | nil => rfl
    | cons j js =>
      obtain ⟨o, x, ho, hj, hLj, _⟩ := T.ready hI.1 (show j ∈ Region.ready .any ops L by rw [hr]; simp)
      grind
  | succ fuel ihf =>
    intro L a w hf hI
    refine ⟨fun hr => hQ L a w hI (T.all_listed hI.1 hr), fun j hj => ?_⟩
    obtain ⟨o, x, ho, hjs, hLj, _⟩ := T.ready hI.1 hj
    refine wpOpIn_mono (fun a' w' hI' => ihf _ a' w' ?_ hI') (step_any T hS hX he0 hlooks hI hj)
    have hLs := hI.1.size
    have : cf (fun i => !L.getD i false) 0 ops.size = cf (fun i => !(L.setIfInBounds j true).getD i false) 0 ops.size + 1 := by
      refine cf_insert j (by rw [getD_set (by omega)]; simp) (by simp [hLj]) ?_ _ _ (Nat.zero_le _) (by omega)
      intro m hm
      rw [getD_set (by omega), if_neg (Ne.symm hm)]
    omega
theorem inv_start (hst : St X w0 g0 nt e0 ds H a w) (hX : ∀ b, X.ids b → b < H.next) : Inv P nt ops e0 ds H I.anc W S X w0 g0 (Array.replicate ops.size false) a { w with drawn := w.drawn + 1 } := by
  have hf : ∀ i, (Array.replicate ops.size false).getD i false = false := by
    intro i
    simp only [Array.getD_eq_getD_getElem?, Array.getElem?_replicate]
    split <;> rfl
  have hkk : kks P nt ops (Array.replicate ops.size false) = 0 := by
    have : kks P nt ops (Array.replicate ops.size false) ≤ cf (isChain P nt ops) 0 0 := by
      rw [← cf_before (isChain P nt ops) (Nat.zero_le ops.size)]
      exact cf_mono _ _ (fun i _ _ h => by grind)
    simpa [cf] using this
  have h0 := T.HH (j := 0) (Nat.zero_le _)
  refine ⟨⟨by simp, fun i hi => by grind⟩, g0, (S 0).H, G.le.refl g0, ⟨hst.size, ?_⟩, hst.defs, ?_, ?_, ?_⟩
  · intro t v ht
    unfold envL at ht
    split at ht
    · rw [hf] at ht; exact hst.env t v ht
    · exact hst.env t v ht
  · have hh := hst.heap
    rw [T.s0]
    refine HR.congr (w := w) (H := ⟨H.t, Nat.add H.next I.nd⟩) (X := XL P nt ops H X (Array.replicate ops.size false)) ⟨hh.obj, hh.inj, fun b hb => hh.fresh b (Nat.le_trans (Nat.le_add_right _ _) hb), hh.prot, hh.keep, hh.size, hh.os, ?_, hh.down, hh.tag0⟩ rfl rfl rfl
    rintro b (hb | ⟨i, h1, h2, _, rfl⟩)
    · obtain ⟨h1, h2⟩ := hh.hole b hb
      grind
    · refine ⟨?_, hh.fresh _ (Nat.le_add_right _ _)⟩
      have := cf_lt (p := isD P nt ops) h1 h2
      show _ < H.next + I.nd
      rw [T.di.nd]
      omega
  · rw [hkk]
    refine ⟨(S 0).H, by simpa [cf] using h0, rfl, fun b o h => h, fun p m hp _ => ?_⟩
    rw [T.s0]
    exact hst.heap.none_of_next (by rw [(T.bl hp).id]; grind)
  grind
theorem inv_end {R : CR} {H' : Heap} (hH' : lfold (fun (H : Heap) (p : Pend) => some (H.put p.id p.o)) (S ops.size).pend (S ops.size).H = some H') (hI : Inv P nt ops e0 ds H I.anc W S X w0 g0 L a w) (hall : ∀ j, j < ops.size → L.getD j false = true) :
    CodePost X w0 g0 nt (.mk .normal (S ops.size).e (S ops.size).ds H') .normal a w := by
  obtain ⟨hL, g, K, hi⟩ := hI
  refine ⟨rfl, g, hi.le, hi.env.1, ?_, by rw [T.dsEq (Nat.le_refl _)]; exact hi.defs, ?_⟩
  · intro t v ht
    refine hi.env.2 t v ?_
    unfold envL
    cases hw : W.get t with
    | none => rw [← T.slot_none (Nat.le_refl _) hw]; exact ht
    | some i =>
      obtain ⟨o, ho, _⟩ := (T.di.wr t i).1 hw
      grind
  · have hput : ∀ (pend : List Pend) (H0 H1 : Heap), lfold (fun (H : Heap) (p : Pend) => some (H.put p.id p.o)) pend H0 = some H1 → H1.next = H0.next ∧ ∀ b o, H1.get b = some o → H0.get b = some o ∨ ∃ p ∈ pend, p.id = b ∧ p.o = o := by
      intro pend
      induction pend with
      | nil => intro H0 H1 h; rw [lfold_nil] at h; grind
      | cons p pend ih =>
        intro H0 H1 h
        rw [lfold_cons] at h
        obtain ⟨H2, h1, h2⟩ := h
        cases h1
        obtain ⟨i1, i2⟩ := ih _ _ h2
        refine ⟨i1, fun b o hb => ?_⟩
        rcases i2 b o hb with h | ⟨p', h, h'⟩
        · rw [Heap.get_put] at h
          split at h
          · grind
          grind
        grind
    obtain ⟨h1, h2⟩ := hput _ _ _ hH'
    obtain ⟨Hk, hk1, hk2, hk3, hk4⟩ := hi.at_
    have hkk := T.kks_all (L := L) hall
    rw [hkk, T.HH (Nat.le_refl _)] at hk1
    cases hk1
    refine ((hi.heap.subp (H' := H') ?_ (by rw [h1, hk2]))).weaken rfl (fun b hb => .inl hb)
    intro b o hb
    rcases h2 b o hb with h | ⟨p, h3, h4, h5⟩
    · exact ⟨o, hk3 b o h, .inl rfl⟩
    · have hbl : InBl P nt ops S p _ := .inl ⟨h3, rfl⟩
      have hbi := T.bl hbl
      obtain ⟨o', h6, h7⟩ := hi.pend p _ hbl (hall _ (by have := hbi.lt; omega)) (by grind)
      subst h4 h5
      refine ⟨o', h6, ?_⟩
      rcases h7 with ⟨_, h⟩ | ⟨h7, es, h8, h9⟩
      · exact .inl h
      · refine .inr ⟨_, es, h7, h8, ?_⟩
        have hen : entL L p = p.ent.map (·.2) := by
          unfold entL
          rw [List.filter_eq_self.2 ?_]
          intro z hz
          exact hall _ (hbi.at_ z hz).1
        rw [hen] at h9
        exact h9.symm
end
theorem draw_ok {P : Program} {ih : EvF} (hm : P.follows .mixedOrders = true) (hS : SoundF P ih) : DrawOk P ih := by
  intro X w0 g rd r id nt ops e ds H a w R hrd hst h
  obtain ⟨I, W, S, T, hlooks, H', hH', rfl⟩ := text_run h
  refine wpIn_region_any hm ?_
  have hX : ∀ b, X.ids b → b < H.next := fun b hb => (hst.heap.hole b hb).1
  refine any_order T hS hX ?_ hlooks (fun L a w hI hall => inv_end (R := .mk .normal e ds H) T hH' hI hall) _ _ _ _ ?_ (inv_start T hst hX)
  · intro t v ht
    obtain ⟨x, hx, _⟩ := hst.env t v ht
    rw [← hst.size]
    grind
  · have z : ∀ (p : Nat → Bool) n i, cf p i n ≤ n := by
      intro p n
      induction n with
      | zero => intro i; simp [cf]
      | succ n ih => intro i; have := ih (i + 1); simp only [cf]; grind
    exact z _ _ _
theorem ev_call {P : Program} (hm : P.follows .mixedOrders = true) {K : Orc} (hK : OrcOk P K) {n : Nat} {X : Pt} {w0 : World} {g : G} {H H' : Heap} {w : World} {f : FuncId} {args : List AV} {xs : List Value} {v : AV} (hH : HR X w0 g H w) (hv : VRs g args xs)
    (h : (ev P K n).call f args H = some (v, H')) : (∀ (as : Array Value) (w : World), (callFunc f as).run P w = .ok (.enter f as) w) ∧ CallsIn Fence.wide 0 P f xs.toArray w (CallPost X w0 g v H') :=
  (ev_sound hK (fun ih hS => draw_ok hm hS) n).call hH hv h
theorem HR.empty (w : World) : HR ⟨fun k _ => k < w.heap.size, fun _ => False⟩ w (fun _ => none) ⟨.lf, 0⟩ w :=
  ⟨fun b o h => by simp [Heap.get, Tr.get] at h, fun b b' o o' d d' h => by grind, fun _ _ => rfl, fun b o d h => by grind, fun k _ hk => ⟨hk, rfl⟩, Nat.le_refl _, ⟨rfl, rfl⟩, fun b h => h.elim, fun k t h => h, fun b o d h => by simp [Heap.get, Tr.get] at h⟩
theorem says_known {P : Program} (hm : P.follows .mixedOrders = true) {K : Orc} (hK : OrcOk P K) {n : Nat} {f : FuncId} (h : saysTrue P K n f = true) : Known P f := by
  unfold saysTrue at h
  split at h
  · rename_i H' hc
    refine ⟨(ev_call hm hK (HR.empty default) (args := []) (xs := []) rfl hc).1, fun w => ?_⟩
    refine CallsIn.mono (ev_call hm hK (HR.empty w) (args := []) (xs := []) rfl hc).2 ?_
    rintro e w' ⟨x, rfl, g', _, hv, hh⟩
    have : x = .bool true := hv
    subst this
    exact ⟨rfl, hh.size, fun k hk => (hh.keep k 0 hk).2, hh.os.1, hh.os.2⟩
  · cases h
end Go.Ev
namespace Go.Ev
structure EvLe (a b : EvF) : Prop where
  code : ∀ {rd nt c e ds H R}, a.code rd nt c e ds H = some R → b.code rd nt c e ds H = some R
  call : ∀ {f args H r}, a.call f args H = some r → b.call f args H = some r
theorem EvLe.refl (a : EvF) : EvLe a a := ⟨fun h => h, fun h => h⟩
theorem EvLe.trans {a b c : EvF} (h : EvLe a b) (h' : EvLe b c) : EvLe a c := ⟨fun k => h'.code (h.code k), fun k => h'.call (h.call k)⟩
theorem lfold_le {α β : Type} {f f' : β → α → Option β} (h : ∀ b a c, f b a = some c → f' b a = some c) : ∀ (l : List α) (b c : β), lfold f l b = some c → lfold f' l b = some c := by
  intro l
  induction l with
  | nil => intro b c h; exact h
  | cons a l ih =>
    intro b c hf
    rw [lfold_cons] at hf ⊢
    grind
section
variable {P : Program} {a b : EvF} (hle : EvLe a b)
include hle
theorem roundOf_le {l : Nat} {args : List AV} {H : Heap} {r : AV × Heap} (h : roundOf a l args H = some r) : roundOf b l args H = some r := by
  unfold roundOf at h ⊢
  split at h
  · rename_i e nt ps asg body pend D hl
    (try simp only [hl])
    split at h
    · rename_i e1 he1
      (try grind)
      split at h
      · rename_i e2 ds2 H2 hc
        rw [hle.code hc]
        simp only
        split at h
        · rename_i e' nt' ps' asg' body' pend' D' hl2
          (try grind)
          split at h
          · rename_i x e3 ds3 H3 hc3
            rw [hle.code hc3]
            exact h
          · cases h
        · cases h
      · cases h
    · cases h
  · cases h
theorem callV_le {fv : AV} {args : List AV} {H : Heap} {r : AV × Heap} (h : callV P a fv args H = some r) : callV P b fv args H = some r := by
  unfold callV at h ⊢
  split at h
  · exact hle.call h
  · exact roundOf_le hle h
  · split at h
    · split at h
      · rename_i hm
        (try simp only [hm])
        exact hle.call h
      · cases h
    · cases h
  · cases h
theorem oper_le {ρ : Operand → Option AV} {op : AOp} {ds : List ADef} {H : Heap} {r : OR} (h : oper P a ρ op ds H = some r) : oper P b ρ op ds H = some r := by
  unfold oper at h ⊢
  split at h
  · split at h
    · rename_i fv hf
      split at h
      · rename_i vs hvs
        split at h
        · rename_i v H' hc
          simp only [callV_le hle hc]
          exact h
        · cases h
      · cases h
    · cases h
  · split at h
    · rename_i t v hf
      split at h
      · rename_i f hm
        split at h
        · rename_i vs hvs
          split at h
          · rename_i v H' hc
            simp only [hle.call hc]
            exact h
          · cases h
        · cases h
      · cases h
    · cases h
  · exact h
theorem runOps_le {rd : Option Nat} {nt : Nat} {ops : Array Oper} {e : Tr AV} {ds : List ADef} {H : Heap} {R : CR} (h : runOps P a rd nt ops e ds H = some R) : runOps P b rd nt ops e ds H = some R := by
  unfold runOps at h ⊢
  refine lfold_le ?_ _ _ _ h
  intro s o c hc
  cases s with
  | mk x e ds H =>
    simp only at hc ⊢
    split at hc
    · split at hc
      · rename_i hop
        rw [oper_le hle hop]
        exact hc
      · cases hc
    · exact hc
    · cases hc
theorem dstep_le {rd : Option Nat} {ops : Array Oper} {anc : Tr Nat} {s : DS} {d : DOp} {s' : DS} (h : dstep P a rd ops anc s d = some s') : dstep P b rd ops anc s d = some s' := by
  unfold dstep at h ⊢
  split at h
  · cases h
  · grind
  · rename_i hw
    (try simp only [hw])
    split at h
    · grind
    · grind
    · rename_i hc
      (try simp only [hc])
      split at h
      · cases h
      · rename_i x hx
        (try simp only [hx])
        split at h
        · cases h
        · rename_i pend mats H1 hset
          (try grind)
          split at h
          · rename_i v ds' H' hop
            rw [oper_le hle hop]
            exact h
          · cases h
    · grind
    · grind
    grind
theorem runDraw_le {rd : Option Nat} {nt : Nat} {ops : Array Oper} {e : Tr AV} {ds : List ADef} {H : Heap} {R : CR} (h : runDraw P a rd nt ops e ds H = some R) : runDraw P b rd nt ops e ds H = some R := by
  unfold runDraw at h ⊢
  split at h
  · cases h
  · rename_i I hI
    (try simp only [hI])
    split at h
    · cases h
    · rename_i s hs
      rw [lfold_le (fun _ _ _ => dstep_le hle) _ _ _ hs]
      exact h
theorem stepCode_le {rd : Option Nat} {nt : Nat} {c : Code} {e : Tr AV} {ds : List ADef} {H : Heap} {R : CR} (h : stepCode P a rd nt c e ds H = some R) : stepCode P b rd nt c e ds H = some R := by
  cases c with
  | region id ops d =>
    cases d with
    | false => exact runOps_le (rd := rd) hle h
    | true => exact runDraw_le hle h
  | seq x y =>
    simp only [stepCode] at h ⊢
    split at h
    · rename_i x1 e1 ds1 H1 hx
      rw [hle.code hx]
      simp only
      split at h
      · exact hle.code h
      · exact h
    · cases h
  | cond c x y =>
    simp only [stepCode] at h ⊢
    split at h
    · split at h
      · exact hle.code h
      · exact hle.code h
    · cases h
  | block id x =>
    simp only [stepCode] at h ⊢
    split at h
    · rename_i x1 e1 ds1 H1 hx
      rw [hle.code hx]
      exact h
    · cases h
  | loop x =>
    simp only [stepCode] at h ⊢
    split at h
    · rename_i x1 e1 ds1 H1 hx
      rw [hle.code hx]
      simp only
      split at h
      · exact hle.code h
      · exact h
    · cases h
  | rangeFunc gx ps asg body =>
    simp only [stepCode] at h ⊢
    split at h
    · rename_i f first cap hg
      split at h
      · rename_i D H1 ds1 hD
        split at h
        · rename_i u H3 hc
          simp only [hle.call hc]
          exact h
        · cases h
      · cases h
    · cases h
  | _ => exact h
omit hle in
theorem runDefers_le : ∀ {ds : List ADef} {H H' : Heap}, runDefers a ds H = some H' → runDefers b ds H = some H' := by
  intro ds
  induction ds with
  | nil => intro H H' h; exact h
  | cons m ds ih =>
    intro H H' h
    cases m with
    | mark D =>
      simp only [runDefers] at h ⊢
      split at h
      · exact ih h
      · cases h
theorem stepCall_le {f : FuncId} {args : List AV} {H : Heap} {r : AV × Heap} (h : stepCall P a f args H = some r) : stepCall P b f args H = some r := by
  unfold stepCall at h ⊢
  split at h
  · split at h
    · split at h
      · cases h
      · split at h
        · cases h
        · split at h
          · rename_i x e ds H1 hc
            rw [hle.code hc]
            simp only
            split at h
            · cases h
            · split at h
              · rename_i H2 hd
                rw [runDefers_le hd]
                exact h
              · cases h
          · cases h
    · cases h
  · cases h
theorem known_le {K : Orc} {f : FuncId} {args : List AV} {H : Heap} {r : AV × Heap} (h : knownCall K f args H (stepCall P a f args H) = some r) : knownCall K f args H (stepCall P b f args H) = some r := by
  unfold knownCall at h ⊢
  split at h
  · exact h
  · exact stepCall_le hle h
theorem evStep_le {K : Orc} : EvLe (evStep P K a) (evStep P K b) := ⟨fun h => stepCode_le hle h, fun h => known_le hle h⟩
end
theorem ev_succ_le (P : Program) (K : Orc) : ∀ n, EvLe (ev P K n) (ev P K (n + 1)) := by
  intro n
  induction n with
  | zero => rw [ev_zero K]; exact ⟨(fun h => by cases h), (fun h => by cases h)⟩
  | succ n ih => rw [ev_succ K, ev_succ K (n + 1)]; exact evStep_le ih
theorem ev_le (P : Program) (K : Orc) {n m : Nat} (h : n ≤ m) : EvLe (ev P K n) (ev P K m) := by
  induction m with
  | zero => have : n = 0 := by omega
            subst this; exact EvLe.refl _
  | succ m ih =>
    by_cases he : n = m + 1
    · subst he; exact EvLe.refl _
    · exact (ih (by omega)).trans (ev_succ_le P K m)
end Go.Ev
namespace Go.Ev
def Pl.ren (ρ : Nat → Nat) (p : Pl) : Pl := ⟨ρ p.b, p.r, p.o⟩
mutual
def AV.ren (ρ : Nat → Nat) : AV → AV
  | .bool b => .bool b
  | .int k n => .int k n
  | .str s => .str s
  | .ptr none => .ptr none
  | .ptr (some p) => .ptr (some (p.ren ρ))
  | .slice none l c s r => .slice none l c s r
  | .slice (some p) l c s r => .slice (some (p.ren ρ)) l c s r
  | .empty => .empty
  | .map none => .map none
  | .map (some b) => .map (some (ρ b))
  | .func f a b => .func f (AV.rens ρ a) (AV.rens ρ b)
  | .mfunc n r => .mfunc n (AV.ren ρ r)
  | .yield l => .yield (ρ l)
  | .nilFunc => .nilFunc
  | .iface t v => .iface t (AV.ren ρ v)
  | .nilIface => .nilIface
  | .agg cs => .agg (AV.rens ρ cs)
  | .tuple vs => .tuple (AV.rens ρ vs)
def AV.rens (ρ : Nat → Nat) : List AV → List AV
  | [] => []
  | v :: vs => AV.ren ρ v :: AV.rens ρ vs
end
theorem AV.rens_eq (ρ : Nat → Nat) : ∀ l, AV.rens ρ l = l.map (AV.ren ρ) := by
  intro l
  induction l with
  | nil => simp [AV.rens]
  | cons v vs ih => simp [AV.rens, ih]
mutual
theorem VR_ren (g : G) (ρ : Nat → Nat) : ∀ (v : AV) (x : Value), VR (fun b => g (ρ b)) v x ↔ VR g (v.ren ρ) x
  | .bool _, _ => by simp only [AV.ren, VR]
  | .int _ _, _ => by simp only [AV.ren, VR]
  | .str _, _ => by simp only [AV.ren, VR]
  | .ptr none, _ => by simp only [AV.ren, VR]
  | .ptr (some p), _ => by simp only [AV.ren, VR]; exact Iff.rfl
  | .slice none _ _ _ _, _ => by simp only [AV.ren, VR]
  | .slice (some p) _ _ _ _, _ => by simp only [AV.ren, VR]; exact Iff.rfl
  | .empty, _ => by simp only [AV.ren, VR]
  | .map none, _ => by simp only [AV.ren, VR]
  | .map (some b), _ => by simp only [AV.ren, VR]
  | .func f a b, _ => by simp only [AV.ren, VR, VRs_ren g ρ a, VRs_ren g ρ b]
  | .mfunc n r, _ => by simp only [AV.ren, VR, VR_ren g ρ r]
  | .yield l, _ => by simp only [AV.ren, VR]
  | .nilFunc, _ => by simp only [AV.ren, VR]
  | .iface t v, _ => by simp only [AV.ren, VR, VR_ren g ρ v]
  | .nilIface, _ => by simp only [AV.ren, VR]
  | .agg cs, _ => by simp only [AV.ren, VR, VRs_ren g ρ cs]
  | .tuple cs, _ => by simp only [AV.ren, VR, VRs_ren g ρ cs]
theorem VRs_ren (g : G) (ρ : Nat → Nat) : ∀ (vs : List AV) (xs : List Value), VRs (fun b => g (ρ b)) vs xs ↔ VRs g (AV.rens ρ vs) xs
  | [], _ => by simp only [AV.rens, VRs]
  | v :: vs, _ => by simp only [AV.rens, VRs, VR_ren g ρ v, VRs_ren g ρ vs]
end
noncomputable def Tr.mp {α β : Type} (f : α → β) (t : Tr α) : Tr β := Tr.rec .lf (fun v _ _ _ _ a b c d => .nd (v.map f) a b c d) t
theorem Tr.get_mp {α β : Type} (f : α → β) (t : Tr α) (n : Nat) : (t.mp f).get n = (t.get n).map f := by
  unfold Tr.get
  generalize pth n = p
  induction p generalizing t with
  | z => cases t <;> rfl
  | c0 p ih => cases t with
    | lf => rfl
    | nd v a b c d => exact ih a
  | c1 p ih => cases t with
    | lf => rfl
    | nd v a b c d => exact ih b
  | c2 p ih => cases t with
    | lf => rfl
    | nd v a b c d => exact ih c
  | c3 p ih => cases t with
    | lf => rfl
    | nd v a b c d => exact ih d
theorem keyV_ren (ρ : Nat → Nat) (k : AV) : keyV (k.ren ρ) = keyV k := by
  cases k with
  | ptr a => cases a <;> simp [AV.ren, keyV]
  | slice a _ _ _ _ => cases a <;> simp [AV.ren, keyV]
  | map a => cases a <;> simp [AV.ren, keyV]
  | _ => simp [AV.ren, keyV]
def renE (ρ : Nat → Nat) (e : AV × AV) : AV × AV := (e.1.ren ρ, e.2.ren ρ)
theorem MR_ren {g : G} {ρ : Nat → Nat} {es : List (AV × AV)} {cs : List MapEntry} : MR (fun b => g (ρ b)) es cs ↔ MR g (es.map (renE ρ)) cs := by
  constructor
  · intro h
    refine ⟨by simp [h.len], ?_, ?_, h.ck, ?_⟩
    · intro i k v hi
      rw [List.getElem?_map] at hi
      obtain ⟨⟨k0, v0⟩, h1, h2⟩ := Option.map_eq_some_iff.1 hi
      cases h2
      obtain ⟨j, c, h3, h4, h5⟩ := h.get i k0 v0 h1
      exact ⟨j, c, h3, by rw [keyV_ren]; exact h4, (VR_ren g ρ _ _).1 h5⟩
    · intro j c hj
      obtain ⟨i, k, v, h3, h4, h5⟩ := h.back j c hj
      exact ⟨i, k.ren ρ, v.ren ρ, by rw [List.getElem?_map, h3]; rfl, by rw [keyV_ren]; exact h4, (VR_ren g ρ _ _).1 h5⟩
    · intro i j k k' v v' hi hj hne
      rw [List.getElem?_map] at hi hj
      obtain ⟨⟨k0, v0⟩, h1, h2⟩ := Option.map_eq_some_iff.1 hi
      obtain ⟨⟨k1, v1⟩, h3, h4⟩ := Option.map_eq_some_iff.1 hj
      cases h2; cases h4
      rw [keyV_ren, keyV_ren]
      exact h.keys i j _ _ _ _ h1 h3 hne
  · intro h
    refine ⟨by simpa using h.len, ?_, ?_, h.ck, ?_⟩
    · intro i k v hi
      obtain ⟨j, c, h3, h4, h5⟩ := h.get i (k.ren ρ) (v.ren ρ) (by rw [List.getElem?_map, hi]; rfl)
      exact ⟨j, c, h3, by rw [keyV_ren] at h4; exact h4, (VR_ren g ρ _ _).2 h5⟩
    · intro j c hj
      obtain ⟨i, k, v, h3, h4, h5⟩ := h.back j c hj
      rw [List.getElem?_map] at h3
      obtain ⟨⟨k0, v0⟩, h1, h2⟩ := Option.map_eq_some_iff.1 h3
      cases h2
      exact ⟨i, k0, v0, h1, by rw [keyV_ren] at h4; exact h4, (VR_ren g ρ _ _).2 h5⟩
    · intro i j k k' v v' hi hj hne
      have := h.keys i j (k.ren ρ) (k'.ren ρ) (v.ren ρ) (v'.ren ρ) (by rw [List.getElem?_map, hi]; rfl) (by rw [List.getElem?_map, hj]; rfl) hne
      rwa [keyV_ren, keyV_ren] at this
theorem ER_ren {g : G} {ρ : Nat → Nat} {e : Tr AV} {tm : Array Value} : ER (fun b => g (ρ b)) e tm ↔ ER g (e.mp (AV.ren ρ)) tm := by
  constructor
  · intro h t v ht
    rw [Tr.get_mp] at ht
    obtain ⟨u, h1, rfl⟩ := Option.map_eq_some_iff.1 ht
    obtain ⟨x, hx, hv⟩ := h t u h1
    exact ⟨x, hx, (VR_ren g ρ _ _).1 hv⟩
  · intro h t v ht
    obtain ⟨x, hx, hv⟩ := h t (v.ren ρ) (by rw [Tr.get_mp, ht]; rfl)
    exact ⟨x, hx, (VR_ren g ρ _ _).2 hv⟩
noncomputable def AObj.ren (ρ : Nat → Nat) : AObj → AObj
  | .rows t n sz ro => .rows (t.mp (List.map (AV.ren ρ))) n sz ro
  | .map es => .map (es.map (renE ρ))
  | .deferred => .deferred
  | .loop e nt ps asg body st pend D => .loop (e.mp (AV.ren ρ)) nt ps asg body st pend (ρ D)
theorem BR_ren {g : G} {ρ : Nat → Nat} {ob : Option Obj} {o : AObj} {d : Gd} : BR (fun b => g (ρ b)) ob o d ↔ BR g ob (o.ren ρ) d := by
  cases o with
  | deferred => exact Iff.rfl
  | map es =>
    constructor
    · rintro ⟨cs, cl, h1, h2⟩; exact ⟨cs, cl, h1, MR_ren.1 h2⟩
    · rintro ⟨cs, cl, h1, h2⟩; exact ⟨cs, cl, h1, MR_ren.2 h2⟩
  | loop e nt ps asg body st pend D =>
    constructor
    · rintro ⟨fn, tm, dD, h1, h2, h3, h4, h5⟩; exact ⟨fn, tm, dD, h1, h2, h3, ER_ren.1 h4, h5⟩
    · rintro ⟨fn, tm, dD, h1, h2, h3, h4, h5⟩; exact ⟨fn, tm, dD, h1, h2, h3, ER_ren.2 h4, h5⟩
  | rows t n sz ro =>
    constructor
    · rintro ⟨h1, c, el, fz, h2, hz, h3, h4⟩
      refine ⟨h1, c, el, fz, h2, hz, h3, fun i row hi ht => ?_⟩
      rw [Tr.get_mp] at ht
      obtain ⟨row0, h5, rfl⟩ := Option.map_eq_some_iff.1 ht
      obtain ⟨h6, h7⟩ := h4 i row0 hi h5
      refine ⟨by simpa using h6, fun j v hj => ?_⟩
      rw [List.getElem?_map] at hj
      obtain ⟨u, h8, rfl⟩ := Option.map_eq_some_iff.1 hj
      obtain ⟨x, hx, hv, ho⟩ := h7 j u h8
      exact ⟨x, hx, (VR_ren g ρ _ _).1 hv, ho⟩
    · rintro ⟨h1, c, el, fz, h2, hz, h3, h4⟩
      refine ⟨h1, c, el, fz, h2, hz, h3, fun i row hi ht => ?_⟩
      obtain ⟨h6, h7⟩ := h4 i (row.map (AV.ren ρ)) hi (by rw [Tr.get_mp, ht]; rfl)
      refine ⟨by simpa using h6, fun j v hj => ?_⟩
      obtain ⟨x, hx, hv, ho⟩ := h7 j (v.ren ρ) (by grind)
      exact ⟨x, hx, (VR_ren g ρ _ _).2 hv, ho⟩
structure Lies (ρ : Nat → Nat) (H Hb : Heap) : Prop where
  full : ∀ b, b < H.next → ∃ o, H.get b = some o ∧ Hb.get (ρ b) = some (o.ren ρ)
  lt : ∀ b, b < H.next → ρ b < Hb.next
  ge : ∀ b, H.next ≤ b → ρ b = Hb.next + (b - H.next)
  inj : ∀ b c, ρ b = ρ c → b = c
structure Behind (ρ : Nat → Nat) (H H' Hb Hb' : Heap) : Prop where
  on : ∀ b, Hb'.get (ρ b) = (H'.get b).map (AObj.ren ρ)
  off : ∀ i, (∀ b, ρ b ≠ i) → Hb'.get i = Hb.get i
  next : Hb'.next = Hb.next + (H'.next - H.next)
  le : H.next ≤ H'.next
structure KCon (P : Program) (f : FuncId) (args : List AV) (H : Heap) (v : AV) (H' : Heap) : Prop where
  call : ∀ {X : Pt} {w0 : World} {g : G} {w : World} {xs : List Value}, HR X w0 g H w → VRs g args xs →
    (∀ (as : Array Value) (w : World), (callFunc f as).run P w = .ok (.enter f as) w) ∧ CallsIn Fence.wide 0 P f xs.toArray w (CallPost X w0 g v H')
theorem KCon.of_ev {P : Program} (hm : P.follows .mixedOrders = true) {K : Orc} (hK : OrcOk P K) {n : Nat} {f : FuncId} {args : List AV} {H : Heap} {v : AV} {H' : Heap} (h : (ev P K n).call f args H = some (v, H')) : KCon P f args H v H' :=
  ⟨fun hH hv => ev_call hm hK hH hv h⟩
section
variable {ρ : Nat → Nat} {X : Pt} {w0 : World} {g : G} {H H' Hb Hb' : Heap} {w w' : World}
def restPt (ρ : Nat → Nat) (g : G) (H : Heap) (w : World) : Pt := ⟨fun k t => k < w.heap.size ∧ ∀ b d, b < H.next → g (ρ b) = some d → d.b = k → d.tag ≠ 0 ∧ d.tag ≠ t, fun _ => False⟩
theorem Lies.small (hL : Lies ρ H Hb) (hH : HR X w0 g Hb w) (hfull : ∀ b, H.next ≤ b → H.get b = none) : HR (restPt ρ g H w) w (fun b => g (ρ b)) H w := by
  have lt : ∀ b o, H.get b = some o → b < H.next := fun b o hb => by
    grind
  have up : ∀ b o, H.get b = some o → Hb.get (ρ b) = some (o.ren ρ) := fun b o hb => by
    obtain ⟨o', h1, h2⟩ := hL.full b (lt b o hb)
    grind
  refine ⟨?_, ?_, ?_, ?_, fun k _ hk => ⟨hk.1, rfl⟩, Nat.le_refl _, ⟨rfl, rfl⟩, fun b hb => hb.elim, fun k t hk => ⟨hk.1, fun b d hb hd e => ⟨(hk.2 b d hb hd e).1, (hk.2 b d hb hd e).1⟩⟩, fun b o d hb hw hd => hH.tag0 _ _ d (up b o hb) (by cases o <;> exact hw) hd⟩
  · intro b o hb
    obtain ⟨d, h1, h2⟩ := hH.obj _ _ (up b o hb)
    exact ⟨d, h1, BR_ren.2 h2⟩
  · intro b b' o o' d d' hb hb' h1 h2 e
    exact hL.inj _ _ (hH.inj _ _ _ _ _ _ (up b o hb) (up b' o' hb') h1 h2 e)
  · intro b hb
    have := hL.ge b hb
    exact hH.fresh _ (by omega)
  · intro b o d hb _ hd hX
    exact (hX.2 b d (lt b o hb) hd rfl).2 rfl
noncomputable def backG (ρ : Nat → Nat) (g g' : G) : G := fun i => match g i with
  | some d => some d
  | none => open Classical in if h : ∃ b, ρ b = i then g' h.choose else none
theorem backG_le (ρ : Nat → Nat) (g g' : G) : G.le g (backG ρ g g') := fun b d h => by unfold backG; rw [h]
theorem backG_on (hL : Lies ρ H Hb) {g g' : G} (hg : G.le (fun b => g (ρ b)) g') : (fun b => backG ρ g g' (ρ b)) = g' := by
  funext b
  unfold backG
  cases h : g (ρ b) with
  | some d => exact (hg b d h).symm
  | none =>
    have he : ∃ c, ρ c = ρ b := ⟨b, rfl⟩
    have : he.choose = b := hL.inj _ _ he.choose_spec
    grind
theorem backG_off {g g' : G} {i : Nat} (h : ∀ b, ρ b ≠ i) : backG ρ g g' i = g i := by
  unfold backG
  grind
theorem Lies.back (hL : Lies ρ H Hb) (hH : HR X w0 g Hb w) (hB : Behind ρ H H' Hb Hb') {g' : G} (hg : G.le (fun b => g (ρ b)) g') (h' : HR (restPt ρ g H w) w g' H' w') :
    HR X w0 (backG ρ g g') Hb' w' := by
  have hon : ∀ b, backG ρ g g' (ρ b) = g' b := fun b => congrFun (backG_on hL hg) b
  have cases_i : ∀ i o, Hb'.get i = some o → (∃ b o', ρ b = i ∧ H'.get b = some o' ∧ o = o'.ren ρ) ∨ ((∀ b, ρ b ≠ i) ∧ Hb.get i = some o) := by
    intro i o hi
    by_cases h : ∃ b, ρ b = i
    · obtain ⟨b, rfl⟩ := h
      rw [hB.on] at hi
      obtain ⟨o', h1, h2⟩ := Option.map_eq_some_iff.1 hi
      grind
    · have h : ∀ b, ρ b ≠ i := fun b hb => h ⟨b, hb⟩
      rw [hB.off i h] at hi
      grind
  have kept : ∀ i o d, (∀ b, ρ b ≠ i) → Hb.get i = some o → g i = some d → ∀ t, t = 0 ∨ d.tag = 0 ∨ d.tag = t → restPt ρ g H w d.b t := by
    intro i o d hi ho hd t ht
    refine ⟨hH.lt ho hd, fun b d' hb hd' e => ?_⟩
    obtain ⟨o', _, h2⟩ := hL.full b hb
    have no : ¬ (d'.tag = 0 ∨ d.tag = 0 ∨ d'.tag = d.tag) := fun h => hi b (hH.inj _ _ _ _ _ _ h2 ho hd' hd ⟨e, h⟩)
    refine ⟨fun h => no (.inl h), fun h => ?_⟩
    rcases ht with rfl | ht | ht
    · exact no (.inl h)
    · exact no (.inr (.inl ht))
    · exact no (.inr (.inr (h.trans ht.symm)))
  have xkept : ∀ k t, X k t → restPt ρ g H w k t := by
    intro k t hk
    refine ⟨Nat.lt_of_lt_of_le (hH.keep k t hk).1 hH.size, fun b d hb hd e => ?_⟩
    obtain ⟨o, _, h2⟩ := hL.full b hb
    subst e
    exact ⟨fun h => hH.prot _ _ _ h2 rfl hd (by rw [h]; exact hH.down _ t hk), fun h => hH.prot _ _ _ h2 rfl hd (by rw [h]; exact hk)⟩
  refine ⟨?_, ?_, ?_, ?_, ?_, Nat.le_trans hH.size h'.size, ⟨h'.os.1.trans hH.os.1, h'.os.2.trans hH.os.2⟩, ?_, hH.down, ?_⟩
  · intro i o hi
    rcases cases_i i o hi with ⟨b, o', rfl, h1, rfl⟩ | ⟨h1, h2⟩
    · obtain ⟨d, k1, k2⟩ := h'.obj b o' h1
      refine ⟨d, by grind, BR_ren.1 ?_⟩
      rw [backG_on hL hg]; exact k2
    · obtain ⟨d, k1, k2⟩ := hH.obj i o h2
      refine ⟨d, by rw [backG_off h1]; exact k1, ?_⟩
      rw [(h'.keep _ _ (kept i o d h1 h2 k1 d.tag (.inr (.inr rfl)))).2]
      exact k2.mono (backG_le ρ g g')
  · intro i j o1 o2 d1 d2 hi hj h1 h2 e
    rcases cases_i i o1 hi with ⟨b, o', rfl, k1, rfl⟩ | ⟨k1, k2⟩ <;> rcases cases_i j o2 hj with ⟨c, o'', rfl, l1, rfl⟩ | ⟨l1, l2⟩
    · rw [hon] at h1 h2
      rw [h'.inj _ _ _ _ _ _ k1 l1 h1 h2 e]
    · rw [hon] at h1
      rw [backG_off l1] at h2
      exact absurd (e.1 ▸ kept j o2 d2 l1 l2 h2 d1.tag (e.2.imp id (Or.imp id Eq.symm))) (h'.prot b o' d1 k1 rfl h1)
    · rw [hon] at h2
      rw [backG_off k1] at h1
      exact absurd (e.1.symm ▸ kept i o1 d1 k1 k2 h1 d2.tag (or_left_comm.1 e.2)) (h'.prot c o'' d2 l1 rfl h2)
    · rw [backG_off k1] at h1
      rw [backG_off l1] at h2
      exact hH.inj _ _ _ _ _ _ k2 l2 h1 h2 e
  · intro i hi
    rw [hB.next] at hi
    by_cases h : ∃ b, ρ b = i
    · obtain ⟨b, rfl⟩ := h
      rw [hon]
      refine h'.fresh b ?_
      by_cases hb : b < H.next
      · have := hL.lt b hb; omega
      · have := hL.ge b (by omega); grind
    · rw [backG_off (fun b hb => h ⟨b, hb⟩)]
      exact hH.fresh i (by omega)
  · intro i o d hi _ hd hX
    rcases cases_i i o hi with ⟨b, o', rfl, k1, rfl⟩ | ⟨k1, k2⟩
    · rw [hon] at hd
      exact h'.prot b o' d k1 rfl hd (xkept _ _ hX)
    · rw [backG_off k1] at hd
      exact hH.prot i o d k2 rfl hd hX
  · intro k t hk
    obtain ⟨h1, h2⟩ := hH.keep k t hk
    exact ⟨h1, ((h'.keep k t (xkept k t hk)).2).trans h2⟩
  · intro i hi
    obtain ⟨h1, h2⟩ := hH.hole i hi
    refine ⟨by rw [hB.next]; omega, ?_⟩
    by_cases h : ∃ b, ρ b = i
    · obtain ⟨b, rfl⟩ := h
      exfalso
      by_cases hb : b < H.next
      · obtain ⟨o, _, k2⟩ := hL.full b hb
        obtain ⟨d, k3, _⟩ := hH.obj _ _ k2
        grind
      · have := hL.ge b (by omega); omega
    · rw [backG_off (fun b hb => h ⟨b, hb⟩)]; exact h2
  · intro i o d hi hw hd
    rcases cases_i i o hi with ⟨b, o', rfl, k1, rfl⟩ | ⟨k1, k2⟩
    · rw [hon] at hd
      exact h'.tag0 b o' d k1 (by cases o' <;> exact hw) hd
    · rw [backG_off k1] at hd
      exact hH.tag0 i o d k2 hw hd
theorem KCon.frame {P : Program} {f : FuncId} {args : List AV} {v : AV} (hC : KCon P f args H v H') (hL : Lies ρ H Hb) (hfull : ∀ b, H.next ≤ b → H.get b = none) (hB : Behind ρ H H' Hb Hb') :
    KCon P f (AV.rens ρ args) Hb (v.ren ρ) Hb' := by
  refine ⟨fun {X w0 g w xs} hH hv => ?_⟩
  obtain ⟨h1, h2⟩ := hC.call (hL.small hH hfull) ((VRs_ren g ρ args xs).2 hv)
  refine ⟨h1, CallsIn.mono h2 ?_⟩
  rintro e w' ⟨x, rfl, g', hg, hx, hh⟩
  refine ⟨x, rfl, backG ρ g g', backG_le ρ g g', (VR_ren _ ρ v x).1 ?_, hL.back hH hB hg hh⟩
  rw [backG_on hL hg]; exact hx
end
noncomputable def backStep (ρ : Nat → Nat) (H' : Heap) (H : Heap) (b : Nat) : Heap := match H'.get b with
  | some o => H.put (ρ b) (o.ren ρ)
  | none => H.del (ρ b)
noncomputable def backH (ρ : Nat → Nat) (H H' Hb : Heap) : Heap := ⟨((List.range H'.next).foldl (backStep ρ H') Hb).t, Hb.next + (H'.next - H.next)⟩
theorem backStep_get (ρ : Nat → Nat) (H' H : Heap) (b i : Nat) : (backStep ρ H' H b).get i = if ρ b = i then (H'.get b).map (AObj.ren ρ) else H.get i := by
  unfold backStep
  cases h : H'.get b with
  | some o => dsimp only; rw [Heap.get_put]; rfl
  | none => dsimp only; rw [Heap.get_del]; rfl
theorem backFold_get {ρ : Nat → Nat} (hi : ∀ b c, ρ b = ρ c → b = c) (H' Hb : Heap) : ∀ n, (∀ b, b < n → ((List.range n).foldl (backStep ρ H') Hb).get (ρ b) = (H'.get b).map (AObj.ren ρ)) ∧
    (∀ i, (∀ b, b < n → ρ b ≠ i) → ((List.range n).foldl (backStep ρ H') Hb).get i = Hb.get i) := by
  intro n
  induction n with
  | zero => grind
  | succ n ih =>
    rw [List.range_succ, List.foldl_append]
    refine ⟨fun b hb => ?_, fun i hn => ?_⟩
    · show (backStep ρ H' _ n).get (ρ b) = _
      rw [backStep_get]
      grind
    · show (backStep ρ H' _ n).get i = _
      rw [backStep_get, if_neg (hn n (by omega))]
      grind
theorem behind_made {ρ : Nat → Nat} {H H' Hb : Heap} (hL : Lies ρ H Hb) (hle : H.next ≤ H'.next) (h' : ∀ b, H'.next ≤ b → H'.get b = none) (hb : ∀ b, Hb.next ≤ b → Hb.get b = none) : Behind ρ H H' Hb (backH ρ H H' Hb) := by
  obtain ⟨h1, h2⟩ := backFold_get hL.inj H' Hb H'.next
  refine ⟨fun b => ?_, fun i hi => ?_, rfl, hle⟩
  · show ((List.range H'.next).foldl (backStep ρ H') Hb).get (ρ b) = _
    by_cases hlt : b < H'.next
    · exact h1 b hlt
    · rw [h2 _ fun c hc k => by have := hL.inj _ _ k; omega, h' b (by omega)]
      have := hL.ge b (by omega)
      grind
  · exact h2 i fun b _ => hi b
noncomputable def orcOf (C : FuncId → List AV → Heap → AV → Heap → Prop) : Orc := fun f args H => open Classical in if h : ∃ r : AV × Heap, C f args H r.1 r.2 then some h.choose else none
theorem orcOf_ok {P : Program} {C : FuncId → List AV → Heap → AV → Heap → Prop} (h : ∀ f args H v H', C f args H v H' → KCon P f args H v H') : OrcOk P (orcOf C) := by
  refine ⟨fun {X w0 g H w f args xs v H'} hH hv hf => ?_⟩
  unfold orcOf at hf
  split at hf
  · rename_i he
    have := he.choose_spec
    have hf : he.choose = (v, H') := Option.some.inj hf
    rw [hf] at this
    exact (h _ _ _ _ _ this).call hH hv
  · cases hf
theorem orcOf_some {C : FuncId → List AV → Heap → AV → Heap → Prop} {f : FuncId} {args : List AV} {H : Heap} {v : AV} {H' : Heap} (h : C f args H v H') (hu : ∀ u I, C f args H u I → u = v ∧ I = H') : orcOf C f args H = some (v, H') := by
  unfold orcOf
  have he : ∃ r : AV × Heap, C f args H r.1 r.2 := ⟨(v, H'), h⟩
  grind
theorem orcOf_none {C : FuncId → List AV → Heap → AV → Heap → Prop} {f : FuncId} {args : List AV} {H : Heap} (h : ∀ u I, ¬ C f args H u I) : orcOf C f args H = none := by
  unfold orcOf
  grind
structure Heap.Eqv (H I : Heap) : Prop where
  get : ∀ b, H.get b = I.get b
  next : H.next = I.next
theorem HR.eqv {X : Pt} {w0 : World} {g : G} {H I : Heap} {w : World} (h : HR X w0 g H w) (e : H.Eqv I) : HR X w0 g I w :=
  ⟨fun b o hb => h.obj b o (by rw [e.get]; exact hb), fun b b' o o' d d' hb hb' => h.inj b b' o o' d d' (by rw [e.get]; exact hb) (by rw [e.get]; exact hb'),
    fun b hb => h.fresh b (by rw [e.next]; exact hb), fun b o d hb => h.prot b o d (by rw [e.get]; exact hb), h.keep, h.size, h.os, fun b hb => by rw [← e.next]; exact h.hole b hb, h.down, fun b o d hb => h.tag0 b o d (by rw [e.get]; exact hb)⟩
theorem Heap.Eqv.symm {H I : Heap} (e : H.Eqv I) : I.Eqv H := ⟨fun b => (e.get b).symm, e.next.symm⟩
theorem KCon.eqv {P : Program} {f : FuncId} {args : List AV} {v : AV} {H H' I I' : Heap} (h : KCon P f args H v H') (e : H.Eqv I) (e' : H'.Eqv I') : KCon P f args I v I' := by
  refine ⟨fun hH hv => ?_⟩
  obtain ⟨h1, h2⟩ := h.call (hH.eqv e.symm) hv
  refine ⟨h1, CallsIn.mono h2 ?_⟩
  rintro r w' ⟨x, rfl, g', hg, hx, hh⟩
  exact ⟨x, rfl, g', hg, hx, hh.eqv e'⟩
end Go.Ev
