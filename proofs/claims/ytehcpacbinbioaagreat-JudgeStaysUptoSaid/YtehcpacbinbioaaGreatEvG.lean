/- A machine that is proved sound, and walks by it. Conditions: none. -/
import Derived.Test.YtehcpacbinbioaaGreatEvF
set_option linter.all false
namespace Go.Ev
mutual
def AV.Bel (n : Nat) : AV → Prop
  | .ptr (some p) => p.b < n
  | .slice (some p) _ _ _ _ => p.b < n
  | .map (some b) => b < n
  | .func _ a b => AV.Bels n a ∧ AV.Bels n b
  | .mfunc _ r => AV.Bel n r
  | .yield l => l < n
  | .iface _ v => AV.Bel n v
  | .agg cs => AV.Bels n cs
  | .tuple vs => AV.Bels n vs
  | .bool _ => True
  | .int _ _ => True
  | .str _ => True
  | .ptr none => True
  | .slice none _ _ _ _ => True
  | .empty => True
  | .map none => True
  | .nilFunc => True
  | .nilIface => True
def AV.Bels (n : Nat) : List AV → Prop
  | [] => True
  | v :: vs => AV.Bel n v ∧ AV.Bels n vs
end
def G.upto (n : Nat) (g : G) : G := fun b => if b < n then g b else none
theorem G.upto_lt {n : Nat} {g : G} {b : Nat} (h : b < n) : g.upto n b = g b := if_pos h
mutual
theorem VR.upto {g : G} {n : Nat} : ∀ (v : AV) (x : Value), AV.Bel n v → VR g v x → VR (g.upto n) v x
  | .bool _, _, _, h => h
  | .int _ _, _, _, h => h
  | .str _, _, _, h => h
  | .ptr none, _, _, h => h
  | .ptr (some p), _, hb, ⟨d, hd, e⟩ => ⟨d, (G.upto_lt hb).trans hd, e⟩
  | .slice none _ _ _ _, _, _, h => h
  | .slice (some p) _ _ _ _, _, hb, ⟨d, hd, e⟩ => ⟨d, (G.upto_lt hb).trans hd, e⟩
  | .empty, _, _, h => h
  | .map none, _, _, h => h
  | .map (some b), _, hb, ⟨d, hd, e⟩ => ⟨d, (G.upto_lt hb).trans hd, e⟩
  | .func f a b, _, hb, ⟨xs, ys, h1, h2, e⟩ => ⟨xs, ys, VRs.upto a xs hb.1 h1, VRs.upto b ys hb.2 h2, e⟩
  | .mfunc n r, _, hb, ⟨y, hy, e⟩ => ⟨y, VR.upto r y hb hy, e⟩
  | .yield l, _, hb, ⟨d, hd, e⟩ => ⟨d, (G.upto_lt hb).trans hd, e⟩
  | .nilFunc, _, _, h => h
  | .iface t v, _, hb, ⟨y, hy, e⟩ => ⟨y, VR.upto v y hb hy, e⟩
  | .nilIface, _, _, h => h
  | .agg cs, _, hb, ⟨xs, h1, h2⟩ => ⟨xs, VRs.upto cs xs hb h1, h2⟩
  | .tuple cs, _, hb, ⟨xs, h1, h2⟩ => ⟨xs, VRs.upto cs xs hb h1, h2⟩
theorem VRs.upto {g : G} {n : Nat} : ∀ (vs : List AV) (xs : List Value), AV.Bels n vs → VRs g vs xs → VRs (g.upto n) vs xs
  | [], _, _, h => h
  | v :: vs, _, hb, ⟨y, ys, h1, h2, e⟩ => ⟨y, ys, VR.upto v y hb.1 h1, VRs.upto vs ys hb.2 h2, e⟩
end
def AObj.Bel (n : Nat) : AObj → Prop
  | .rows t m _ _ => ∀ i row, i < m → t.get i = some row → ∀ (j : Nat) v, row[j]? = some v → AV.Bel n v
  | .map es => ∀ (i : Nat) k v, es[i]? = some (k, v) → AV.Bel n v
  | .deferred => True
  | .loop e _ _ _ _ _ _ D => D < n ∧ ∀ t v, e.get t = some v → AV.Bel n v
theorem BR.upto {g : G} {n : Nat} {ob : Option Obj} {o : AObj} {d : Gd} (hb : AObj.Bel n o) (h : BR g ob o d) : BR (g.upto n) ob o d := by
  cases o with
  | deferred => exact h
  | map es =>
    obtain ⟨cs, cl, h1, h2⟩ := h
    refine ⟨cs, cl, h1, h2.len, fun i k v hi => ?_, fun j c hj => ?_, h2.ck, h2.keys⟩
    · obtain ⟨j, c, h3, h4, h5⟩ := h2.get i k v hi
      exact ⟨j, c, h3, h4, VR.upto _ _ (hb i k v hi) h5⟩
    · obtain ⟨i, k, v, h3, h4, h5⟩ := h2.back j c hj
      exact ⟨i, k, v, h3, h4, VR.upto _ _ (hb i k v h3) h5⟩
  | loop e nt ps asg body st pend D =>
    obtain ⟨fn, tm, dD, h1, h2, h3, h4, h5⟩ := h
    refine ⟨fn, tm, dD, h1, (G.upto_lt hb.1).trans h2, h3, fun t v ht => ?_, h5⟩
    obtain ⟨x, hx, hv⟩ := h4 t v ht
    exact ⟨x, hx, VR.upto _ _ (hb.2 t v ht) hv⟩
  | rows t m sz ro =>
    obtain ⟨h1, c, el, fz, h2, hz, h3, h4⟩ := h
    refine ⟨h1, c, el, fz, h2, hz, h3, fun i row hi ht => ⟨(h4 i row hi ht).1, fun j v hj => ?_⟩⟩
    obtain ⟨x, hx, hv, ho⟩ := (h4 i row hi ht).2 j v hj
    exact ⟨x, hx, VR.upto _ _ (hb i row hi ht j v hj) hv, ho⟩
structure Upto (n : Nat) (H I : Heap) : Prop where
  next : I.next = n
  le : n ≤ H.next
  get : ∀ b o, I.get b = some o → b < n ∧ H.get b = some o ∧ AObj.Bel n o
theorem HR.upto {X : Pt} {w0 : World} {g : G} {H I : Heap} {w : World} {n : Nat} (h : HR X w0 g H w) (hu : Upto n H I) (hX : ∀ b, X.ids b → b < n) : HR X w0 (g.upto n) I w := by
  refine ⟨?_, ?_, ?_, ?_, h.keep, h.size, h.os, ?_, h.down, ?_⟩
  · intro b o hb
    obtain ⟨h1, h2, h3⟩ := hu.get b o hb
    obtain ⟨d, k1, k2⟩ := h.obj b o h2
    exact ⟨d, (G.upto_lt h1).trans k1, k2.upto h3⟩
  · intro b b' o o' d d' hb hb' h1 h2 e
    obtain ⟨k1, k2, _⟩ := hu.get b o hb
    obtain ⟨l1, l2, _⟩ := hu.get b' o' hb'
    rw [G.upto_lt k1] at h1
    rw [G.upto_lt l1] at h2
    exact h.inj _ _ _ _ _ _ k2 l2 h1 h2 e
  · intro b hb
    rw [hu.next] at hb
    exact if_neg (by omega)
  · intro b o d hb hw hd
    obtain ⟨k1, k2, _⟩ := hu.get b o hb
    rw [G.upto_lt k1] at hd
    exact h.prot b o d k2 hw hd
  · intro b hb
    obtain ⟨h1, h2⟩ := h.hole b hb
    have := hX b hb
    exact ⟨by rw [hu.next]; exact this, (G.upto_lt this).trans h2⟩
  · intro b o d hb hw hd
    obtain ⟨k1, k2, _⟩ := hu.get b o hb
    rw [G.upto_lt k1] at hd
    exact h.tag0 b o d k2 hw hd
theorem KCon.upto {P : Program} {f : FuncId} {args : List AV} {v : AV} {H H' I : Heap} {n : Nat} (h : KCon P f args H v H') (hu : Upto n H' I) (hn : H.next ≤ n) (hv : AV.Bel n v) : KCon P f args H v I := by
  refine ⟨fun hH hx => ?_⟩
  obtain ⟨h1, h2⟩ := h.call hH hx
  refine ⟨h1, CallsIn.mono h2 ?_⟩
  rintro r w' ⟨x, rfl, g', hg, hy, hh⟩
  refine ⟨x, rfl, g'.upto n, fun b d hb => ?_, VR.upto _ _ hv hy, hh.upto hu fun b hb => ?_⟩
  · have : b < H.next := by
      by_cases hb' : b < H.next
      · exact hb'
      · rw [hH.fresh b (by omega)] at hb; cases hb
    exact (G.upto_lt (by omega)).trans (hg b d hb)
  · have := (hH.hole b hb).1
    omega
end Go.Ev
namespace Go.Ev
section
variable {P : Program} {K : Orc} {rd : Option Nat} {nt : Nat} {e e1 : Tr AV} {ds ds1 : List ADef} {H H1 : Heap} {R : CR}
def Runs (P : Program) (K : Orc) (rd : Option Nat) (nt : Nat) (c : Code) (e : Tr AV) (ds : List ADef) (H : Heap) (R : CR) : Prop := ∃ n, (ev P K n).code rd nt c e ds H = some R
def CallsTo (P : Program) (K : Orc) (f : FuncId) (args : List AV) (H : Heap) (v : AV) (H' : Heap) : Prop := ∃ n, (ev P K n).call f args H = some (v, H')
def CallsV (P : Program) (K : Orc) (fv : AV) (args : List AV) (H : Heap) (v : AV) (H' : Heap) : Prop := ∃ n, callV P (ev P K n) fv args H = some (v, H')
def OpTo (P : Program) (K : Orc) (e : Tr AV) (op : AOp) (ds : List ADef) (H : Heap) (R : OR) : Prop := ∃ n, oper P (ev P K n) (opv e) op ds H = some R
noncomputable def opStep (P : Program) (ih : EvF) (nt : Nat) (ops : Array Oper) (s : CR) (o : Oper) : Option CR := match s with
    | .mk _ e ds H => match cOper P nt o with
      | ⟨d, op, g⟩ => match wanted e ops g with
        | some true => match oper P ih (opv e) op ds H with
          | some (.mk v ds' H') => some (.mk .normal (putO e d v) ds' H')
          | none => none
        | some false => some (.mk .normal (putO e d .undef) ds H)
        | none => none
theorem runOps_eq (ih : EvF) (ops : Array Oper) : runOps P ih rd nt ops e ds H = lfold (opStep P ih nt ops) ops.toList (.mk .normal e ds H) := rfl
def OpsTo (P : Program) (K : Orc) (nt : Nat) (ops : Array Oper) (l : List Oper) (e : Tr AV) (ds : List ADef) (H : Heap) (R : CR) : Prop := ∃ n, lfold (opStep P (ev P K n) nt ops) l (.mk .normal e ds H) = some R
theorem opStep_le {n m : Nat} (h : n ≤ m) {ops : Array Oper} {s c : CR} {o : Oper} (hc : opStep P (ev P K n) nt ops s o = some c) : opStep P (ev P K m) nt ops s o = some c := by
  cases s with
  | mk x e ds H =>
    unfold opStep at hc ⊢
    dsimp only at hc ⊢
    split at hc
    · split at hc
      · rename_i hop
        rw [oper_le (ev_le P K h) hop]
        exact hc
      · cases hc
    · exact hc
    · cases hc
theorem ev_code_succ (n : Nat) (c : Code) : (ev P K (n + 1)).code rd nt c e ds H = stepCode P (ev P K n) rd nt c e ds H := rfl
theorem Runs.skip : Runs P K rd nt .skip e ds H (.mk .normal e ds H) := ⟨1, rfl⟩
theorem Runs.exit (i : Nat) : Runs P K rd nt (.exit i) e ds H (.mk (.exit i) e ds H) := ⟨1, rfl⟩
theorem Runs.ret : Runs P K rd nt .ret e ds H (.mk .ret e ds H) := ⟨1, rfl⟩
theorem Runs.seq {a b : Code} (h1 : Runs P K rd nt a e ds H (.mk .normal e1 ds1 H1)) (h2 : Runs P K rd nt b e1 ds1 H1 R) : Runs P K rd nt (.seq a b) e ds H R := by
  obtain ⟨n, h1⟩ := h1
  obtain ⟨m, h2⟩ := h2
  refine ⟨max n m + 1, ?_⟩
  rw [ev_code_succ]
  simp only [stepCode, (ev_le P K (Nat.le_max_left n m)).code h1, (ev_le P K (Nat.le_max_right n m)).code h2]
theorem Runs.stop {a b : Code} {x : AX} (h1 : Runs P K rd nt a e ds H (.mk x e1 ds1 H1)) (hx : x ≠ .normal) : Runs P K rd nt (.seq a b) e ds H (.mk x e1 ds1 H1) := by
  obtain ⟨n, h1⟩ := h1
  refine ⟨n + 1, ?_⟩
  rw [ev_code_succ]
  simp only [stepCode, h1]
theorem Runs.yes {c : Operand} {a b : Code} (hc : opv e c = some (.bool true)) (h : Runs P K rd nt a e ds H R) : Runs P K rd nt (.cond c a b) e ds H R := by
  obtain ⟨n, h⟩ := h
  refine ⟨n + 1, ?_⟩
  rw [ev_code_succ]
  simp only [stepCode, hc, h]
theorem Runs.no {c : Operand} {a b : Code} (hc : opv e c = some (.bool false)) (h : Runs P K rd nt b e ds H R) : Runs P K rd nt (.cond c a b) e ds H R := by
  obtain ⟨n, h⟩ := h
  refine ⟨n + 1, ?_⟩
  rw [ev_code_succ]
  simp only [stepCode, hc, h]
theorem Runs.block {id : Nat} {b : Code} (h : Runs P K rd nt b e ds H (.mk .normal e1 ds1 H1)) : Runs P K rd nt (.block id b) e ds H (.mk .normal e1 ds1 H1) := by
  obtain ⟨n, h⟩ := h
  refine ⟨n + 1, ?_⟩
  rw [ev_code_succ]
  simp only [stepCode, h]
theorem Runs.block_exit {id : Nat} {b : Code} (h : Runs P K rd nt b e ds H (.mk (.exit id) e1 ds1 H1)) : Runs P K rd nt (.block id b) e ds H (.mk .normal e1 ds1 H1) := by
  obtain ⟨n, h⟩ := h
  refine ⟨n + 1, ?_⟩
  rw [ev_code_succ]
  simp only [stepCode, h, Nat.beq_refl]
theorem Runs.block_other {id i : Nat} {b : Code} (hi : Nat.beq i id = false) (h : Runs P K rd nt b e ds H (.mk (.exit i) e1 ds1 H1)) : Runs P K rd nt (.block id b) e ds H (.mk (.exit i) e1 ds1 H1) := by
  obtain ⟨n, h⟩ := h
  refine ⟨n + 1, ?_⟩
  rw [ev_code_succ]
  simp only [stepCode, h, hi]
theorem Runs.block_ret {id : Nat} {b : Code} (h : Runs P K rd nt b e ds H (.mk .ret e1 ds1 H1)) : Runs P K rd nt (.block id b) e ds H (.mk .ret e1 ds1 H1) := by
  obtain ⟨n, h⟩ := h
  refine ⟨n + 1, ?_⟩
  rw [ev_code_succ]
  simp only [stepCode, h]
theorem Runs.again {b : Code} (h1 : Runs P K rd nt b e ds H (.mk .normal e1 ds1 H1)) (h2 : Runs P K rd nt (.loop b) e1 ds1 H1 R) : Runs P K rd nt (.loop b) e ds H R := by
  obtain ⟨n, h1⟩ := h1
  obtain ⟨m, h2⟩ := h2
  refine ⟨max n m + 1, ?_⟩
  rw [ev_code_succ]
  simp only [stepCode, (ev_le P K (Nat.le_max_left n m)).code h1, (ev_le P K (Nat.le_max_right n m)).code h2]
theorem Runs.out {b : Code} {x : AX} (h1 : Runs P K rd nt b e ds H (.mk x e1 ds1 H1)) (hx : x ≠ .normal) : Runs P K rd nt (.loop b) e ds H (.mk x e1 ds1 H1) := by
  obtain ⟨n, h1⟩ := h1
  refine ⟨n + 1, ?_⟩
  rw [ev_code_succ]
  simp only [stepCode, h1]
theorem Runs.region {r : Nat} {ops : Array Oper} (h : OpsTo P K nt ops ops.toList e ds H R) : Runs P K rd nt (.region r ops false) e ds H R := by
  obtain ⟨n, h⟩ := h
  exact ⟨n + 1, h⟩
theorem OpsTo.nil {ops : Array Oper} : OpsTo P K nt ops [] e ds H (.mk .normal e ds H) := ⟨0, by rw [lfold_nil]⟩
theorem OpsTo.cons {ops : Array Oper} {o : Oper} {l : List Oper} {d : Option Nat} {op : AOp} {g : Option (Nat × Bool)} {v : AV} (hc : cOper P nt o = ⟨d, op, g⟩) (hw : wanted e ops g = some true) (ho : OpTo P K e op ds H (.mk v ds1 H1))
    (h : OpsTo P K nt ops l (putO e d v) ds1 H1 R) : OpsTo P K nt ops (o :: l) e ds H R := by
  obtain ⟨n, ho⟩ := ho
  obtain ⟨m, h⟩ := h
  refine ⟨max n m, ?_⟩
  have h1 : opStep P (ev P K (max n m)) nt ops (.mk .normal e ds H) o = some (.mk .normal (putO e d v) ds1 H1) := by
    unfold opStep
    simp only [hc, hw, oper_le (ev_le P K (Nat.le_max_left n m)) ho]
  rw [lfold_cons, h1]
  exact ⟨_, rfl, lfold_le (fun _ _ _ hf => opStep_le (Nat.le_max_right n m) hf) _ _ _ h⟩
theorem OpsTo.pass {ops : Array Oper} {o : Oper} {l : List Oper} {d : Option Nat} {op : AOp} {g : Option (Nat × Bool)} (hc : cOper P nt o = ⟨d, op, g⟩) (hw : wanted e ops g = some false)
    (h : OpsTo P K nt ops l (putO e d .undef) ds H R) : OpsTo P K nt ops (o :: l) e ds H R := by
  obtain ⟨m, h⟩ := h
  refine ⟨m, ?_⟩
  have h1 : opStep P (ev P K m) nt ops (.mk .normal e ds H) o = some (.mk .normal (putO e d .undef) ds H) := by
    unfold opStep
    grind
  rw [lfold_cons, h1]
  grind
theorem OpTo.call {f : Operand} {args : List Operand} {fv v : AV} {vs : List AV} (hf : opv e f = some fv) (ha : lmapO (opv e) args = some vs) (h : CallsV P K fv vs H v H1) : OpTo P K e (.call f args) ds H (.mk v ds H1) := by
  obtain ⟨n, h⟩ := h
  refine ⟨n, ?_⟩
  simp only [oper, hf, ha, h]
theorem CallsV.func {f : FuncId} {first cap args : List AV} {v : AV} (h : CallsTo P K f (first ++ (args ++ cap)) H v H1) : CallsV P K (.func f first cap) args H v H1 := by
  obtain ⟨n, h⟩ := h
  refine ⟨n, ?_⟩
  simp only [callV, lapp_eq, h]
theorem CallsTo.known {f : FuncId} {args : List AV} {v : AV} (h : K f args H = some (v, H1)) : CallsTo P K f args H v H1 := by
  refine ⟨1, ?_⟩
  show knownCall K f args H (stepCall P (ev P K 0) f args H) = _
  unfold knownCall
  rw [h]
theorem CallsTo.enter {f : FuncId} {fn : Func} {c : Code} {args : List AV} {v : AV} {e0 : Tr AV} {x : AX} (hK : K f args H = none) (hf : P.funcs[f]? = some fn) (hb : fn.body = some c) (hn : (Nat.ble (llen args) fn.ntmps && !(fn.name == "runtime.NumGoroutine")) = true)
    (h0 : argsEnv fn.ntmps args = some e0) (h : Runs P K none fn.ntmps c e0 [] H (.mk x e1 [] H1)) (hx : x = .ret ∨ x = .normal) (hr : (match lmapO (resultOf P e1 H1) fn.results.toList with | some [v] => some v | some vs => some (.tuple vs) | none => none) = some v) :
    CallsTo P K f args H v H1 := by
  obtain ⟨n, h⟩ := h
  refine ⟨n + 1, ?_⟩
  show knownCall K f args H (stepCall P (ev P K n) f args H) = _
  unfold knownCall
  rw [hK]
  unfold stepCall
  simp only [hf, hb, hn, h0, h]
  have key : (match lmapO (resultOf P e1 H1) fn.results.toList with
      | some [v] => some (v, H1)
      | some vs => some (AV.tuple vs, H1)
      | none => none) = some (v, H1) := by
    grind
  rcases hx with rfl | rfl <;> exact key
end
end Go.Ev
namespace Go.Ev
theorem bq_self (a : Nat) : Nat.beq a a = true := Nat.beq_refl a
theorem bl_true {a b : Nat} : Nat.ble a b = true ↔ a ≤ b := ⟨fun h => Nat.le_of_ble_eq_true h, fun h => Nat.ble_eq_true_of_le h⟩
theorem bl_false {a b : Nat} : Nat.ble a b = false ↔ ¬ a ≤ b := by
  cases h : Nat.ble a b with
  | true => simp [bl_true.1 h]
  | false => simp; exact Nat.lt_of_not_le fun k => by rw [bl_true.2 k] at h; cases h
def lk : List (Nat × AV) → Nat → Option AV
  | [], _ => none
  | (i, v) :: l, j => match Nat.beq i j with | true => some v | false => lk l j
abbrev Sl := List (Nat × AV)
def En (l : Sl) (e : Tr AV) : Prop := ∀ i v, lk l i = some v → e.get i = some v
theorem lk_cons (d : Nat) (v : AV) (l : Sl) (i : Nat) : lk ((d, v) :: l) i = if d = i then some v else lk l i := by
  show (match Nat.beq d i with | true => some v | false => lk l i) = _
  by_cases h : d = i
  · subst h; rw [if_pos rfl, bq_self]
  · rw [if_neg h]
    have : Nat.beq d i = false := by
      cases hb : Nat.beq d i with
      | true => exact absurd (Nat.eq_of_beq_eq_true hb) h
      | false => rfl
    rw [this]
theorem En.put {l : Sl} {e : Tr AV} (h : En l e) (d : Nat) (v : AV) : En ((d, v) :: l) (e.put d v) := by
  intro i x hx
  rw [lk_cons] at hx
  rw [Tr.get_put]
  by_cases hi : d = i
  · grind
  · rw [if_neg hi] at hx ⊢; exact h i x hx
@[reducible] def pl (d : Option Nat) (v : AV) (l : Sl) : Sl := match d with | some d => (d, v) :: l | none => l
theorem En.putO {l : Sl} {e : Tr AV} (h : En l e) (d : Option Nat) (v : AV) : En (pl d v l) (putO e d v) := by
  cases d with
  | none => exact h
  | some d => exact h.put d v
noncomputable def opl (l : Sl) : Operand → Option AV
  | .tmp t => lk l t
  | .const v => ofVal v
  | .global _ => none
  | .func f => some (.func f [] [])
theorem opl_ok {l : Sl} {e : Tr AV} (h : En l e) {x : Operand} {v : AV} (hx : opl l x = some v) : opv e x = some v := by
  cases x with
  | tmp t => exact h t v hx
  | const c => exact hx
  | global g => cases hx
  | func f => exact hx
theorem lmapO_mono {α β : Type} {f g : α → Option β} (h : ∀ a b, f a = some b → g a = some b) : ∀ (l : List α) (r : List β), lmapO f l = some r → lmapO g l = some r := by
  intro l
  induction l with
  | nil => intro r hr; exact hr
  | cons a l ih =>
    intro r hr
    obtain ⟨b, bs, h1, h2, rfl⟩ := (lmapO_cons f a l r).1 hr
    exact (lmapO_cons g a l _).2 ⟨b, bs, h a b h1, ih bs h2, rfl⟩
theorem opls_ok {l : Sl} {e : Tr AV} (h : En l e) {xs : List Operand} {vs : List AV} (hx : lmapO (opl l) xs = some vs) : lmapO (opv e) xs = some vs :=
  lmapO_mono (fun _ _ h1 => opl_ok h h1) _ _ hx
inductive HO where
  | r (ro : Bool) (L : List (List AV)) (sz : Nat)
  | m (es : List (AV × AV))
  | ob (o : AObj)
  | gone
  | lp (l : Sl) (nt : Nat) (ps : List Nat) (asg body : Code) (st : LoopState) (pend : Option AX) (D : Nat)
  | junk
def HO.ok : HO → Option AObj → Prop
  | .r ro L sz, x => ∃ t, x = some (.rows t L.length sz ro) ∧ ∀ (i : Nat) row, L[i]? = some row → t.get i = some row ∧ row.length = sz
  | .m es, x => x = some (.map es)
  | .ob o, x => x = some o
  | .gone, _ => True
  | .lp l nt ps asg body st pend D, x => ∃ e, x = some (.loop e nt ps asg body st pend D) ∧ En l e
  | .junk, _ => True
abbrev SH := List (Nat × HO)
inductive Has (b : Nat) (o : HO) : SH → Prop
  | here {s : SH} : Has b o ((b, o) :: s)
  | there {p : Nat × HO} {s : SH} : Has b o s → Has b o (p :: s)
  | app {n s : SH} : Has b o s → Has b o (n ++ s)
  | left {n s : SH} : Has b o n → Has b o (n ++ s)
theorem Has.mem {b : Nat} {o : HO} {s : SH} (h : Has b o s) : (b, o) ∈ s := by
  induction h with
  | here => grind
  | there _ ih => grind
  | app _ ih => grind
  | left _ ih => grind
theorem Has.of_mem {b : Nat} {o : HO} {s : SH} (h : (b, o) ∈ s) : Has b o s := by
  induction s with
  | nil => cases h
  | cons p s ih =>
    cases h with
    | head => exact .here
    | tail _ h => exact .there (ih h)
inductive Upd (b : Nat) (o o' : HO) : SH → SH → Prop
  | here {s : SH} : Upd b o o' ((b, o) :: s) ((b, o') :: s)
  | there {p : Nat × HO} {s s' : SH} : Upd b o o' s s' → Upd b o o' (p :: s) (p :: s')
  | app {n s s' : SH} : Upd b o o' s s' → Upd b o o' (n ++ s) (n ++ s')
  | left {n n' s : SH} : Upd b o o' n n' → Upd b o o' (n ++ s) (n' ++ s)
theorem Has.a4 {b : Nat} {o : HO} {x y z w s : SH} (h : Has b o s) : Has b o (x ++ (y ++ (z ++ (w ++ s)))) := h.app.app.app.app
theorem Upd.a4 {b : Nat} {o o' : HO} {x y z w s s' : SH} (h : Upd b o o' s s') : Upd b o o' (x ++ (y ++ (z ++ (w ++ s)))) (x ++ (y ++ (z ++ (w ++ s')))) := h.app.app.app.app
theorem Upd.split {b : Nat} {o o' : HO} {s s' : SH} (h : Upd b o o' s s') : ∃ x y, s = x ++ (b, o) :: y ∧ s' = x ++ (b, o') :: y := by
  induction h with
  | here => exact ⟨[], _, rfl, rfl⟩
  | @there p s s' _ ih => grind
  | @app n s s' _ ih => grind
  | @left n n' s _ ih => grind
structure Hp (H0 : Heap) (s : SH) (H : Heap) : Prop where
  le : H0.next ≤ H.next
  ok : ∀ b o, (b, o) ∈ s → b < H.next ∧ o.ok (H.get b)
  nd : s.Pairwise (fun p q => p.1 ≠ q.1)
  fr : ∀ b, b < H0.next → (∀ o, (b, o) ∉ s) → H.get b = H0.get b
theorem Hp.has {H0 H : Heap} {s : SH} (h : Hp H0 s H) {b : Nat} {o : HO} (hb : Has b o s) : b < H.next ∧ o.ok (H.get b) := h.ok b o hb.mem
theorem Hp.fresh {H0 H : Heap} {s : SH} (h : Hp H0 s H) (p : Nat × HO) (hp : p ∈ s) : p.1 ≠ H.next := by
  have := (h.ok p.1 p.2 hp).1
  omega
theorem Hp.alloc {H0 H : Heap} {s : SH} (h : Hp H0 s H) {o' : HO} {o : AObj} (ho : o'.ok (some o)) : Hp H0 ((H.next, o') :: s) (H.new o).2 := by
  refine ⟨Nat.le_trans h.le (by rw [Heap.next_new]; omega), ?_, ?_, ?_⟩
  · intro b x hx
    rw [Heap.next_new, Heap.get_new]
    cases hx with
    | head => grind
    | tail _ hx =>
      obtain ⟨h1, h2⟩ := h.ok b x hx
      grind
  · exact List.pairwise_cons.2 ⟨fun p hp => (h.fresh p hp).symm, h.nd⟩
  · intro b hb hn
    have := h.le
    rw [Heap.get_new, if_neg (by omega)]
    exact h.fr b hb fun o ho => hn o (List.mem_cons_of_mem _ ho)
theorem Hp.upd {H0 H H' : Heap} {s s' : SH} {b : Nat} {o o' : HO} (h : Hp H0 s H) (hu : Upd b o o' s s') {x : Option AObj} (hx : o'.ok x) (hn : H'.next = H.next) (hg : ∀ c, H'.get c = if b = c then x else H.get c) : Hp H0 s' H' := by
  obtain ⟨l, r, rfl, rfl⟩ := hu.split
  have hnd := h.nd
  rw [List.pairwise_append, List.pairwise_cons] at hnd
  obtain ⟨n1, ⟨n2, n3⟩, n4⟩ := hnd
  have hb : b < H.next := (h.ok b o (List.mem_append_right _ (List.mem_cons_self ..))).1
  refine ⟨by rw [hn]; exact h.le, ?_, ?_, ?_⟩
  · intro c y hy
    rw [hn, hg]
    rcases List.mem_append.1 hy with hy | hy
    · have hne : c ≠ b := n4 (c, y) hy (b, o) (List.mem_cons_self ..)
      rw [if_neg (fun e => hne e.symm)]
      exact h.ok c y (List.mem_append_left _ hy)
    · cases hy with
      | head => grind
      | tail _ hy =>
        have hne : b ≠ c := n2 (c, y) hy
        rw [if_neg hne]
        exact h.ok c y (List.mem_append_right _ (List.mem_cons_of_mem _ hy))
  · rw [List.pairwise_append, List.pairwise_cons]
    refine ⟨n1, ⟨n2, n3⟩, fun p hp q hq => ?_⟩
    cases hq with
    | head => exact n4 p hp (b, o) (List.mem_cons_self ..)
    | tail _ hq => exact n4 p hp q (List.mem_cons_of_mem _ hq)
  · intro c hc hcn
    have hbc : b ≠ c := fun e => by
      grind
    rw [hg, if_neg hbc]
    refine h.fr c hc fun y hy => ?_
    rcases List.mem_append.1 hy with hy | hy
    · grind
    grind
theorem Hp.weak {H0 H : Heap} {s s' : SH} (h : Hp H0 s H) (hk : ∀ b o, (b, o) ∈ s' → (b, o) ∈ s ∨ o = .junk ∧ ∃ o', (b, o') ∈ s) (hback : ∀ b o, (b, o) ∈ s → ∃ o', (b, o') ∈ s') (hnd : s'.Pairwise (fun p q => p.1 ≠ q.1)) : Hp H0 s' H := by
  refine ⟨h.le, ?_, hnd, ?_⟩
  · intro b o hb
    rcases hk b o hb with h1 | ⟨rfl, o', h1⟩
    · exact h.ok b o h1
    · exact ⟨(h.ok b o' h1).1, trivial⟩
  · intro b hb hn
    refine h.fr b hb fun o ho => ?_
    grind
theorem Hp.perm {H0 H : Heap} {s s' : SH} (h : Hp H0 s H) (hp : s.Perm s') : Hp H0 s' H :=
  h.weak (fun b o hb => .inl (hp.mem_iff.2 hb)) (fun b o hb => ⟨o, hp.mem_iff.1 hb⟩) ((hp.pairwise_iff (fun hxy => hxy.symm)).1 h.nd)
structure DC where
  o : AOper
  cls : Cls
  lo : Nat
  hi : Nat
  anc : Nat
inductive AC where
  | skip
  | ops (l : List AOper)
  | drawn (nd : Nat) (l : List DC)
  | seq (a b : AC)
  | cond (c : Operand) (a b : AC)
  | block (id : Nat) (b : AC)
  | loop (b : AC)
  | exit (id : Nat)
  | ret
  | rf (g : Operand) (ps : List Nat) (asg body : AC)
  | bad
noncomputable def cg (ops : List Oper) : Option (Nat × Bool) → Option (Option (Nat × Bool))
  | none => some none
  | some (j, w) => match lget ops j with
    | some o => match o.dst with | some d => some (some (d, w)) | none => none
    | none => none
noncomputable def co (P : Program) (nt : Nat) (ops : List Oper) (o : Oper) : Option AOper := match cOper P nt o with
  | ⟨d, op, g⟩ => match cg ops g with
    | some g => some ⟨d, op, g⟩
    | none => none
noncomputable def dcs (ops : List Oper) (anc : Tr Nat) : Nat → List DOp → Option (List DC)
  | _, [] => some []
  | j, d :: r => match cg ops d.o.guard with
    | some g => match anc.get j with
      | some a => match dcs ops anc (j + 1) r with
        | some r' => some (⟨⟨d.o.dst, d.o.op, g⟩, d.cls, d.lo, d.hi, a⟩ :: r')
        | none => none
      | none => none
    | none => none
noncomputable def cdr (P : Program) (nt : Nat) (ops : Array Oper) : AC := match dinfo P nt ops with
  | some I => match dcs ops.toList I.anc 0 I.ops with
    | some l => .drawn I.nd l
    | none => .bad
  | none => .bad
noncomputable def cc (P : Program) (nt : Nat) : Code → AC
  | .skip => .skip
  | .label _ => .skip
  | .region _ ops d => match d with
    | false => (match lmapO (co P nt ops.toList) ops.toList with | some l => .ops l | none => .bad)
    | true => cdr P nt ops
  | .seq a b => .seq (cc P nt a) (cc P nt b)
  | .cond c a b => .cond c (cc P nt a) (cc P nt b)
  | .block id b => .block id (cc P nt b)
  | .loop b => .loop (cc P nt b)
  | .exit id => .exit id
  | .ret => .ret
  | .rangeFunc g ps asg body => .rf g ps.toList (cc P nt asg) (cc P nt body)
  | _ => .bad
abbrev Po := Sl → List ADef → SH → Prop
section
variable {P : Program} {K : Orc} {rd : Option Nat} {nt : Nat} {l : Sl} {ds : List ADef} {s : SH} {Q Qn Qr : Po} {Qe : Nat → Po}
def WS (P : Program) (K : Orc) (op : AOp) (l : Sl) (ds : List ADef) (s : SH) (R : AV → List ADef → SH → Prop) : Prop :=
  ∀ (H0 : Heap) (e : Tr AV) (H : Heap), En l e → Hp H0 s H → ∃ v ds' s' H', OpTo P K e op ds H (.mk v ds' H') ∧ Hp H0 s' H' ∧ R v ds' s'
def WO (P : Program) (K : Orc) (ol : List AOper) (l : Sl) (ds : List ADef) (s : SH) (Q : Po) : Prop :=
  ∀ (nt : Nat) (ops : Array Oper) (l0 : List Oper), lmapO (co P nt ops.toList) l0 = some ol → ∀ (H0 : Heap) (e : Tr AV) (H : Heap), En l e → Hp H0 s H →
    ∃ e' ds' H' l' s', OpsTo P K nt ops l0 e ds H (.mk .normal e' ds' H') ∧ En l' e' ∧ Hp H0 s' H' ∧ Q l' ds' s'
def WP (P : Program) (K : Orc) (rd : Option Nat) (nt : Nat) (c : AC) (l : Sl) (ds : List ADef) (s : SH) (Qn : Po) (Qe : Nat → Po) (Qr : Po) : Prop :=
  ∀ (c0 : Code), cc P nt c0 = c → ∀ (H0 : Heap) (e : Tr AV) (H : Heap), En l e → Hp H0 s H →
    ∃ x e' ds' H' l' s', Runs P K rd nt c0 e ds H (.mk x e' ds' H') ∧ En l' e' ∧ Hp H0 s' H' ∧ (match x with | .normal => Qn l' ds' s' | .exit i => Qe i l' ds' s' | .ret => Qr l' ds' s')
def Tri (P : Program) (K : Orc) (f : FuncId) (args : List AV) (s : SH) (Q : AV → SH → Prop) : Prop :=
  ∀ (H0 H : Heap), Hp H0 s H → ∃ v s' H', CallsTo P K f args H v H' ∧ Hp H0 s' H' ∧ Q v s'
def TriV (P : Program) (K : Orc) (fv : AV) (args : List AV) (s : SH) (Q : AV → SH → Prop) : Prop :=
  ∀ (H0 H : Heap), Hp H0 s H → ∃ v s' H', CallsV P K fv args H v H' ∧ Hp H0 s' H' ∧ Q v s'
theorem TriV.func {f : FuncId} {first cap args : List AV} {Q : AV → SH → Prop} (h : Tri P K f (first ++ (args ++ cap)) s Q) : TriV P K (.func f first cap) args s Q := by
  intro H0 H hH
  obtain ⟨v, s', H', h1, h2, h3⟩ := h H0 H hH
  exact ⟨v, s', H', CallsV.func h1, h2, h3⟩
theorem Tri.post {f : FuncId} {args : List AV} {Q Q' : AV → SH → Prop} (h : Tri P K f args s Q) (hq : ∀ v s', Q v s' → Q' v s') : Tri P K f args s Q' := by
  intro H0 H hH
  obtain ⟨v, s', H', h1, h2, h3⟩ := h H0 H hH
  grind
def AC.isOps : AC → Bool
  | .ops _ => true
  | .drawn _ _ => true
  | .bad => true
  | _ => false
theorem cc_region' {i : Nat} {ops : Array Oper} {d : Bool} : (cc P nt (.region i ops d)).isOps = true := by
  unfold cc
  cases d with
  | false => dsimp only; split <;> rfl
  | true =>
    show (cdr P nt ops).isOps = true
    unfold cdr
    split
    · split <;> rfl
    · rfl
theorem cc_region {i : Nat} {ops : Array Oper} {d : Bool} {c : AC} (h : cc P nt (.region i ops d) = c) (hc : c.isOps = false := by rfl) : False := by
  have := cc_region' (P := P) (nt := nt) (i := i) (ops := ops) (d := d)
  grind
theorem WP.skip (h : Qn l ds s) : WP P K rd nt .skip l ds s Qn Qe Qr := by
  intro c0 hc H0 e H he hH
  cases c0 with
  | skip => exact ⟨_, _, _, _, _, _, Runs.skip, he, hH, h⟩
  | label _ => exact ⟨_, _, _, _, _, _, ⟨1, rfl⟩, he, hH, h⟩
  | region i ops d => exact (cc_region hc).elim
  | _ => simp [cc] at hc
theorem WP.exit {i : Nat} (h : Qe i l ds s) : WP P K rd nt (.exit i) l ds s Qn Qe Qr := by
  intro c0 hc H0 e H he hH
  cases c0 with
  | exit _ => simp only [cc, AC.exit.injEq] at hc; subst hc; exact ⟨_, _, _, _, _, _, Runs.exit _, he, hH, h⟩
  | region i ops d => exact (cc_region hc).elim
  | _ => simp [cc] at hc
theorem WP.ret (h : Qr l ds s) : WP P K rd nt .ret l ds s Qn Qe Qr := by
  intro c0 hc H0 e H he hH
  cases c0 with
  | ret => exact ⟨_, _, _, _, _, _, Runs.ret, he, hH, h⟩
  | region i ops d => exact (cc_region hc).elim
  | _ => simp [cc] at hc
theorem WP.seq {a b : AC} (h : WP P K rd nt a l ds s (fun l ds s => WP P K rd nt b l ds s Qn Qe Qr) Qe Qr) : WP P K rd nt (.seq a b) l ds s Qn Qe Qr := by
  intro c0 hc H0 e H he hH
  cases c0 with
  | seq a0 b0 =>
    simp only [cc, AC.seq.injEq] at hc
    obtain ⟨x, e1, ds1, H1, l1, s1, h1, h2, h3, h4⟩ := h a0 hc.1 H0 e H he hH
    cases x with
    | normal =>
      obtain ⟨x, e2, ds2, H2, l2, s2, k1, k2, k3, k4⟩ := h4 b0 hc.2 H0 e1 H1 h2 h3
      exact ⟨x, e2, ds2, H2, l2, s2, Runs.seq h1 k1, k2, k3, k4⟩
    | exit i => exact ⟨_, _, _, _, _, _, Runs.stop h1 (by grind), h2, h3, h4⟩
    | ret => exact ⟨_, _, _, _, _, _, Runs.stop h1 (by grind), h2, h3, h4⟩
  | region i ops d => exact (cc_region hc).elim
  | _ => simp [cc] at hc
theorem WP.cond {c : Operand} {a b : AC} {t : Bool} (hx : opl l c = some (.bool t)) (h1 : t = true → WP P K rd nt a l ds s Qn Qe Qr) (h2 : t = false → WP P K rd nt b l ds s Qn Qe Qr) : WP P K rd nt (.cond c a b) l ds s Qn Qe Qr := by
  intro c0 hc H0 e H he hH
  cases c0 with
  | cond c1 a0 b0 =>
    simp only [cc, AC.cond.injEq] at hc
    obtain ⟨rfl, ha, hb⟩ := hc
    cases t with
    | true =>
      obtain ⟨x, e1, ds1, H1, l1, s1, k1, k2, k3, k4⟩ := h1 rfl a0 ha H0 e H he hH
      exact ⟨_, _, _, _, _, _, Runs.yes (opl_ok he hx) k1, k2, k3, k4⟩
    | false =>
      obtain ⟨x, e1, ds1, H1, l1, s1, k1, k2, k3, k4⟩ := h2 rfl b0 hb H0 e H he hH
      exact ⟨_, _, _, _, _, _, Runs.no (opl_ok he hx) k1, k2, k3, k4⟩
  | region i ops d => exact (cc_region hc).elim
  | _ => simp [cc] at hc
theorem WP.block {id : Nat} {b : AC} (h : WP P K rd nt b l ds s Qn (fun i l ds s => match Nat.beq i id with | true => Qn l ds s | false => Qe i l ds s) Qr) : WP P K rd nt (.block id b) l ds s Qn Qe Qr := by
  intro c0 hc H0 e H he hH
  cases c0 with
  | block i0 b0 =>
    simp only [cc, AC.block.injEq] at hc
    obtain ⟨rfl, hb⟩ := hc
    obtain ⟨x, e1, ds1, H1, l1, s1, k1, k2, k3, k4⟩ := h b0 hb H0 e H he hH
    cases x with
    | normal => exact ⟨_, _, _, _, _, _, Runs.block k1, k2, k3, k4⟩
    | ret => exact ⟨_, _, _, _, _, _, Runs.block_ret k1, k2, k3, k4⟩
    | exit i =>
      cases hi : Nat.beq i i0 with
      | true =>
        have : i = i0 := Nat.eq_of_beq_eq_true hi
        subst this
        dsimp only at k4
        rw [hi] at k4
        exact ⟨_, _, _, _, _, _, Runs.block_exit k1, k2, k3, k4⟩
      | false =>
        dsimp only at k4
        rw [hi] at k4
        exact ⟨_, _, _, _, _, _, Runs.block_other hi k1, k2, k3, k4⟩
  | region i ops d => exact (cc_region hc).elim
  | _ => simp [cc] at hc
theorem WP.loop {b : AC} (I : Nat → Po) (h : ∀ n l ds s, I n l ds s → WP P K rd nt b l ds s (fun l ds s => ∃ m, m < n ∧ I m l ds s) Qe Qr) {n : Nat} (h0 : I n l ds s) : WP P K rd nt (.loop b) l ds s Qn Qe Qr := by
  intro c0 hc H0 e H he hH
  cases c0 with
  | loop b0 =>
    simp only [cc, AC.loop.injEq] at hc
    have key : ∀ (n : Nat) (l : Sl) (ds : List ADef) (s : SH) (e : Tr AV) (H : Heap), I n l ds s → En l e → Hp H0 s H →
        ∃ x e' ds' H' l' s', Runs P K rd nt (.loop b0) e ds H (.mk x e' ds' H') ∧ En l' e' ∧ Hp H0 s' H' ∧ (match x with | .normal => Qn l' ds' s' | .exit i => Qe i l' ds' s' | .ret => Qr l' ds' s') := by
      intro n
      induction n using Nat.strongRecOn with
      | _ n ih =>
        intro l ds s e H hI he hH
        obtain ⟨x, e1, ds1, H1, l1, s1, k1, k2, k3, k4⟩ := h n l ds s hI b0 hc H0 e H he hH
        cases x with
        | normal =>
          obtain ⟨m, hm, hI'⟩ := k4
          obtain ⟨x, e2, ds2, H2, l2, s2, j1, j2, j3, j4⟩ := ih m hm _ _ _ _ _ hI' k2 k3
          exact ⟨_, _, _, _, _, _, Runs.again k1 j1, j2, j3, j4⟩
        | exit i => exact ⟨_, _, _, _, _, _, Runs.out k1 (by grind), k2, k3, k4⟩
        | ret => exact ⟨_, _, _, _, _, _, Runs.out k1 (by grind), k2, k3, k4⟩
    grind
  | region i ops d => exact (cc_region hc).elim
  | _ => simp [cc] at hc
theorem WP.ops {ol : List AOper} (h : WO P K ol l ds s Qn) : WP P K rd nt (.ops ol) l ds s Qn Qe Qr := by
  intro c0 hc H0 e H he hH
  cases c0 with
  | region i ops d =>
    cases d with
    | true =>
      exfalso
      have hc : cdr P nt ops = .ops ol := hc
      unfold cdr at hc
      grind
    | false =>
      have hc : (match lmapO (co P nt ops.toList) ops.toList with | some l => AC.ops l | none => .bad) = .ops ol := hc
      split at hc
      · rename_i l' hl'
        cases hc
        obtain ⟨e', ds', H', l', s', h1, h2, h3, h4⟩ := h nt ops ops.toList hl' H0 e H he hH
        exact ⟨_, _, _, _, _, _, Runs.region h1, h2, h3, h4⟩
      · cases hc
  | _ => simp [cc] at hc
theorem WP.weak {c : AC} {l' : Sl} {s' : SH} (hl : ∀ i v, lk l' i = some v → lk l i = some v) (hs : ∀ H0 H, Hp H0 s H → Hp H0 s' H) (h : WP P K rd nt c l' ds s' Qn Qe Qr) : WP P K rd nt c l ds s Qn Qe Qr :=
  fun c0 hc H0 e H he hH => h c0 hc H0 e H (fun i v hi => he i v (hl i v hi)) (hs H0 H hH)
theorem WP.post {c : AC} {Qn' Qr' : Po} {Qe' : Nat → Po} (h : WP P K rd nt c l ds s Qn Qe Qr) (hn : ∀ l ds s, Qn l ds s → Qn' l ds s) (he : ∀ i l ds s, Qe i l ds s → Qe' i l ds s) (hr : ∀ l ds s, Qr l ds s → Qr' l ds s) : WP P K rd nt c l ds s Qn' Qe' Qr' := by
  intro c0 hc H0 e H h1 h2
  obtain ⟨x, e1, ds1, H1, l1, s1, k1, k2, k3, k4⟩ := h c0 hc H0 e H h1 h2
  grind
theorem WO.nil (h : Q l ds s) : WO P K [] l ds s Q := by
  intro nt ops l0 hl H0 e H he hH
  cases l0 with
  | nil => exact ⟨_, _, _, _, _, OpsTo.nil, he, hH, h⟩
  | cons a l0 =>
    obtain ⟨b, bs, _, _, h3⟩ := (lmapO_cons _ a l0 _).1 hl
    cases h3
theorem WO.cons {d : Option Nat} {op : AOp} {rest : List AOper} (h : WS P K op l ds s (fun v ds' s' => WO P K rest (pl d v l) ds' s' Q)) : WO P K (⟨d, op, none⟩ :: rest) l ds s Q := by
  intro nt ops l0 hl H0 e H he hH
  cases l0 with
  | nil => cases hl
  | cons a l0 =>
    obtain ⟨b, bs, h1, h2, h3⟩ := (lmapO_cons _ a l0 _).1 hl
    cases h3
    have hc : cOper P nt a = ⟨d, op, none⟩ := by
      unfold co at h1
      generalize cOper P nt a = z at h1 ⊢
      obtain ⟨d', op', g'⟩ := z
      cases g' with
      | none => cases h1; rfl
      | some jw =>
        unfold cg at h1
        grind
    obtain ⟨v, ds1, s1, H1, k1, k2, k3⟩ := h H0 e H he hH
    obtain ⟨e', ds', H', l', s', j1, j2, j3, j4⟩ := k3 nt ops l0 h2 H0 (putO e d v) H1 (he.putO d v) k2
    exact ⟨_, _, _, _, _, OpsTo.cons hc rfl k1 j1, j2, j3, j4⟩
theorem WO.guard {d : Option Nat} {op : AOp} {j : Nat} {w b : Bool} {rest : List AOper} (hj : lk l j = some (.bool b)) (h1 : b = w → WO P K (⟨d, op, none⟩ :: rest) l ds s Q) (h2 : b ≠ w → WO P K rest (pl d .undef l) ds s Q) :
    WO P K (⟨d, op, some (j, w)⟩ :: rest) l ds s Q := by
  intro nt ops l0 hl H0 e H he hH
  cases l0 with
  | nil => cases hl
  | cons a l0 =>
    obtain ⟨c, cs, g1, g2, g3⟩ := (lmapO_cons _ a l0 _).1 hl
    cases g3
    obtain ⟨k, hc, hk⟩ : ∃ k, cOper P nt a = ⟨d, op, some (k, w)⟩ ∧ ∃ o, lget ops.toList k = some o ∧ o.dst = some j := by
      unfold co at g1
      generalize cOper P nt a = z at g1 ⊢
      obtain ⟨d', op', g'⟩ := z
      cases g' with
      | none => cases g1
      | some kw =>
        unfold cg at g1
        grind
    obtain ⟨o, ho, hd⟩ := hk
    have hw : wanted e ops (some (k, w)) = some (b == w) := by
      unfold wanted
      simp only [ho, hd, he j _ hj]
    by_cases hb : b = w
    · subst hb
      have hc' : cOper P nt { a with guard := none } = ⟨d, op, none⟩ := by
        have key : cOper P nt { a with guard := none } = { cOper P nt a with guard := none } := by
          unfold cOper
          grind
        rw [key, hc]
      have hl' : lmapO (co P nt ops.toList) ({ a with guard := none } :: l0) = some (⟨d, op, none⟩ :: rest) :=
        (lmapO_cons _ _ _ _).2 ⟨_, _, by unfold co; rw [hc']; rfl, g2, rfl⟩
      obtain ⟨e', ds', H', l', s', ⟨n, j1⟩, j2, j3, j4⟩ := h1 rfl nt ops _ hl' H0 e H he hH
      refine ⟨e', ds', H', l', s', ⟨n, ?_⟩, j2, j3, j4⟩
      have hs : opStep P (ev P K n) nt ops (.mk .normal e ds H) a = opStep P (ev P K n) nt ops (.mk .normal e ds H) { a with guard := none } := by
        unfold opStep
        simp only [hc, hc', hw, beq_self_eq_true]
        rfl
      rw [lfold_cons] at j1 ⊢
      grind
    · obtain ⟨e', ds', H', l', s', j1, j2, j3, j4⟩ := h2 hb nt ops l0 g2 H0 (putO e d .undef) H (he.putO d .undef) hH
      have hw : wanted e ops (some (k, w)) = some false := by
        grind
      exact ⟨_, _, _, _, _, OpsTo.pass hc hw j1, j2, j3, j4⟩
end
end Go.Ev
namespace Go.Ev
section
variable {P : Program} {K : Orc} {rd : Option Nat} {nt : Nat} {l : Sl} {ds : List ADef} {s : SH} {Q Qn Qr : Po} {Qe : Nat → Po}
variable {R : AV → List ADef → SH → Prop}
def Quiet (op : AOp) : Prop := ∀ (P : Program) (ih : EvF) (ρ : Operand → Option AV) ds H, oper P ih ρ op ds H = match aval P H ρ op with | some (v, H') => some (.mk v ds H') | none => none
structure WR (P : Program) (op : AOp) (l : Sl) (s : SH) (v : AV) : Prop where
  q : Quiet op
  h : ∀ (H0 : Heap) (e : Tr AV) (H : Heap), En l e → Hp H0 s H → aval P H (opv e) op = some (v, H)
theorem WR.mk' {op : AOp} {v : AV} (hq : Quiet op) (h : ∀ e H, En l e → aval P H (opv e) op = some (v, H)) : WR P op l s v := ⟨hq, fun _ e H he _ => h e H he⟩
theorem WS.r {op : AOp} {v : AV} (h : WR P op l s v) (k : R v ds s) : WS P K op l ds s R :=
  fun H0 e H he hH => ⟨v, ds, s, H, ⟨0, by rw [h.q, h.h H0 e H he hH]⟩, hH, k⟩
theorem WO.r {d : Option Nat} {op : AOp} {rest : List AOper} {v : AV} (h : WR P op l s v) (k : WO P K rest (pl d v l) ds s Q) : WO P K (⟨d, op, none⟩ :: rest) l ds s Q := WO.cons (WS.r h k)
def WA (op : AOp) (l : Sl) (ho : HO) (f : Nat → AV) : Prop := Quiet op ∧ (∀ (P : Program) (H : Heap) (ρ : Operand → Option AV), aval P H ρ op = match allocOf ρ op with | some (o, f) => (match H.new o with | (b, H') => some (f b, H')) | none => none) ∧ ∀ e, En l e → ∃ o, allocOf (opv e) op = some (o, f) ∧ ho.ok (some o)
theorem WO.a {d : Option Nat} {op : AOp} {rest : List AOper} {ho : HO} {f : Nat → AV} (h : WA op l ho f) (k : ∀ b, WO P K rest (pl d (f b) l) ds ((b, ho) :: s) Q) : WO P K (⟨d, op, none⟩ :: rest) l ds s Q :=
  WO.cons fun H0 e H he hH => by
    obtain ⟨o, h1, h2⟩ := h.2.2 e he
    refine ⟨f H.next, ds, _, _, ⟨0, ?_⟩, hH.alloc h2, k _⟩
    rw [h.1, h.2.1, h1]
    rfl
theorem WO.w {d : Option Nat} {op : AOp} {rest : List AOper} (h : WS P K op l ds s (fun v ds' s' => WO P K rest (pl d v l) ds' s' Q)) : WO P K (⟨d, op, none⟩ :: rest) l ds s Q := WO.cons h
theorem WR.mv {x : Operand} {v : AV} (hx : opl l x = some v) : WR P (.mv x) l s v :=
  WR.mk' (fun _ _ _ _ _ => rfl) (fun e H he => by simp only [aval, opl_ok he hx])
theorem WR.pick1 {c a b : Operand} {v : AV} (hc : opl l c = some (.bool true)) (hx : opl l a = some v) : WR P (.pick c a b) l s v :=
  WR.mk' (fun _ _ _ _ _ => rfl) (fun e H he => by simp only [aval, opl_ok he hc, opl_ok he hx])
theorem WR.pick0 {c a b : Operand} {v : AV} (hc : opl l c = some (.bool false)) (hx : opl l b = some v) : WR P (.pick c a b) l s v :=
  WR.mk' (fun _ _ _ _ _ => rfl) (fun e H he => by simp only [aval, opl_ok he hc, opl_ok he hx])
noncomputable def bparts (l : Sl) (parts : List (Nat × Nat × Operand)) : Option (List (Nat × List AV)) := lmapO (fun p => match opl l p.2.2 with
  | some v => match partCells p.2.1 v with | some cs => some (p.1, cs) | none => none
  | none => none) parts
theorem bparts_ok {e : Tr AV} (he : En l e) {parts : List (Nat × Nat × Operand)} {ps : List (Nat × List AV)} (h : bparts l parts = some ps) : lmapO (fun p : Nat × Nat × Operand => match opv e p.2.2 with
  | some v => match partCells p.2.1 v with | some cs => some (p.1, cs) | none => none
  | none => none) parts = some ps := by
  refine lmapO_mono (fun p r hr => ?_) _ _ h
  split at hr
  · rename_i v hv
    rw [opl_ok he hv]
    exact hr
  · cases hr
theorem WR.build {z : List AV} {parts : List (Nat × Nat × Operand)} {ps : List (Nat × List AV)} {cs : List AV} (hp : bparts l parts = some ps) (hc : fillC z ps = some cs) : WR P (.build z parts) l s (.agg cs) :=
  WR.mk' (fun _ _ _ _ _ => rfl) (fun e H he => (congrArg (fun r => match r with | some l => (match fillC z l with | some cs => some (AV.agg cs, H) | none => none) | none => none) (bparts_ok he hp)).trans (by simp only [hc]))
def nnil : AV → Bool
  | .ptr none => false
  | .nilIface => false
  | .nilFunc => false
  | .mfunc _ _ => false
  | _ => true
def ntup : AV → Bool
  | .tuple _ => false
  | _ => true
theorem WR.nilchk {x : Operand} {v : AV} (hx : opl l x = some v) (hn : nnil v = true) : WR P (.nilchk x) l s v := by
  refine WR.mk' (fun _ _ _ _ _ => rfl) (fun e H he => ?_)
  simp only [aval, opl_ok he hx]
  unfold nnil at hn
  grind
theorem WR.arith {op : BinOp} {x y : Operand} {u w v : AV} (hx : opl l x = some u) (hy : opl l y = some w) (hv : binV op u w = some v) : WR P (.arith op x y) l s v :=
  WR.mk' (fun _ _ _ _ _ => rfl) (fun e H he => by simp only [aval, opl_ok he hx, opl_ok he hy, hv])
@[reducible] def negB (neg b : Bool) : Bool := match neg with | true => !b | false => b
theorem WR.eql {neg : Bool} {p : EqP} {x y : Operand} {u w : AV} {b : Bool} (hx : opl l x = some u) (hy : opl l y = some w) (hv : eqBy 20 p u w = some b) : WR P (.eql neg p x y) l s (.bool (negB neg b)) :=
  WR.mk' (fun _ _ _ _ _ => rfl) (fun e H he => by simp only [aval, opl_ok he hx, opl_ok he hy, hv]; rfl)
theorem WR.un {op : UnOp} {x : Operand} {u v : AV} (hx : opl l x = some u) (hv : unV op u = some v) : WR P (.un op x) l s v :=
  WR.mk' (fun _ _ _ _ _ => rfl) (fun e H he => by simp only [aval, opl_ok he hx, hv])
theorem WR.convI {q j : IntKind} {x : Operand} {n : Int} {v : AV} (hx : opl l x = some (.int j n)) (hv : mkI q n = some v) : WR P (.convI q x) l s v :=
  WR.mk' (fun _ _ _ _ _ => rfl) (fun e H he => by simp only [aval, opl_ok he hx, hv])
theorem WR.mkif {t : TypeId} {x : Operand} {v : AV} (hx : opl l x = some v) (hn : ntup v = true) : WR P (.mkif t x) l s (.iface t v) := by
  refine WR.mk' (fun _ _ _ _ _ => rfl) (fun e H he => ?_)
  simp only [aval, opl_ok he hx]
  cases v <;> first | rfl | cases hn
theorem WR.mkfn {f : FuncId} {a b : List Operand} {va vb : List AV} (ha : lmapO (opl l) a = some va) (hb : lmapO (opl l) b = some vb) : WR P (.mkfn f a b) l s (.func f va vb) :=
  WR.mk' (fun _ _ _ _ _ => rfl) (fun e H he => by simp only [aval, opls_ok he ha, opls_ok he hb])
theorem WR.faddr {off : Nat} {x : Operand} {b r o : Nat} (hx : opl l x = some (.ptr (some ⟨b, r, o⟩))) : WR P (.faddr off x) l s (.ptr (some ⟨b, r, Nat.add o off⟩)) :=
  WR.mk' (fun _ _ _ _ _ => rfl) (fun e H he => by simp only [aval, opl_ok he hx])
theorem WR.fld {off n : Nat} {g : Bool} {x : Operand} {cs : List AV} {v : AV} (hx : opl l x = some (.agg cs)) (hv : part g cs off n = some v) : WR P (.fld off n g x) l s v :=
  WR.mk' (fun _ _ _ _ _ => rfl) (fun e H he => by simp only [aval, opl_ok he hx, hv])
theorem WR.iaddrS {sz : Nat} {x i : Operand} {b r n c : Nat} {sl : Bool} {q : IntKind} {j : Nat} (hx : opl l x = some (.slice (some ⟨b, r, 0⟩) n c sl sz)) (hi : opl l i = some (.int q (.ofNat j))) (hj : j < n) (hs : sz ≠ 0) : WR P (.iaddrS sz x i) l s (.ptr (some ⟨b, Nat.add r j, 0⟩)) := by
  refine WR.mk' (v := .ptr (some ⟨b, Nat.add r j, 0⟩)) (fun _ _ _ _ _ => rfl) (fun e H he => ?_)
  have h1 : Nat.blt j n = true := Nat.ble_eq_true_of_le hj
  simp only [aval, opl_ok he hx, opl_ok he hi, h1, elemAt]
  simp_all
theorem WR.idxA {n sz : Nat} {g : Bool} {x i : Operand} {cs : List AV} {q : IntKind} {j : Nat} {v : AV} (hx : opl l x = some (.agg cs)) (hi : opl l i = some (.int q (.ofNat j))) (hj : j < n) (hv : part g cs (Nat.mul j sz) sz = some v) : WR P (.idxA n sz g x i) l s v := by
  have h1 : Nat.blt j n = true := Nat.ble_eq_true_of_le hj
  exact WR.mk' (fun _ _ _ _ _ => rfl) (fun e H he => by simp only [aval, opl_ok he hx, opl_ok he hi, h1, hv])
theorem WR.extract {x : Operand} {i : Nat} {vs : List AV} {v : AV} (hx : opl l x = some (.tuple vs)) (hv : lget vs i = some v) : WR P (.extract x i) l s v :=
  WR.mk' (fun _ _ _ _ _ => rfl) (fun e H he => by simp only [aval, opl_ok he hx, hv])
def lenOf : AV → Option Nat
  | .slice _ n _ _ _ => some n
  | .empty => some 0
  | _ => none
theorem WR.lenS {x : Operand} {v : AV} {n : Nat} (hx : opl l x = some v) (hn : lenOf v = some n) : WR P (.lenS x) l s (.int .i64 (.ofNat n)) := by
  refine WR.mk' (fun _ _ _ _ _ => rfl) (fun e H he => ?_)
  simp only [aval, opl_ok he hx]
  cases v <;> cases hn <;> rfl
theorem bndOl_le {ρ ρ' : Operand → Option AV} (hρ : ∀ x v, ρ x = some v → ρ' x = some v) {y d n : Nat} {x : Option Operand} (h : bndO ρ y d x = some n) : bndO ρ' y d x = some n := by
  cases x with
  | none => exact h
  | some x =>
    unfold bndO at h ⊢
    grind
theorem WR.slc_hi {sz : Nat} {x : Operand} {lo hi : Option Operand} {a : Option Pl} {n c m : Nat} {sl : Bool} {rw : Nat} (hx : opl l x = some (.slice a n c sl rw)) (hh : bndO (opl l) c n hi = some m) (hl : bndO (opl l) m 0 lo = some 0) : WR P (.slc sz x lo hi none) l s (.slice a m c sl rw) := by
  refine WR.mk' (v := .slice a m c sl rw) (fun _ _ _ _ _ => rfl) (fun e H he => ?_)
  simp only [aval, opl_ok he hx, bndOl_le (fun _ _ h => opl_ok he h) hh, bndOl_le (fun _ _ h => opl_ok he h) hl, force_eq]
  rfl
theorem WR.slc_lo {sz : Nat} {x : Operand} {lo hi : Option Operand} {b r n c m j : Nat} {sl : Bool} (hx : opl l x = some (.slice (some ⟨b, r, 0⟩) n c sl sz)) (hh : bndO (opl l) c n hi = some m) (hl : bndO (opl l) m 0 lo = some j) (h0 : j ≠ 0) (hj : j < c) (hs : sz ≠ 0) : WR P (.slc sz x lo hi none) l s (.slice (some ⟨b, Nat.add r j, 0⟩) (m - j) (c - j) sl sz) := by
  refine WR.mk' (v := .slice (some ⟨b, Nat.add r j, 0⟩) (m - j) (c - j) sl sz) (fun _ _ _ _ _ => rfl) (fun e H he => ?_)
  have h1 : Nat.beq j 0 = false := by
    cases j with
    | zero => grind
    | succ j => rfl
  have h2 : Nat.blt j c = true := Nat.ble_eq_true_of_le hj
  simp only [aval, opl_ok he hx, bndOl_le (fun _ _ h => opl_ok he h) hh, bndOl_le (fun _ _ h => opl_ok he h) hl, force_eq, h1, h2, elemAt]
  simp_all
theorem WR.look {kk : EqP} {z : AV} {ok : Bool} {m q : Operand} {b : Nat} {kv : AV} {es : List (AV × AV)} {o : Option AV} (hm : opl l m = some (.map (some b))) (hk : opl l q = some kv) (hb : Has b (.m es) s) (hl : lookIn kk kv es = some o) : WR P (.look kk z ok m q) l s (match o with | some v => withOk ok v true | none => withOk ok z false) := by
  refine ⟨fun _ _ _ _ _ => rfl, fun H0 e H he hH => ?_⟩
  have hg : H.get b = some (.map es) := (hH.has hb).2
  simp only [aval, opl_ok he hm, opl_ok he hk, hg, hl]
  grind
theorem HO.read {H : Heap} {ro : Bool} {L : List (List AV)} {sz b r o n : Nat} {row cs : List AV} (h : (HO.r ro L sz).ok (H.get b)) (hr : L[r]? = some row) (hc : ltake n (ldrop o row) = some cs) : H.read ⟨b, r, o⟩ n = some cs := by
  obtain ⟨t, h1, h2⟩ := h
  have hlt : r < L.length := (List.getElem?_eq_some_iff.1 hr).1
  unfold Heap.read
  simp only [h1, (h2 r row hr).1, show Nat.blt r L.length = true from Nat.ble_eq_true_of_le hlt, hc]
def ldv (g : Bool) (cs : List AV) : Option AV := match g with
  | true => some (.agg cs)
  | false => match cs with | [v] => some v | _ => none
theorem WR.load {g ro : Bool} {n : Nat} {x : Operand} {b r o sz : Nat} {L : List (List AV)} {row cs : List AV} {v : AV} (hx : opl l x = some (.ptr (some ⟨b, r, o⟩))) (hb : Has b (.r ro L sz) s) (hr : L[r]? = some row) (hc : ltake n (ldrop o row) = some cs) (hv : ldv g cs = some v) : WR P (.load g n x) l s v := by
  refine ⟨fun _ _ _ _ _ => rfl, fun H0 e H he hH => ?_⟩
  have hg := HO.read (hH.has hb).2 hr hc
  simp only [aval, opl_ok he hx, hg]
  cases g with
  | true => cases hv; rfl
  | false =>
    unfold ldv at hv
    grind
theorem lput_len {row cs row' : List AV} {o : Nat} (h : lput row o cs = some row') : row'.length = row.length := by
  obtain ⟨h1, h2⟩ := lput_eq h
  grind
theorem HO.write {H H0 : Heap} {s s' : SH} (hH : Hp H0 s H) {L : List (List AV)} {sz b r o : Nat} {row row' cs : List AV} (hr : L[r]? = some row) (hc : lput row o cs = some row') (hb : Upd b (.r false L sz) (.r false (L.set r row') sz) s s') :
    ∃ H', H.write ⟨b, r, o⟩ cs = some H' ∧ Hp H0 s' H' := by
  obtain ⟨x, y, rfl, rfl⟩ := hb.split
  obtain ⟨hlt, t, h1, h2⟩ := hH.ok b _ (List.mem_append_right _ (List.mem_cons_self ..))
  have hl : r < L.length := (List.getElem?_eq_some_iff.1 hr).1
  refine ⟨H.put b (.rows (t.put r row') L.length sz false), ?_, hH.upd hb (x := some (.rows (t.put r row') L.length sz false)) ?_ rfl fun c => ?_⟩
  · unfold Heap.write
    simp only [h1, (h2 r row hr).1, show Nat.blt r L.length = true from Nat.ble_eq_true_of_le hl, hc]
  · refine ⟨t.put r row', by grind, fun i w hw => ?_⟩
    rw [Tr.get_put]
    rw [List.getElem?_set] at hw
    by_cases hi : r = i
    · rw [if_pos hi] at hw ⊢
      rw [if_pos hl] at hw
      cases hw
      exact ⟨rfl, by rw [lput_len hc]; grind⟩
    grind
  · rw [Heap.get_put]
theorem WS.store {n : Nat} {a x : Operand} {b r o sz : Nat} {L : List (List AV)} {row row' cs : List AV} {v : AV} {s' : SH} (ha : opl l a = some (.ptr (some ⟨b, r, o⟩))) (hx : opl l x = some v) (hv : partCells n v = some cs) (hb : Upd b (.r false L sz) (.r false (L.set r row') sz) s s') (hr : L[r]? = some row) (hc : lput row o cs = some row')
    (k : R .undef ds s') : WS P K (.store n a x) l ds s R := by
  intro H0 e H he hH
  obtain ⟨H', h1, h2⟩ := HO.write hH hr hc hb
  refine ⟨.undef, ds, s', H', ⟨0, ?_⟩, h2, k⟩
  show (match aval P H (opv e) (.store n a x) with | some (v, H') => some (OR.mk v ds H') | none => none) = _
  simp only [aval, opl_ok he ha, opl_ok he hx, hv, h1]
theorem lay_row {cs : List AV} {n : Nat} (h : cs.length = n) : (HO.r false [cs] n).ok (some (.rows (Tr.lf.put 0 cs) 1 n false)) := by
  refine ⟨_, rfl, fun i row hi => ?_⟩
  match i, hi with
  | 0, hi => cases hi; exact ⟨Tr.get_put_same _ _ _, h⟩
theorem WA.alloc {n : Nat} {cs : List AV} (hl : cs.length = n) : WA (.alloc n cs) l (.r false [cs] n) (fun b => .ptr (some ⟨b, 0, 0⟩)) :=
  ⟨fun _ _ _ _ _ => rfl, fun _ _ _ => rfl, fun e he => ⟨_, rfl, lay_row hl⟩⟩
theorem partCells_len {n : Nat} {v : AV} {cs : List AV} (h : partCells n v = some cs) : cs.length = n := by
  unfold partCells at h
  split at h
  · rename_i xs
    split at h
    · rename_i hb
      cases h
      rw [llen_eq] at hb
      exact Nat.eq_of_beq_eq_true hb
    · cases h
  · cases h
  grind
theorem WA.box {n : Nat} {x : Operand} {v : AV} {cs : List AV} (hx : opl l x = some v) (hc : partCells n v = some cs) : WA (.box n x) l (.r false [cs] n) (fun b => .ptr (some ⟨b, 0, 0⟩)) :=
  ⟨fun _ _ _ _ _ => rfl, fun _ _ _ => rfl, fun e he => ⟨_, by simp only [allocOf, opl_ok he hx, hc], lay_row (partCells_len hc)⟩⟩
theorem WA.mkmap : WA .mkmap l (.m []) (fun b => .map (some b)) :=
  ⟨fun _ _ _ _ _ => rfl, fun _ _ _ => rfl, fun e he => ⟨_, rfl, rfl⟩⟩
theorem WS.ins {lit : Bool} {kk : EqP} {m q x : Operand} {b : Nat} {kv v : AV} {es es' : List (AV × AV)} {s' : SH} (hm : opl l m = some (.map (some b))) (hk : opl l q = some kv) (hx : opl l x = some v) (hb : Upd b (.m es) (.m es') s s') (hp : putIn kk kv v es = some es')
    (k : R .undef ds s') : WS P K (.ins lit kk m q x) l ds s R := by
  intro H0 e H he hH
  have hg : H.get b = some (.map es) := by
    obtain ⟨x, y, rfl, rfl⟩ := hb.split
    exact (hH.ok b _ (List.mem_append_right _ (List.mem_cons_self ..))).2
  refine ⟨.undef, ds, s', H.put b (.map es'), ⟨0, ?_⟩, hH.upd hb (x := some (.map es')) rfl rfl (fun c => Heap.get_put _ _ _ _), k⟩
  show (match aval P H (opv e) (.ins lit kk m q x) with | some (v, H') => some (OR.mk v ds H') | none => none) = _
  simp only [aval, opl_ok he hm, opl_ok he hk, opl_ok he hx, hg, hp]
noncomputable def bsrows (l : Sl) (sz : Nat) : Nat → List (Nat × Operand) → Option (List (List AV))
  | _, [] => some []
  | i, (j, x) :: ps => match Nat.beq i j with
    | true => match opl l x with
      | some v => match partCells sz v with
        | some cs => match bsrows l sz (i + 1) ps with | some r => some (cs :: r) | none => none
        | none => none
      | none => none
    | false => none
theorem bsrows_ok {e : Tr AV} (he : En l e) {sz len : Nat} : ∀ (ps : List (Nat × Operand)) (i : Nat) (L : List (List AV)), bsrows l sz i ps = some L → i + ps.length ≤ len →
    ∃ r, lmapO (fun p : Nat × Operand => match opv e p.2 with
        | some v => match partCells sz v with
          | some cs => match Nat.blt p.1 len with | true => some (p.1, cs) | false => none
          | none => none
        | none => none) ps = some r ∧ L.length = ps.length ∧ ∀ t : Tr (List AV), ∃ t', lfold (fun (t : Tr (List AV)) (p : Nat × List AV) => some (t.put p.1 p.2)) r t = some t' ∧ ∀ (j : Nat) row, L[j]? = some row → t'.get (i + j) = some row ∧ row.length = sz := by
  intro ps
  induction ps with
  | nil => intro i L h _; cases h; exact ⟨[], rfl, rfl, fun t => ⟨t, rfl, fun j row hj => by simp at hj⟩⟩
  | cons p ps ih =>
    obtain ⟨j, x⟩ := p
    intro i L h hlen
    unfold bsrows at h
    split at h
    · rename_i hij
      have hij : i = j := Nat.eq_of_beq_eq_true hij
      subst hij
      split at h
      · rename_i v hv
        split at h
        · rename_i cs hcs
          split at h
          · rename_i r0 hr0
            cases h
            simp only [List.length_cons] at hlen
            obtain ⟨r, h1, h2, h3⟩ := ih (i + 1) r0 hr0 (by omega)
            refine ⟨(i, cs) :: r, (lmapO_cons _ _ _ _).2 ⟨(i, cs), r, ?_, h1, rfl⟩, by simp [h2], fun t => ?_⟩
            · simp only [opl_ok he hv, hcs, show Nat.blt i len = true from Nat.ble_eq_true_of_le (by omega)]
            · obtain ⟨t', k1, k2⟩ := h3 (t.put i cs)
              refine ⟨t', (lfold_cons _ _ _ _ _).2 ⟨_, rfl, k1⟩, fun q row hq => ?_⟩
              cases q with
              | zero =>
                cases hq
                refine ⟨?_, partCells_len hcs⟩
                have keep : ∀ (r : List (Nat × List AV)) (t t' : Tr (List AV)), lfold (fun (t : Tr (List AV)) (p : Nat × List AV) => some (t.put p.1 p.2)) r t = some t' → (∀ p ∈ r, i < p.1) → t'.get i = t.get i := by
                  intro r
                  induction r with
                  | nil => intro t t' h _; cases h; rfl
                  | cons p r ihr =>
                    intro t t' h hp
                    obtain ⟨b, hb1, hb2⟩ := (lfold_cons _ _ _ _ _).1 h
                    cases hb1
                    rw [ihr _ _ hb2 (fun p hp' => hp p (List.mem_cons_of_mem _ hp')), Tr.get_put, if_neg]
                    grind
                have hgt : ∀ (ps : List (Nat × Operand)) (k : Nat) (L : List (List AV)) (r : List (Nat × List AV)), bsrows l sz k ps = some L → lmapO (fun p : Nat × Operand => match opv e p.2 with
                    | some v => match partCells sz v with
                      | some cs => match Nat.blt p.1 len with | true => some (p.1, cs) | false => none
                      | none => none
                    | none => none) ps = some r → i < k → ∀ p ∈ r, i < p.1 := by
                  intro ps
                  induction ps with
                  | nil => intro k L r _ hr _ p hp; cases hr; cases hp
                  | cons q ps ihp =>
                    obtain ⟨j, x⟩ := q
                    intro k L r hb hr hk p hp
                    obtain ⟨b, bs, g1, g2, rfl⟩ := (lmapO_cons _ _ _ _).1 hr
                    unfold bsrows at hb
                    split at hb
                    · rename_i hkj
                      have hkj : k = j := Nat.eq_of_beq_eq_true hkj
                      split at hb
                      · split at hb
                        · split at hb
                          · rename_i r1 hr1
                            cases hp with
                            | head =>
                              grind
                            | tail _ hp => exact ihp (k + 1) r1 bs hr1 g2 (by omega) p hp
                          · cases hb
                        · cases hb
                      · cases hb
                    · cases hb
                have := keep r _ t' k1 (hgt ps (i + 1) r0 r hr0 h1 (by omega))
                rw [Nat.add_zero, this, Tr.get_put_same]
              | succ q =>
                have := k2 q row hq
                rw [show i + (q + 1) = i + 1 + q by omega]
                exact this
          · cases h
        · cases h
      · cases h
    · cases h
theorem WA.bslice {sz len : Nat} {z : List AV} {parts : List (Nat × Operand)} {L : List (List AV)} (hp : bsrows l sz 0 parts = some L) (hl : parts.length = len) : WA (.bslice sz len z parts) l (.r false L sz) (fun b => .slice (some ⟨b, 0, 0⟩) len len false sz) := by
  refine ⟨fun _ _ _ _ _ => rfl, fun _ _ _ => rfl, fun e he => ?_⟩
  obtain ⟨r, h1, h2, h3⟩ := bsrows_ok he (len := len) parts 0 L hp (by omega)
  obtain ⟨t0, ht0⟩ := rowsOf_some (repl len z)
  obtain ⟨t', k1, k2⟩ := h3 t0
  have hLl : L.length = len := by omega
  refine ⟨.rows t' len sz false, (congrArg (fun r => match r with
    | some l => (match rowsOf (repl len z) with
      | some t => (match lfold (fun (t : Tr (List AV)) (p : Nat × List AV) => some (t.put p.1 p.2)) l t with
        | some t' => some (AObj.rows t' len sz false, fun b => AV.slice (some ⟨b, 0, 0⟩) len len false sz)
        | none => none)
      | none => none)
    | none => none) h1).trans (by grind), t', by rw [hLl], fun i row hi => by grind⟩
end
end Go.Ev
namespace Go.Ev
section
variable {P : Program} {K : Orc} {rd : Option Nat} {nt : Nat} {l : Sl} {ds : List ADef} {s : SH} {Q Qn Qr : Po} {Qe : Nat → Po} {R : AV → List ADef → SH → Prop}
noncomputable def gstp (H : Heap) (p : Pl) (rw sz : Nat) (i : Nat) (acc : List (List AV)) : Option (List (List AV)) := match elemAt p rw sz i with
    | some q => match H.read q sz with
      | some c => some (c :: acc)
      | none => none
    | none => none
theorem gather_def' (H : Heap) (p : Pl) (rw sz n : Nat) : H.gather p rw sz n = match nfold (gstp H p rw sz) n 0 [] with | some l => some l.reverse | none => none := rfl
noncomputable def sstp (p : Pl) (rw sz : Nat) (s : Heap × Nat) (row : List AV) : Option (Heap × Nat) := match elemAt p rw sz s.2 with
    | some q => match s.1.write q row with
      | some H' => some (H', Nat.succ s.2)
      | none => none
    | none => none
theorem scatter_def' (H : Heap) (p : Pl) (rw sz i : Nat) (l : List (List AV)) : H.scatter p rw sz i l = match lfold (sstp p rw sz) l (H, i) with | some s => some s.1 | none => none := rfl
theorem ho_gather {H : Heap} {ro : Bool} {L : List (List AV)} {sz b r n : Nat} (h : (HO.r ro L sz).ok (H.get b)) (hs : sz ≠ 0) (hn : r + n ≤ L.length) : H.gather ⟨b, r, 0⟩ sz sz n = some ((L.drop r).take n) := by
  have key : ∀ (n i : Nat) (acc : List (List AV)), r + i + n ≤ L.length → nfold (gstp H ⟨b, r, 0⟩ sz sz) n i acc = some (((L.drop (r + i)).take n).reverse ++ acc) := by
    intro n
    induction n with
    | zero => intro i acc _; rw [nfold_zero]; simp
    | succ n ih =>
      intro i acc hi
      have hlt : r + i < L.length := by omega
      have hrow : L[r + i]? = some L[r + i] := List.getElem?_eq_getElem hlt
      have hlen : (L[r + i]).length = sz := by
        obtain ⟨t, h1, h2⟩ := h
        grind
      have hread : H.read ⟨b, r + i, 0⟩ sz = some L[r + i] := by
        refine HO.read h hrow ?_
        show ltake sz L[r + i] = _
        rw [ltake_some _ _ (by omega), ← hlen, List.take_length]
      have hel : elemAt ⟨b, r, 0⟩ sz sz i = some ⟨b, r + i, 0⟩ := by
        unfold elemAt
        simp_all
      rw [nfold_succ]
      refine ⟨L[r + i] :: acc, by unfold gstp; grind, ?_⟩
      rw [ih (i + 1) _ (by omega), show r + (i + 1) = r + i + 1 by omega]
      rw [List.drop_eq_getElem_cons hlt, List.take_succ_cons, List.reverse_cons, List.append_assoc]
      rfl
  rw [gather_def']
  grind
theorem ho_scatter {H0 : Heap} {sz b : Nat} (hs : sz ≠ 0) : ∀ (N : List (List AV)) (H : Heap) (s s' : SH) (L : List (List AV)) (r i : Nat), Hp H0 s H → (∀ row ∈ N, row.length = sz) → r + i + N.length ≤ L.length →
    Upd b (.r false L sz) (.r false (L.take (r + i) ++ (N ++ L.drop (r + i + N.length))) sz) s s' → ∃ H', H.scatter ⟨b, r, 0⟩ sz sz i N = some H' ∧ Hp H0 s' H' := by
  have key : ∀ (N : List (List AV)) (H : Heap) (s s' : SH) (L : List (List AV)) (r i : Nat), Hp H0 s H → (∀ row ∈ N, row.length = sz) → r + i + N.length ≤ L.length →
    Upd b (.r false L sz) (.r false (L.take (r + i) ++ (N ++ L.drop (r + i + N.length))) sz) s s' → ∃ H' j, lfold (sstp ⟨b, r, 0⟩ sz sz) N (H, i) = some (H', j) ∧ Hp H0 s' H' := by
    intro N
    induction N with
    | nil =>
      intro H s s' L r i hH _ hle hu
      refine ⟨H, i, rfl, ?_⟩
      simp only [List.nil_append, List.length_nil, Nat.add_zero, List.take_append_drop] at hu
      obtain ⟨x, y, rfl, rfl⟩ := hu.split
      exact hH
    | cons row N ih =>
      intro H s s' L r i hH hlen hle hu
      simp only [List.length_cons] at hle
      have hlt : r + i < L.length := by omega
      have hrow : L[r + i]? = some L[r + i] := List.getElem?_eq_getElem hlt
      have hl : (L[r + i]).length = sz := by
        obtain ⟨x, y, rfl, rfl⟩ := hu.split
        obtain ⟨_, t, _, h2⟩ := hH.ok b _ (List.mem_append_right _ (List.mem_cons_self ..))
        grind
      have hr : row.length = sz := hlen row (List.mem_cons_self ..)
      have hput : lput L[r + i] 0 row = some row := by
        unfold lput
        have h1 : ltake 0 L[r + i] = some [] := rfl
        have h2 : ltake (llen row) (ldrop 0 L[r + i]) = some L[r + i] := by
          show ltake (llen row) L[r + i] = _
          rw [llen_eq, ltake_some _ _ (by omega), hr, ← hl, List.take_length]
        simp only [h1, h2]
        have h3 : ldrop (llen row) (ldrop 0 L[r + i]) = [] := by
          show ldrop (llen row) L[r + i] = []
          rw [ldrop_eq, llen_eq, List.drop_eq_nil_of_le (by omega)]
        rw [h3, lapp_eq, lapp_eq]
        simp
      obtain ⟨x, y, rfl, rfl⟩ := hu.split
      have hmid : ∀ M : List (List AV), Upd b (.r false L sz) (.r false M sz) (x ++ (b, .r false L sz) :: y) (x ++ (b, .r false M sz) :: y) := fun M => .app .here
      obtain ⟨H1, w1, w2⟩ := HO.write hH (o := 0) hrow hput (hmid _)
      have hset : ∀ T, L.set (r + i) row = T → True := fun _ _ => trivial
      obtain ⟨H', j, k1, k2⟩ := ih H1 _ (x ++ (b, .r false (L.take (r + i) ++ (row :: N ++ L.drop (r + i + (row :: N).length))) sz) :: y) (L.set (r + i) row) r (i + 1) w2 (fun w hw => hlen w (List.mem_cons_of_mem _ hw)) (by grind) (by
        have : (L.set (r + i) row).take (r + (i + 1)) ++ (N ++ (L.set (r + i) row).drop (r + (i + 1) + N.length)) = L.take (r + i) ++ (row :: N ++ L.drop (r + i + (row :: N).length)) := by
          rw [show r + (i + 1) = r + i + 1 by omega, List.length_cons, show r + i + (N.length + 1) = r + i + 1 + N.length by omega]
          rw [List.drop_set_of_lt (by omega)]
          rw [List.take_add_one, List.take_set_of_le (by omega), List.getElem?_set_self hlt]
          simp
        rw [this]
        exact .app .here)
      refine ⟨H', j, ?_, k2⟩
      rw [lfold_cons]
      refine ⟨(H1, i + 1), ?_, k1⟩
      have hel : elemAt ⟨b, r, 0⟩ sz sz i = some ⟨b, r + i, 0⟩ := by
        unfold elemAt
        cases sz with
        | zero => grind
        | succ q => simp only [bq_self]; rfl
      unfold sstp
      grind
  intro N H s s' L r i hH hlen hle hu
  obtain ⟨H', j, h1, h2⟩ := key N H s s' L r i hH hlen hle hu
  refine ⟨H', ?_, h2⟩
  rw [scatter_def']
  simp only [h1]
inductive Src (s : SH) (sz : Nat) : AV → List (List AV) → Prop
  | nil {c : Nat} {sl : Bool} {rw : Nat} : Src s sz (.slice none 0 c sl rw) []
  | zero {a : Option Pl} {c : Nat} {sl : Bool} {rw : Nat} : Src s sz (.slice a 0 c sl rw) []
  | emp : Src s sz .empty []
  | rows {b r n c : Nat} {sl ro : Bool} {L : List (List AV)} (hb : Has b (.r ro L sz) s) (hn : r + n ≤ L.length) : Src s sz (.slice (some ⟨b, r, 0⟩) n c sl sz) ((L.drop r).take n)
theorem Src.all {b c : Nat} {sl ro : Bool} {L : List (List AV)} {sz : Nat} (hb : Has b (.r ro L sz) s) : Src s sz (.slice (some ⟨b, 0, 0⟩) L.length c sl sz) L := by
  have := Src.rows (r := 0) (n := L.length) (c := c) (sl := sl) hb (by omega)
  grind
theorem Src.len {sz : Nat} {v : AV} {N : List (List AV)} {H0 H : Heap} (h : Src s sz v N) (hH : Hp H0 s H) : ∀ row ∈ N, row.length = sz := by
  cases h with
  | rows hb hn =>
    intro row hr
    obtain ⟨_, t, _, h2⟩ := hH.has hb
    have := List.mem_of_mem_drop (List.mem_of_mem_take hr)
    obtain ⟨i, hi⟩ := List.getElem?_of_mem this
    grind
  | _ => grind
noncomputable def srcRows (H : Heap) (sz : Nat) : AV → Option (List (List AV))
  | .slice none n _ _ _ => (match n with | 0 => some [] | _ => none)
  | .slice (some p) n _ _ rw => H.gather p rw sz n
  | .empty => some []
  | _ => none
theorem Src.has {sz : Nat} {v : AV} {N : List (List AV)} {H0 H : Heap} (h : Src s sz v N) (hs : sz ≠ 0) (hH : Hp H0 s H) : srcRows H sz v = some N := by
  cases h with
  | nil => rfl
  | zero => rename_i a c sl rw; cases a <;> rfl
  | emp => rfl
  | rows hb hn => exact ho_gather (hH.has hb).2 hs hn
theorem List.drop_append_of_le_length' {α : Type} {a b : List α} {n : Nat} (_ : True) : (a ++ b).drop (a.length + n) = b.drop n := by
  rw [← List.drop_drop, List.drop_left]
theorem append_eq {H : Heap} {sz bytes : Nat} {ss x : Operand} {ρ : Operand → Option AV} {sv xv : AV} {N : List (List AV)} (h1 : ρ ss = some sv) (h2 : ρ x = some xv) (h3 : srcRows H sz xv = some N) : aval P H ρ (.append sz bytes ss x) = appendV H sz bytes sv N := by
  simp only [aval, h1, h2]
  cases xv with
  | slice a n c sl rw =>
    cases a with
    | none =>
      cases n with
      | zero => cases h3; rfl
      | succ n => cases h3
    | some p =>
      have h3 : H.gather p rw sz n = some N := h3
      simp only [h3]
  | empty => cases h3; rfl
  | _ => cases h3
inductive OutL (s : SH) (sz : Nat) : AV → List (List AV) → Prop
  | nil {rw : Nat} : OutL s sz (.slice none 0 0 false rw) []
  | zero {p : Pl} {rw : Nat} : OutL s sz (.slice (some p) 0 0 false rw) []
  | rows {b n c : Nat} {L R : List (List AV)} (hb : Has b (.r false (L ++ R) sz) s) (hn : n = L.length) (hc : c = L.length + R.length) (hL : L ++ R ≠ []) : OutL s sz (.slice (some ⟨b, 0, 0⟩) n c true sz) L
theorem OutL.src {sz : Nat} {v : AV} {L : List (List AV)} (h : OutL s sz v L) : Src s sz v L := by
  cases h with
  | nil => exact .nil
  | zero => exact .zero
  | @rows b n c L R hb hn hc hL =>
    have := Src.rows (r := 0) (n := L.length) (c := c) (sl := true) hb (by grind)
    grind
theorem Src.lenOf {sz : Nat} {v : AV} {L : List (List AV)} (h : Src s sz v L) : lenOf v = some L.length := by
  cases h with
  | rows hb hn => rw [List.length_take, List.length_drop, Nat.min_eq_left (by omega)]; rfl
  | _ => rfl
theorem Has.mono {b : Nat} {o : HO} {s s' : SH} (h : Has b o s) (hs : ∀ p, p ∈ s → p ∈ s') : Has b o s' := .of_mem (hs _ h.mem)
theorem Src.mono {sz : Nat} {v : AV} {L : List (List AV)} {s' : SH} (h : Src s sz v L) (hs : ∀ p, p ∈ s → p ∈ s') : Src s' sz v L := by
  cases h with
  | nil => exact .nil
  | zero => exact .zero
  | emp => exact .emp
  | rows hb hn => exact .rows (hb.mono hs) hn
theorem fitsN {need bytes : Nat} (h1 : need ≤ 1000000000) (h2 : bytes ≤ 1000) : fits need bytes = true := by
  unfold fits
  have a : (2 * need + 2000) * bytes ≤ 2000002000 * 1000 := Nat.mul_le_mul (by omega) h2
  rw [bl_true.2 (by omega), bl_true.2 (by omega)]
  rfl
theorem lay_rows {L : List (List AV)} {t : Tr (List AV)} {sz : Nat} (h : ∀ i : Nat, t.get i = L[i]?) (hl : ∀ row ∈ L, row.length = sz) : (HO.r false L sz).ok (some (.rows t L.length sz false)) :=
  ⟨t, rfl, fun i row hi => ⟨by grind, hl row (List.mem_of_getElem? hi)⟩⟩
theorem WS.append_none {sz bytes : Nat} {ss x : Operand} {a : Option Pl} {n c : Nat} {sl : Bool} {rw : Nat} {xv : AV} (hs : opl l ss = some (.slice a n c sl rw)) (hx : opl l x = some xv) (hN : Src s sz xv []) (hz : sz ≠ 0) (hc : n ≤ c) (k : R (.slice a n c sl rw) ds s) :
    WS P K (.append sz bytes ss x) l ds s R := by
  refine fun H0 e H he hH => ⟨.slice a n c sl rw, ds, s, H, ⟨0, ?_⟩, hH, k⟩
  show (match aval P H (opv e) (.append sz bytes ss x) with | some (v, H') => some (OR.mk v ds H') | none => none) = _
  rw [append_eq (opl_ok he hs) (opl_ok he hx) (hN.has hz hH)]
  unfold appendV
  simp only [force_eq]
  rw [show Nat.ble (Nat.add n (llen ([] : List (List AV)))) c = true from Nat.ble_eq_true_of_le hc]
  rfl
theorem WS.append_nil {sz bytes : Nat} {ss x : Operand} {c : Nat} {rw : Nat} {xv : AV} {N : List (List AV)} (hs : opl l ss = some (.slice none 0 0 false rw)) (hx : opl l x = some xv) (hN : Src s sz xv N) (hz : sz ≠ 0) (hne : N ≠ []) (h1 : N.length ≤ 1000000000) (h2 : bytes ≤ 1000)
    (k : ∀ b, R (.slice (some ⟨b, 0, 0⟩) N.length N.length true sz) ds ((b, .r false N sz) :: s)) : WS P K (.append sz bytes ss x) l ds s R := by
  intro H0 e H he hH
  obtain ⟨t, ht⟩ := rowsOf_some N
  refine ⟨.slice (some ⟨H.next, 0, 0⟩) N.length N.length true sz, ds, _, _, ⟨0, ?_⟩, hH.alloc (o := .rows t N.length sz false) (lay_rows (rowsOf_get ht) (hN.len hH)), k _⟩
  show (match aval P H (opv e) (.append sz bytes ss x) with | some (v, H') => some (OR.mk v ds H') | none => none) = _
  rw [append_eq (opl_ok he hs) (opl_ok he hx) (hN.has hz hH)]
  have hl : N.length ≠ 0 := by
    grind
  unfold appendV
  simp only [force_eq, llen_eq]
  rw [show Nat.add 0 N.length = N.length from Nat.zero_add _]
  have : Nat.ble N.length 0 = false := by rw [bl_false]; omega
  simp only [this, ht]
  unfold grown
  rw [fitsN h1 h2]
  rfl
theorem WS.append_new {sz bytes : Nat} {ss x : Operand} {b r n c : Nat} {ro : Bool} {xv : AV} {L N : List (List AV)} (hs : opl l ss = some (.slice (some ⟨b, r, 0⟩) n c false sz)) (hb : Has b (.r ro L sz) s) (hr : r + n ≤ L.length) (hx : opl l x = some xv) (hN : Src s sz xv N) (hz : sz ≠ 0) (hc : c < n + N.length) (h1 : n + N.length ≤ 1000000000) (h2 : bytes ≤ 1000)
    (k : ∀ b', R (.slice (some ⟨b', 0, 0⟩) (n + N.length) (n + N.length) true sz) ds ((b', .r false ((L.drop r).take n ++ N) sz) :: s)) : WS P K (.append sz bytes ss x) l ds s R := by
  intro H0 e H he hH
  obtain ⟨t, ht⟩ := rowsOf_some ((L.drop r).take n ++ N)
  have hlen : ((L.drop r).take n ++ N).length = n + N.length := by
    grind
  refine ⟨.slice (some ⟨H.next, 0, 0⟩) (n + N.length) (n + N.length) true sz, ds, _, _, ⟨0, ?_⟩, hH.alloc (o := .rows t (n + N.length) sz false) ?_, k _⟩
  · show (match aval P H (opv e) (.append sz bytes ss x) with | some (v, H') => some (OR.mk v ds H') | none => none) = _
    rw [append_eq (opl_ok he hs) (opl_ok he hx) (hN.has hz hH)]
    unfold appendV
    simp only [force_eq, llen_eq]
    rw [show Nat.add n N.length = n + N.length from rfl]
    have : Nat.ble (n + N.length) c = false := by rw [bl_false]; omega
    simp only [this, ho_gather (hH.has hb).2 hz hr, lapp_eq, ht]
    unfold grown
    rw [fitsN h1 h2]
    rfl
  · rw [← hlen]
    refine lay_rows (rowsOf_get ht) fun row hrow => ?_
    rcases List.mem_append.1 hrow with h | h
    · exact (Src.rows (c := c) (sl := false) hb hr).len hH row h
    · exact hN.len hH row h
theorem WS.append_own {sz bytes : Nat} {ss x : Operand} {b n : Nat} {xv : AV} {L N : List (List AV)} {s' : SH} (hs : opl l ss = some (.slice (some ⟨b, 0, 0⟩) n n true sz)) (hn : n = L.length) (hb : Upd b (.r false L sz) .junk s s') (hx : opl l x = some xv) (hN : Src s sz xv N) (hz : sz ≠ 0) (hne : N ≠ []) (h1 : n + N.length ≤ 1000000000) (h2 : bytes ≤ 1000)
    (k : ∀ b', R (.slice (some ⟨b', 0, 0⟩) (n + N.length) (n + N.length) true sz) ds ((b', .r false (L ++ N) sz) :: s')) : WS P K (.append sz bytes ss x) l ds s R := by
  intro H0 e H he hH
  subst hn
  have hh : (HO.r false L sz).ok (H.get b) := by
    obtain ⟨x, y, rfl, rfl⟩ := hb.split
    exact (hH.ok b _ (List.mem_append_right _ (List.mem_cons_self ..))).2
  obtain ⟨t, t1, t2⟩ := hh
  have hl : N.length ≠ 0 := fun h => hne (List.eq_nil_of_length_eq_zero h)
  obtain ⟨st, p1, p2, p3⟩ : ∃ st : Tr (List AV) × Nat, lfold (fun (s : Tr (List AV) × Nat) row => some (s.1.put s.2 row, Nat.succ s.2)) N (t, L.length) = some st ∧ (∀ i, i < L.length → st.1.get i = t.get i) ∧ ∀ (i : Nat) row, N[i]? = some row → st.1.get (L.length + i) = some row := by
    have key : ∀ (N : List (List AV)) (t : Tr (List AV)) (n : Nat), ∃ st : Tr (List AV) × Nat, lfold (fun (s : Tr (List AV) × Nat) row => some (s.1.put s.2 row, Nat.succ s.2)) N (t, n) = some st ∧ (∀ i, i < n → st.1.get i = t.get i) ∧ ∀ (i : Nat) row, N[i]? = some row → st.1.get (n + i) = some row := by
      intro N
      induction N with
      | nil => intro t n; exact ⟨(t, n), rfl, fun _ _ => rfl, fun i row h => by simp at h⟩
      | cons w N ih =>
        intro t n
        obtain ⟨st, q1, q2, q3⟩ := ih (t.put n w) (n + 1)
        refine ⟨st, (lfold_cons _ _ _ _ _).2 ⟨_, rfl, q1⟩, fun i hi => ?_, fun i row h => ?_⟩
        · rw [q2 i (by omega), Tr.get_put_other _ _ (by omega)]
        · cases i with
          | zero => cases h; rw [Nat.add_zero, q2 n (by omega), Tr.get_put_same]
          | succ i => grind
    exact key N t L.length
  have hdel : Hp H0 s' (H.del b) := hH.upd hb (x := none) trivial rfl (fun c => Heap.get_del _ _ _)
  refine ⟨.slice (some ⟨H.next, 0, 0⟩) (L.length + N.length) (L.length + N.length) true sz, ds, _, _, ⟨0, ?_⟩, hdel.alloc (o := .rows st.1 (L.length + N.length) sz false) ?_, k _⟩
  · show (match aval P H (opv e) (.append sz bytes ss x) with | some (v, H') => some (OR.mk v ds H') | none => none) = _
    rw [append_eq (opl_ok he hs) (opl_ok he hx) (hN.has hz hH)]
    unfold appendV
    simp only [force_eq, llen_eq]
    rw [show Nat.add L.length N.length = L.length + N.length from rfl]
    have : Nat.ble (L.length + N.length) L.length = false := by rw [bl_false]; omega
    simp only [this, t1]
    have c : (Nat.beq sz sz && Nat.beq sz sz && Nat.beq 0 0 && Nat.beq (Nat.add 0 L.length) L.length && Nat.beq L.length L.length) = true := by
      simp_all
    rw [c]
    simp only [p1]
    unfold grown
    rw [fitsN h1 h2]
    rfl
  · rw [← List.length_append]
    refine ⟨st.1, rfl, fun i row hi => ?_⟩
    by_cases h : i < L.length
    · grind
    · rw [List.getElem?_append_right (by omega)] at hi
      refine ⟨?_, hN.len hH row (List.mem_of_getElem? hi)⟩
      grind
theorem WS.append_room {sz bytes : Nat} {ss x : Operand} {b n c : Nat} {xv : AV} {L T N : List (List AV)} {s' : SH} (hs : opl l ss = some (.slice (some ⟨b, 0, 0⟩) n c true sz)) (hn : n = L.length) (hc : c = L.length + T.length) (hb : Upd b (.r false (L ++ T) sz) (.r false (L ++ (N ++ T.drop N.length)) sz) s s') (hx : opl l x = some xv) (hN : Src s sz xv N) (hz : sz ≠ 0) (hne : N ≠ []) (hr : N.length ≤ T.length)
    (k : R (.slice (some ⟨b, 0, 0⟩) (n + N.length) c true sz) ds s') : WS P K (.append sz bytes ss x) l ds s R := by
  intro H0 e H he hH
  subst hn
  obtain ⟨H', h1, h2⟩ := ho_scatter hz N H s s' (L ++ T) 0 L.length hH (hN.len hH) (by grind) (by
    rw [Nat.zero_add, List.take_left, List.drop_append_of_le_length' trivial]
    exact hb)
  refine ⟨.slice (some ⟨b, 0, 0⟩) (L.length + N.length) c true sz, ds, s', H', ⟨0, ?_⟩, h2, k⟩
  show (match aval P H (opv e) (.append sz bytes ss x) with | some (v, H') => some (OR.mk v ds H') | none => none) = _
  rw [append_eq (opl_ok he hs) (opl_ok he hx) (hN.has hz hH)]
  have hl : N.length ≠ 0 := fun h => hne (List.eq_nil_of_length_eq_zero h)
  unfold appendV
  simp only [force_eq, llen_eq]
  have : Nat.ble (L.length + N.length) c = true := by rw [bl_true]; omega
  grind
theorem WS.call {fo : Operand} {args : List Operand} {fv : AV} {vs : List AV} {R' : AV → SH → Prop} (hf : opl l fo = some fv) (ha : lmapO (opl l) args = some vs) (ht : TriV P K fv vs s R') (k : ∀ v s', R' v s' → R v ds s') : WS P K (.call fo args) l ds s R := by
  intro H0 e H he hH
  obtain ⟨v, s', H', h1, h2, h3⟩ := ht H0 H hH
  exact ⟨v, ds, s', H', OpTo.call (opl_ok he hf) (opls_ok he ha) h1, h2, k v s' h3⟩
theorem WS.callF {fo : Operand} {args : List Operand} {f : FuncId} {first cap : List AV} {vs : List AV} {R' : AV → SH → Prop} (hf : opl l fo = some (.func f first cap)) (ha : lmapO (opl l) args = some vs) (ht : Tri P K f (first ++ (vs ++ cap)) s R') (k : ∀ v s', R' v s' → R v ds s') : WS P K (.call fo args) l ds s R :=
  WS.call hf ha (TriV.func ht) k
theorem WS.cl {fo : Operand} {args : List Operand} {f : FuncId} {vs : List AV} {R' : AV → SH → Prop} {R : AV → List ADef → SH → Prop} (ht : Tri P K f vs s R') (k : ∀ v s', R' v s' → R v ds s') (hf : opl l fo = some (.func f [] []) := by rfl) (ha : lmapO (opl l) args = some vs := by rfl) : WS P K (.call fo args) l ds s R :=
  WS.callF (first := []) (cap := []) hf ha (by grind) k
theorem WS.invoke {ro : Operand} {name : String} {args : List Operand} {t : TypeId} {rv : AV} {f : FuncId} {vs : List AV} {R' : AV → SH → Prop} (hr : opl l ro = some (.iface t rv)) (hm : meth P t name = some f) (ha : lmapO (opl l) args = some vs) (ht : Tri P K f (rv :: vs) s R') (k : ∀ v s', R' v s' → R v ds s') : WS P K (.invoke ro name args) l ds s R := by
  intro H0 e H he hH
  obtain ⟨v, s', H', ⟨n, h1⟩, h2, h3⟩ := ht H0 H hH
  refine ⟨v, ds, s', H', ⟨n, ?_⟩, h2, k v s' h3⟩
  simp only [oper, opl_ok he hr, hm, opls_ok he ha, h1]
def sl0 : Nat → List AV → Sl
  | _, [] => []
  | i, a :: as => (i, a) :: sl0 (i + 1) as
theorem sl0_get : ∀ (as : List AV) (i j : Nat) (v : AV), lk (sl0 i as) j = some v → i ≤ j ∧ as[j - i]? = some v := by
  intro as
  induction as with
  | nil => intro i j v h; cases h
  | cons a as ih =>
    intro i j v h
    unfold sl0 at h
    rw [lk_cons] at h
    by_cases hij : i = j
    · simp_all
    grind
theorem argsEnv_tot (nt : Nat) (args : List AV) : ∃ e0, argsEnv nt args = some e0 ∧ ∀ (i : Nat) v, args[i]? = some v → e0.get i = some v := by
  have key : ∀ (args : List AV) (t : Tr AV) (n : Nat), ∃ st : Tr AV × Nat, lfold (fun (s : Tr AV × Nat) (v : AV) => some (s.1.put s.2 v, Nat.succ s.2)) args (t, n) = some st ∧ (∀ i, i < n → st.1.get i = t.get i) ∧ ∀ (i : Nat) v, args[i]? = some v → st.1.get (n + i) = some v := by
    intro args
    induction args with
    | nil => intro t n; exact ⟨(t, n), rfl, fun _ _ => rfl, fun i v h => by simp at h⟩
    | cons w N ih =>
      intro t n
      obtain ⟨st, q1, q2, q3⟩ := ih (t.put n w) (n + 1)
      refine ⟨st, (lfold_cons _ _ _ _ _).2 ⟨_, rfl, q1⟩, fun i hi => ?_, fun i v h => ?_⟩
      · rw [q2 i (by omega), Tr.get_put_other _ _ (by omega)]
      · cases i with
        | zero => cases h; rw [Nat.add_zero, q2 n (by omega), Tr.get_put_same]
        | succ i => grind
  obtain ⟨st, h1, h2, h3⟩ := key args (undefs nt) 0
  refine ⟨st.1, ?_, fun i v h => by grind⟩
  unfold argsEnv
  simp only [h1]
inductive Rs (P : Program) (l : Sl) (s : SH) : List ResultVar → List AV → Prop
  | nil : Rs P l s [] []
  | tmp {t : Nat} {v : AV} {rs : List ResultVar} {vs : List AV} (h : lk l t = some v) (k : Rs P l s rs vs) : Rs P l s (.tmp t :: rs) (v :: vs)
  | cell {a : Nat} {t : TypeId} {rs : List ResultVar} {vs : List AV} {v : AV} {b r o n sz : Nat} {g ro : Bool} {L : List (List AV)} {row cs : List AV} (hp : lk l a = some (.ptr (some ⟨b, r, o⟩))) (hg : isAggT P t = some g) (hn : size? P t = some n) (h1 : g = true ∨ n = 1)
      (hb : Has b (.r ro L sz) s) (hr : L[r]? = some row) (hc : ltake n (ldrop o row) = some cs) (hv : ldv g cs = some v) (k : Rs P l s rs vs) : Rs P l s (.cell a t :: rs) (v :: vs)
@[reducible] def tupV (vs : List AV) : AV := match vs with
  | [v] => v
  | vs => .tuple vs
theorem Rs.ok {e : Tr AV} {H0 H : Heap} (he : En l e) (hH : Hp H0 s H) {rs : List ResultVar} {vs : List AV} (h : Rs P l s rs vs) : lmapO (resultOf P e H) rs = some vs := by
  induction h with
  | nil => rfl
  | tmp h _ ih => exact (lmapO_cons _ _ _ _).2 ⟨_, _, he _ _ h, ih, rfl⟩
  | @cell a t rs vs v b r o n sz g ro L row cs hp hg hn h1 hb hr hc hv _ ih =>
    refine (lmapO_cons _ _ _ _).2 ⟨v, vs, ?_, ih, rfl⟩
    have hrd := HO.read (hH.has hb).2 hr hc
    unfold resultOf
    simp only [he a _ hp, hg, hn]
    cases g with
    | true => simp only [hrd]; unfold ldv at hv; exact hv
    | false =>
      rcases h1 with h1 | h1
      · cases h1
      · unfold ldv at hv
        grind
def Fin (P : Program) (rs : List ResultVar) (R : AV → SH → Prop) : Po := fun l ds s => ds = [] ∧ ∃ vs, Rs P l s rs vs ∧ R (tupV vs) s
theorem Fin.mk {rs : List ResultVar} {R : AV → SH → Prop} {vs : List AV} (hr : Rs P l s rs vs) (h : R (tupV vs) s) : Fin P rs R l [] s := ⟨rfl, vs, hr, h⟩
theorem Tri.enter {f : FuncId} {fn : Func} {ac : AC} {args : List AV} {R : AV → SH → Prop} {n : Nat} {rs : List ResultVar} (hK : ∀ H, K f args H = none) (hf : P.funcs[f]? = some fn) (hc : fn.body.map (cc P fn.ntmps) = some ac) (hnt : fn.ntmps = n) (hrs : fn.results.toList = rs)
    (hn : (Nat.ble (llen args) fn.ntmps && !(fn.name == "runtime.NumGoroutine")) = true) (h : WP P K none n ac (sl0 0 args) [] s (Fin P rs R) (fun _ _ _ _ => False) (Fin P rs R)) : Tri P K f args s R := by
  subst hnt hrs
  intro H0 H hH
  obtain ⟨c, hb, hc⟩ : ∃ c, fn.body = some c ∧ cc P fn.ntmps c = ac := by
    simp_all
  obtain ⟨e0, h0, h1⟩ := argsEnv_tot fn.ntmps args
  have he : En (sl0 0 args) e0 := fun i v hi => by
    obtain ⟨_, h2⟩ := sl0_get args 0 i v hi
    grind
  obtain ⟨x, e', ds', H', l', s', k1, k2, k3, k4⟩ := h c hc H0 e0 H he hH
  have key : ∀ x, (x = .ret ∨ x = .normal) → Runs P K none fn.ntmps c e0 [] H (.mk x e' ds' H') → Fin P fn.results.toList R l' ds' s' → ∃ v s' H', CallsTo P K f args H v H' ∧ Hp H0 s' H' ∧ R v s' := by
    rintro x hx k1 ⟨rfl, vs, k5, k6⟩
    refine ⟨tupV vs, s', H', CallsTo.enter (hK H) hf hb hn h0 k1 hx ?_, k3, k6⟩
    rw [k5.ok k2 k3]
    grind
  grind
theorem Tri.known {f : FuncId} {args : List AV} {v : AV} (h : ∀ H, K f args H = some (v, H)) {R : AV → SH → Prop} (hr : R v s) : Tri P K f args s R :=
  fun H0 H hH => ⟨v, s, H, CallsTo.known (h H), hH, hr⟩
theorem OutL.lenOf {sz : Nat} {v : AV} {L : List (List AV)} (h : OutL s sz v L) : lenOf v = some L.length := by
  cases h with
  | rows _ hn _ _ => rw [hn]; rfl
  | _ => rfl
theorem OutL.mono {sz : Nat} {v : AV} {L : List (List AV)} {s' : SH} (h : OutL s sz v L) (hs : ∀ p, p ∈ s → p ∈ s') : OutL s' sz v L := by
  cases h with
  | nil => exact .nil
  | zero => exact .zero
  | rows hb hn hc hL => exact .rows (hb.mono hs) hn hc hL
end
end Go.Ev
