/- A machine that is proved sound, and walks by it. Conditions: none. -/
import Derived.Test.YtehcpacbinbioaaGreatEvG
import Derived.Test.YtehcpacbinbioaaGreatEvI
import Derived.Test.YtehcpacbinbioaaGreatEvJ
import Derived.Test.YtehcpacbinbioaaGreatEvL
import Derived.Test.YtehcpacbinbioaaGreatEvN
import Derived.Deep.Slices
import Derived.OpenShut
import Derived.ChangeSame
set_option linter.all false
set_option maxHeartbeats 8000000
set_option maxRecDepth 20000
namespace Go.Ev
section
variable {P : Program} {K : Orc} {rd : Option Nat} {nt : Nat} {l : Sl} {ds : List ADef} {s : SH} {Q Qn Qr : Po} {Qe : Nat → Po} {F : Nat → FuncId} {T : Nat → TypeId}
theorem eqf432 (hT : BaseSt P K F T) (hS : BaseSl P K F T) {v w : AV} {C : Cn} (hv : SrcN s 0 1 v C) (hw : SrcN s 0 1 w C) (hC : CnT 5000 [] [.i] C) : Tri P K (F 432) [v, w, .func (F 433) [] []] s (fun u s' => u = .bool true ∧ ∃ m, s' = m ++ s) := by
  refine hS.f432.tri ?_
  unfold a432
  have hn := hC.len
  have l0 := hv.len
  have l1 := hw.len
  have h14 := eqI (.ofNat C.length)
  refine Vr (k := ?_)
  refine WP.loop (fun k l ds s' => ds = [] ∧ ∃ q m, s' = m ++ s ∧ k = C.length - q ∧ q ≤ C.length ∧ ∀ i x, lk [(1, w), (2, .func (F 433) [] []), (15, v), (16, iv (.ofNat C.length)), (17, iv (.ofNat q))] i = some x → lk l i = some x) ?_ (n := C.length - 0)
    ⟨rfl, 0, [], rfl, rfl, Nat.zero_le _, sbs⟩
  rintro k l ds s' ⟨rfl, q, m, rfl, rfl, hq, hlk⟩
  refine WP.weak hlk (fun _ _ h => h) ?_
  by_cases hlt : q < C.length
  · have f1 : binV .lss (iv (.ofNat q)) (iv (.ofNat C.length)) = some (.bool true) := lss_t hlt
    have hadd : binV .add (iv (.ofNat q)) (iv (.ofNat 1)) = some (iv (.ofNat (q + 1))) := add_n (by omega)
    obtain ⟨h0, h1, h2⟩ := hC.li hlt
    obtain ⟨ba, ra, na, ca, sla, roa, Ma, a, ea, hba, hna, hMa, ha⟩ := hv.at hlt
    obtain ⟨bb, rb, nb, cb, slb, rob, Mb, b, eb, hbb, hnb, hMb, hb⟩ := hw.at hlt
    rw [h0.nil_inv] at hMa hMb
    have k1 : Has ba (.r roa Ma 1) (m ++ s) := .app hba
    have k2 : Has bb (.r rob Mb 1) (m ++ s) := .app hbb
    refine Vr (k := WO.r (.ia ea hna) (Vr (k := WO.r (.ia eb hnb) (Vr (k := WO.w (WS.call rfl rfl (TriV.func (first := []) (args := [a, b]) (cap := []) (same433 hT hS (ha.mono fun p hp => List.mem_append_right _ hp) (hb.mono fun p hp => List.mem_append_right _ hp) h1 h2)) ?_))))))
    rintro _ _ ⟨rfl, m2, rfl⟩
    refine Vr (k := ?_)
    exact ⟨C.length - (q + 1), by omega, rfl, q + 1, m2 ++ m, by simp, rfl, hlt, sbs⟩
  · have f1 : binV .lss (iv (.ofNat q)) (iv (.ofNat C.length)) = some (.bool false) := lss_f hlt
    refine Vr (k := ?_)
    exact ⟨rfl, m, rfl⟩
theorem lists431 (hT : BaseSt P K F T) (hS : BaseSl P K F T) {v w : AV} {C : Cn} (hv : SrcN s 0 1 v C) (hw : SrcN s 0 1 w C) (hC : CnT 5000 [] [.i] C) : SameC P K (F 431) s v w := by
  refine hT.f431.tri ?_
  unfold a431
  refine Vr (k := WO.w (WS.cl (eqf432 hT hS hv hw hC) ?_))
  rintro _ _ ⟨rfl, m, rfl⟩
  refine Vr (k := ?_)
  exact ⟨rfl, m, rfl⟩
theorem apL {m2 m s : SH} {p q : Nat × HO} : m2 ++ (p :: q :: (m ++ s)) = (m2 ++ (p :: q :: m)) ++ s := by simp
theorem obj437 (hT : BaseSt P K F T) (hS : BaseSl P K F T) {a : Nat → Int} {b : Nat → Bool} {v w : AV} {I : List (List AV)} (hv : Src s 4 v I) (hw : Src s 4 w I) (hn : I.length ≤ 5000) (hI : ∀ q ∈ I, OkR [] rEf q) : SameC P K (F 437) s (.agg (obj14 a b v)) (.agg (obj14 a b w)) := by
  refine hT.f437.tri ?_
  unfold a437
  have e := fun n => eqI n
  have g := fun c => eqBo c
  have p1 := hv.one
  have p2 := hw.one
  have e0 := eqI (a 0)
  have e1 := eqI (a 1)
  have e2 := eqI (a 2)
  have e3 := eqI (a 3)
  have e4 := eqI (a 4)
  have e5 := eqI (a 5)
  have e6 := eqI (a 6)
  have e7 := eqI (a 7)
  have e8 := eqI (a 8)
  have g0 := eqBo (b 0)
  have g1 := eqBo (b 1)
  have g2 := eqBo (b 2)
  have g3 := eqBo (b 3)
  refine Vr (k := fun b2 => Vr (k := fun b3 => Vr (k := WO.w (WS.cl (same456 hT hS (hv.mono fun p hp => by simp [hp]) (hw.mono fun p hp => by simp [hp]) hn hI) ?_))))
  rintro _ _ ⟨rfl, m, rfl⟩
  refine Vr (k := ?_)
  exact ⟨rfl, m ++ [(b3, HO.r false [obj14 a b w] 14), (b2, HO.r false [obj14 a b v] 14)], by simp⟩
theorem objs436 (hT : BaseSt P K F T) (hS : BaseSl P K F T) {v w : AV} {C : Cn} (hv : SrcN s 13 4 v C) (hw : SrcN s 13 4 w C) (hC : CnT 5000 sOb rEf C) : Tri P K (F 436) [v, w, .func (F 437) [] []] s (fun u s' => u = .bool true ∧ ∃ m, s' = m ++ s) := by
  refine hS.f436.tri ?_
  unfold a436
  have hn := hC.len
  have l0 := hv.len
  have l1 := hw.len
  have h14 := eqI (.ofNat C.length)
  refine Vr (k := ?_)
  refine WP.loop (fun k l ds s' => ds = [] ∧ ∃ q m, s' = m ++ s ∧ k = C.length - q ∧ q ≤ C.length ∧ ∀ i x, lk [(1, w), (2, .func (F 437) [] []), (15, v), (16, iv (.ofNat C.length)), (17, iv (.ofNat q))] i = some x → lk l i = some x) ?_ (n := C.length - 0)
    ⟨rfl, 0, [], rfl, rfl, Nat.zero_le _, sbs⟩
  rintro k l ds s' ⟨rfl, q, m, rfl, rfl, hq, hlk⟩
  refine WP.weak hlk (fun _ _ h => h) ?_
  by_cases hlt : q < C.length
  · have f1 : binV .lss (iv (.ofNat q)) (iv (.ofNat C.length)) = some (.bool true) := lss_t hlt
    have hadd : binV .add (iv (.ofNat q)) (iv (.ofNat 1)) = some (iv (.ofNat (q + 1))) := add_n (by omega)
    obtain ⟨h0, h1, h2⟩ := hC.li hlt
    obtain ⟨ba, ra, na, ca, sla, roa, Ma, a, ea, hba, hna, hMa, ha⟩ := hv.at hlt
    obtain ⟨bb, rb, nb, cb, slb, rob, Mb, b, eb, hbb, hnb, hMb, hb⟩ := hw.at hlt
    obtain ⟨z, zb, hz⟩ := h0.ob13
    rw [hz] at hMa hMb
    have k1 : Has ba (.r roa Ma 14) (m ++ s) := .app hba
    have k2 : Has bb (.r rob Mb 14) (m ++ s) := .app hbb
    have p1 := ha.one
    have p2 := hb.one
    refine Vr (k := WO.r (.ia ea hna) (Vr (k := fun b8 => Vr (k := WO.r (.ia eb hnb) (Vr (k := fun b9 => Vr (k := WO.w (WS.call rfl rfl (TriV.func (first := []) (args := [.agg (obj14 z zb a), .agg (obj14 z zb b)]) (cap := []) (obj437 hT hS (ha.mono fun p hp => by simp [hp]) (hb.mono fun p hp => by simp [hp]) h1 h2)) ?_))))))))
    rintro _ _ ⟨rfl, m2, rfl⟩
    refine Vr (k := ?_)
    exact ⟨C.length - (q + 1), by omega, rfl, q + 1, _, apL, rfl, hlt, sbs⟩
  · have f1 : binV .lss (iv (.ofNat q)) (iv (.ofNat C.length)) = some (.bool false) := lss_f hlt
    refine Vr (k := ?_)
    exact ⟨rfl, m, rfl⟩
theorem item439 (hT : BaseSt P K F T) (hS : BaseSl P K F T) {a : Nat → Int} {v w : AV} {I : List (List AV)} (hv : Src s 2 v I) (hw : Src s 2 w I) (hn : I.length ≤ 5000) (hI : ∀ q ∈ I, OkR [] rTg q) : SameC P K (F 439) s (.agg (itRow a v)) (.agg (itRow a w)) := by
  refine hT.f439.tri ?_
  unfold a439
  have p1 := hv.one
  have p2 := hw.one
  have e0 := eqI (a 0)
  have e1 := eqI (a 1)
  have e2 := eqI (a 2)
  have e3 := eqI (a 3)
  have e4 := eqI (a 4)
  have e5 := eqI (a 5)
  refine Vr (k := fun b2 => Vr (k := fun b3 => Vr (k := WO.w (WS.cl (same457 hT hS (hv.mono fun p hp => by simp [hp]) (hw.mono fun p hp => by simp [hp]) hn hI) ?_))))
  rintro _ _ ⟨rfl, m, rfl⟩
  refine Vr (k := ?_)
  exact ⟨rfl, m ++ [(b3, HO.r false [itRow a w] 7), (b2, HO.r false [itRow a v] 7)], by simp⟩
theorem items438 (hT : BaseSt P K F T) (hS : BaseSl P K F T) {v w : AV} {C : Cn} (hv : SrcN s 6 2 v C) (hw : SrcN s 6 2 w C) (hC : CnT 5000 sIt rTg C) : Tri P K (F 438) [v, w, .func (F 439) [] []] s (fun u s' => u = .bool true ∧ ∃ m, s' = m ++ s) := by
  refine hS.f438.tri ?_
  unfold a438
  have hn := hC.len
  have l0 := hv.len
  have l1 := hw.len
  have h14 := eqI (.ofNat C.length)
  refine Vr (k := ?_)
  refine WP.loop (fun k l ds s' => ds = [] ∧ ∃ q m, s' = m ++ s ∧ k = C.length - q ∧ q ≤ C.length ∧ ∀ i x, lk [(1, w), (2, .func (F 439) [] []), (15, v), (16, iv (.ofNat C.length)), (17, iv (.ofNat q))] i = some x → lk l i = some x) ?_ (n := C.length - 0)
    ⟨rfl, 0, [], rfl, rfl, Nat.zero_le _, sbs⟩
  rintro k l ds s' ⟨rfl, q, m, rfl, rfl, hq, hlk⟩
  refine WP.weak hlk (fun _ _ h => h) ?_
  by_cases hlt : q < C.length
  · have f1 : binV .lss (iv (.ofNat q)) (iv (.ofNat C.length)) = some (.bool true) := lss_t hlt
    have hadd : binV .add (iv (.ofNat q)) (iv (.ofNat 1)) = some (iv (.ofNat (q + 1))) := add_n (by omega)
    obtain ⟨h0, h1, h2⟩ := hC.li hlt
    obtain ⟨ba, ra, na, ca, sla, roa, Ma, a, ea, hba, hna, hMa, ha⟩ := hv.at hlt
    obtain ⟨bb, rb, nb, cb, slb, rob, Mb, b, eb, hbb, hnb, hMb, hb⟩ := hw.at hlt
    obtain ⟨z, hz⟩ := h0.i6
    rw [hz] at hMa hMb
    have k1 : Has ba (.r roa Ma 7) (m ++ s) := .app hba
    have k2 : Has bb (.r rob Mb 7) (m ++ s) := .app hbb
    have p1 := ha.one
    have p2 := hb.one
    refine Vr (k := WO.r (.ia ea hna) (Vr (k := fun b8 => Vr (k := WO.r (.ia eb hnb) (Vr (k := fun b9 => Vr (k := WO.w (WS.call rfl rfl (TriV.func (first := []) (args := [.agg (itRow z a), .agg (itRow z b)]) (cap := []) (item439 hT hS (ha.mono fun p hp => by simp [hp]) (hb.mono fun p hp => by simp [hp]) h1 h2)) ?_))))))))
    rintro _ _ ⟨rfl, m2, rfl⟩
    refine Vr (k := ?_)
    exact ⟨C.length - (q + 1), by omega, rfl, q + 1, _, apL, rfl, hlt, sbs⟩
  · have f1 : binV .lss (iv (.ofNat q)) (iv (.ofNat C.length)) = some (.bool false) := lss_f hlt
    refine Vr (k := ?_)
    exact ⟨rfl, m, rfl⟩
theorem cast440 (hT : BaseSt P K F T) (hS : BaseSl P K F T) {a b c : Int} {q : Bool} {v w : AV} {I : List (List AV)} (hv : Src s 2 v I) (hw : Src s 2 w I) (hn : I.length ≤ 5000) (hI : ∀ q ∈ I, OkR [] rTg q) : SameC P K (F 440) s (.agg [iv a, iv b, iv c, v, .bool q]) (.agg [iv a, iv b, iv c, w, .bool q]) := by
  refine hT.f440.tri ?_
  unfold a440
  have p1 := hv.one
  have p2 := hw.one
  have e0 := eqI a
  have e1 := eqI b
  have e2 := eqI c
  have e3 := eqBo q
  refine Vr (k := fun b2 => Vr (k := fun b3 => Vr (k := WO.w (WS.cl (same457 hT hS (hv.mono fun p hp => by simp [hp]) (hw.mono fun p hp => by simp [hp]) hn hI) ?_))))
  rintro _ _ ⟨rfl, m, rfl⟩
  refine Vr (k := ?_)
  exact ⟨rfl, m ++ [(b3, HO.r false [[iv a, iv b, iv c, w, .bool q]] 5), (b2, HO.r false [[iv a, iv b, iv c, v, .bool q]] 5)], by simp⟩
@[reducible] def reRow (n : Nat → Int) : List AV := [iv (n 0), iv (n 1), iv (n 2), iv (n 3), iv (n 4), iv (n 5), iv (n 6), iv (n 7), iv (n 8), iv (n 12), iv (n 13)]
theorem rest434 (hT : BaseSt P K F T) (t431 : Ty P (T 431) 11) {v : Nat → AV} {n : Nat → Int} {py : Bool} : Tri P K (F 434) [.agg (stRow v n py)] s (fun u s' => u = .agg (reRow n) ∧ ∃ m, s' = m ++ s) := by
  refine hT.f434.tri ?_
  unfold a434
  refine Vr (k := fun b1 => Vr (k := fun b2 => Vr (k := ?_)))
  refine WP.ret (Fin.mk (.ce t431) ?_)
  exact ⟨rfl, [_, _], rfl⟩
end
end Go.Ev
set_option maxHeartbeats 8000000
set_option maxRecDepth 20000
namespace Go.Ev
section
variable {P : Program} {K : Orc} {rd : Option Nat} {nt : Nat} {l : Sl} {ds : List ADef} {s : SH} {Q Qn Qr : Po} {Qe : Nat → Po} {F : Nat → FuncId} {T : Nat → TypeId}
theorem eqRe (n : Nat → Int) : eqBy 20 (.agg [⟨0, ⟨1, ⟨false, .pi⟩⟩⟩, ⟨1, ⟨1, ⟨false, .pi⟩⟩⟩, ⟨2, ⟨1, ⟨false, .pi⟩⟩⟩, ⟨3, ⟨1, ⟨false, .pi⟩⟩⟩, ⟨4, ⟨1, ⟨false, .pi⟩⟩⟩, ⟨5, ⟨1, ⟨false, .pi⟩⟩⟩, ⟨6, ⟨1, ⟨false, .pi⟩⟩⟩, ⟨7, ⟨1, ⟨false, .pi⟩⟩⟩, ⟨8, ⟨1, ⟨false, .pi⟩⟩⟩, ⟨9, ⟨1, ⟨false, .pi⟩⟩⟩, ⟨10, ⟨1, ⟨false, .pi⟩⟩⟩]) (.agg (reRow n)) (.agg (reRow n)) = some true := by
  have h : ∀ n : Int, ieq n n = true := fun n => ieq_iff.2 rfl
  simp [eqBy, primEq, lfold, part, lget, keq, h]
theorem same411 (hT : BaseSt P K F T) (hS : BaseSl P K F T) (t431 : Ty P (T 431) 11) {v w : Nat → AV} {n : Nat → Int} {py : Bool} {c : SC} {B N : Nat} (hv : SrcS s v c) (hw : SrcS s w c) (hc : ScT B N c) (hB : B ≤ 5000) : Tri P K (F 411) [.agg (stRow v n py), .agg (stRow w n py)] s (fun u s' => u = .bool true ∧ Up s s') := by
  refine hT.f411.tri ?_
  unfold a411
  have h10 := eqRe n
  have hc := hc.up hB
  have h4 := hc.n4
  have hpl := hc.pl.1
  refine Vr (k := fun b2 => Vr (k := fun b3 => Vr (k := WD.ch .nil (WS.cl (rest434 hT t431) ?_))))
  rintro _ _ ⟨rfl, m1, rfl⟩
  refine Vr (k := WD.lk rfl .nil .ld (Vr (k := WD.ch .nil (WS.cl (rest434 hT t431) ?_))))
  rintro _ _ ⟨rfl, m2, rfl⟩
  refine Vr (k := WD.ch .nil (WS.cl (same435 hT hS (hv.pl.mono fun p hp => by simp [hp]) (hw.pl.mono fun p hp => by simp [hp]) (by omega) hc.pl.2) ?_))
  rintro _ _ ⟨rfl, m3, rfl⟩
  refine Vr (k := WD.ch .nil (WS.cl (objs436 hT hS (hv.ob.mono fun p hp => by simp [hp]) (hw.ob.mono fun p hp => by simp [hp]) hc.ob) ?_))
  rintro _ _ ⟨rfl, m4, rfl⟩
  refine Vr (k := WD.ch .nil (WS.call rfl rfl (TriV.func (first := []) (args := [v 2, w 2]) (cap := []) (lists431 hT hS (hv.lb.mono fun p hp => by simp [hp]) (hw.lb.mono fun p hp => by simp [hp]) hc.lb.1)) ?_))
  rintro _ _ ⟨rfl, m5, rfl⟩
  refine Vr (k := WD.ch .nil (WS.call rfl rfl (TriV.func (first := []) (args := [v 3, w 3]) (cap := []) (lists431 hT hS (hv.hd.mono fun p hp => by simp [hp]) (hw.hd.mono fun p hp => by simp [hp]) hc.hd.1)) ?_))
  rintro _ _ ⟨rfl, m6, rfl⟩
  refine Vr (k := WD.ch .nil (WS.call rfl rfl (TriV.func (first := []) (args := [v 4, w 4]) (cap := []) (lists431 hT hS (hv.gr.mono fun p hp => by simp [hp]) (hw.gr.mono fun p hp => by simp [hp]) hc.gr.1)) ?_))
  rintro _ _ ⟨rfl, m7, rfl⟩
  refine Vr (k := WD.ch .nil (WS.call rfl rfl (TriV.func (first := []) (args := [v 5, w 5]) (cap := []) (lists431 hT hS (hv.ex.mono fun p hp => by simp [hp]) (hw.ex.mono fun p hp => by simp [hp]) hc.ex.1)) ?_))
  rintro _ _ ⟨rfl, m8, rfl⟩
  refine Vr (k := WD.ch .nil (WS.cl (same433 hT hS (hv.fi.mono fun p hp => by simp [hp]) (hw.fi.mono fun p hp => by simp [hp]) hc.fi.1 hc.fi.2) ?_))
  rintro _ _ ⟨rfl, m9, rfl⟩
  refine Vr (k := WD.ch .nil (WS.cl (items438 hT hS (hv.st.mono fun p hp => by simp [hp]) (hw.st.mono fun p hp => by simp [hp]) hc.st) ?_))
  rintro _ _ ⟨rfl, m10, rfl⟩
  refine Vr (k := WD.ch .nil (WS.cl (items438 hT hS (hv.wa.mono fun p hp => by simp [hp]) (hw.wa.mono fun p hp => by simp [hp]) hc.wa) ?_))
  rintro _ _ ⟨rfl, m11, rfl⟩
  refine Vr (k := WD.ch .nil (WS.cl (cast440 hT hS (hv.kt.mono fun p hp => by simp [hp]) (hw.kt.mono fun p hp => by simp [hp]) hc.kt.1 hc.kt.2) ?_))
  rintro _ _ ⟨rfl, m12, rfl⟩
  refine Vr (k := WD.nil .nil ?_ (ob1 rfl rfl hw.sm .ld .ld))
  refine Vr (k := ?_)
  exact ⟨rfl, Up.rfl.cons.cons.app.app.app.app.app.app.app.app.app.app.app.app⟩
end
end Go.Ev
namespace Go.Ev
section
variable {P : Program} {K : Orc} {rd : Option Nat} {nt : Nat} {l : Sl} {ds : List ADef} {s : SH} {Qn Qr : Po} {Qe : Nat → Po} {H0 Hx : Heap} {d : Option Nat} {op : AOp}
def XS (P : Program) (K : Orc) (Hx : Heap) (op : AOp) (l : Sl) (ds : List ADef) (v : AV) : Prop := ∀ e, En l e → OpTo P K e op ds Hx (.mk v ds Hx)
def XO (P : Program) (K : Orc) (Hx : Heap) (ol : List AOper) (l : Sl) (ds : List ADef) (Q : Sl → Prop) : Prop :=
  ∀ (nt : Nat) (ops : Array Oper) (l0 : List Oper), lmapO (co P nt ops.toList) l0 = some ol → ∀ (e : Tr AV), En l e → ∃ e' l', OpsTo P K nt ops l0 e ds Hx (.mk .normal e' ds Hx) ∧ En l' e' ∧ Q l'
variable {Q : Sl → Prop}
theorem XS.r {v : AV} (hx : Hp H0 s Hx) (h : WR P op l s v) : XS P K Hx op l ds v := fun e he => ⟨0, by rw [h.q, h.h H0 e Hx he hx]⟩
theorem XS.cl {fo : Operand} {args : List Operand} {f : FuncId} {vs : List AV} {v : AV} (hk : K f vs Hx = some (v, Hx)) (hf : opl l fo = some (.func f [] []) := by rfl) (ha : lmapO (opl l) args = some vs := by rfl) : XS P K Hx (.call fo args) l ds v := by
  intro e he
  have hc : CallsV P K (.func f [] []) vs Hx v Hx := CallsV.func (by simpa using CallsTo.known hk)
  obtain ⟨n, h1⟩ := hc
  refine ⟨n, ?_⟩
  simp only [oper, opl_ok he hf, opls_ok he ha, h1]
theorem XO.nil (h : Q l) : XO P K Hx [] l ds Q := by
  intro nt ops l0 hl e he
  cases l0 with
  | nil => exact ⟨_, _, OpsTo.nil, he, h⟩
  | cons a l0 =>
    obtain ⟨b, bs, _, _, h3⟩ := (lmapO_cons _ a l0 _).1 hl
    cases h3
theorem XO.cons {rest : List AOper} {v : AV} (h : XS P K Hx op l ds v) (k : XO P K Hx rest (pl d v l) ds Q) : XO P K Hx (⟨d, op, none⟩ :: rest) l ds Q := by
  intro nt ops l0 hl e he
  cases l0 with
  | nil => cases hl
  | cons a l0 =>
    obtain ⟨b, bs, h1, h2, h3⟩ := (lmapO_cons _ a l0 _).1 hl
    cases h3
    have hc : cOper P nt a = ⟨d, op, none⟩ := by
      unfold co at h1
      generalize cOper P nt a = z at h1 ⊢
      obtain ⟨d', op', g'⟩ := z
      cases g' with
      | none => cases h1; rfl
      | some jw =>
        unfold cg at h1
        grind
    obtain ⟨e', l', j1, j2, j3⟩ := k nt ops l0 h2 (putO e d v) (he.putO d v)
    exact ⟨_, _, OpsTo.cons hc rfl (h e he) j1, j2, j3⟩
theorem XO.yes {jj : Nat} {w : Bool} {rest : List AOper} (h : XO P K Hx (⟨d, op, none⟩ :: rest) l ds Q) (hj : Go.Ev.lk l jj = some (.bool w) := by rfl) : XO P K Hx (⟨d, op, some (jj, w)⟩ :: rest) l ds Q := by
  intro nt ops l0 hl e he
  cases l0 with
  | nil => cases hl
  | cons a l0 =>
    obtain ⟨c, cs, g1, g2, g3⟩ := (lmapO_cons _ a l0 _).1 hl
    cases g3
    obtain ⟨k, hc, hk⟩ : ∃ k, cOper P nt a = ⟨d, op, some (k, w)⟩ ∧ ∃ o, lget ops.toList k = some o ∧ o.dst = some jj := by
      unfold co at g1
      generalize cOper P nt a = z at g1 ⊢
      obtain ⟨d', op', g'⟩ := z
      cases g' with
      | none => cases g1
      | some kw =>
        unfold cg at g1
        grind
    obtain ⟨o, ho, hd⟩ := hk
    have hw : wanted e ops (some (k, w)) = some true := by
      unfold wanted
      simp only [ho, hd, he jj _ hj, beq_self_eq_true]
    have hc' : cOper P nt { a with guard := none } = ⟨d, op, none⟩ := by
      have key : cOper P nt { a with guard := none } = { cOper P nt a with guard := none } := by
        unfold cOper
        grind
      rw [key, hc]
    have hl' : lmapO (co P nt ops.toList) ({ a with guard := none } :: l0) = some (⟨d, op, none⟩ :: rest) :=
      (lmapO_cons _ _ _ _).2 ⟨_, _, by unfold co; rw [hc']; rfl, g2, rfl⟩
    obtain ⟨e', l', ⟨n, j1⟩, j2, j3⟩ := h nt ops _ hl' e he
    refine ⟨e', l', ⟨n, ?_⟩, j2, j3⟩
    have hs : opStep P (ev P K n) nt ops (.mk .normal e ds Hx) a = opStep P (ev P K n) nt ops (.mk .normal e ds Hx) { a with guard := none } := by
      unfold opStep
      simp only [hc, hc', hw]
      rfl
    rw [lfold_cons] at j1 ⊢
    grind
def XD (P : Program) (K : Orc) (H0 Hx : Heap) (s : SH) (rd : Option Nat) (cl : List DC) (j : Nat) (hs : List SH) (os : List OB) (l : Sl) (ds : List ADef) (Q : Sl → Prop) : Prop :=
  ∀ (ops : Array Oper) (anc : Tr Nat) (l0 : List DOp), dcs ops.toList anc j l0 = some cl → ∀ (S : DS), DR' H0 j [] [] hs os [] l ds s S → S.H = Hx →
    ∃ n S', lfold (dstep P (ev P K n) rd ops anc) l0 S = some S' ∧ lall (looksOk P S'.Hs.reverse S'.pend S'.mats) S'.looks = true ∧ S'.pend = [] ∧ S'.H = Hx ∧ S'.ds = ds ∧ ∃ l', En l' S'.e ∧ Q l'
variable {j lo hi a : Nat} {hs : List SH} {os : List OB} {v : AV} {rest : List DC}
theorem pend_nil {p : List Pend} (h : PRel [] p) : p = [] := by
  cases p with
  | nil => rfl
  | cons x p => exact h.elim
theorem XD.nil (h : Q l) (ho : ∀ o ∈ os, OBok P (s :: hs) [] o) : XD P K H0 Hx s rd [] j hs os l ds Q := by
  intro ops anc l0 hd S hS hH
  cases l0 with
  | nil =>
    refine ⟨0, S, rfl, ?_, pend_nil hS.pd, hH, hS.ds, l, hS.en, h⟩
    have key : ∀ (os : List OB) (ks : List Look), LkR os ks → (∀ o ∈ os, OBok P (s :: hs) [] o) → lall (looksOk P S.Hs.reverse S.pend S.mats) ks = true := by
      intro os
      induction os with
      | nil => intro ks h _; cases ks with
        | nil => rfl
        | cons _ _ => exact h.elim
      | cons o os ih =>
        intro ks h ho
        cases ks with
        | nil => exact h.elim
        | cons k ks =>
          exact (lall_cons _ _ _).2 ⟨lookd_ok hS.hs hS.pi hS.mi (ho o (List.mem_cons_self ..)) h.1, ih ks h.2 fun o' ho' => ho o' (List.mem_cons_of_mem _ ho')⟩
    exact key os S.looks hS.os ho
  | cons x r =>
    exfalso
    unfold dcs at hd
    grind
theorem XD.step {c : DC} (hg : c.o.guard = none) {l' : Sl} {hs' : List SH} {os' : List OB}
    (h : ∀ (ops : Array Oper) (anc : Tr Nat) (d0 : DOp) (S : DS), d0.o.dst = c.o.dst → d0.o.op = c.o.op → d0.o.guard = none → d0.cls = c.cls → d0.lo = c.lo → d0.hi = c.hi → anc.get j = some c.anc → DR' H0 j [] [] hs os [] l ds s S → S.H = Hx →
      ∃ n S', dstep P (ev P K n) rd ops anc S d0 = some S' ∧ DR' H0 (j + 1) [] [] hs' os' [] l' ds s S' ∧ S'.H = Hx)
    (k : XD P K H0 Hx s rd rest (j + 1) hs' os' l' ds Q) : XD P K H0 Hx s rd (c :: rest) j hs os l ds Q := by
  intro ops anc l0 hd S hS hH
  obtain ⟨d0, r0, rfl, h1, h2, h3, h4, h5, h6, h7, h8⟩ := dcs_cons hd
  rw [hg] at h3
  obtain ⟨n, S1, i1, i2, i3⟩ := h ops anc d0 S h1 h2 (cg_none h3) h4 h5 h6 h7 hS hH
  obtain ⟨m, S', j1, j2⟩ := k ops anc r0 h8 S1 i2 i3
  refine ⟨max n m, S', (lfold_cons _ _ _ _ _).2 ⟨S1, dstep_le (ev_le P K (Nat.le_max_left n m)) i1, ?_⟩, j2⟩
  exact lfold_le (fun _ _ _ hf => dstep_le (ev_le P K (Nat.le_max_right n m)) hf) _ _ _ j1
theorem XD.pu (h : WR P op l s v) (k : XD P K H0 Hx s rd rest (j + 1) hs os (pl d v l) ds Q) : XD P K H0 Hx s rd (⟨⟨d, op, none⟩, .pure, lo, hi, a⟩ :: rest) j hs os l ds Q := by
  refine XD.step rfl ?_ k
  intro ops anc d0 S h1 h2 h3 h4 h5 h6 h7 hS hH
  refine ⟨0, { S with e := Ev.putO S.e d v, j := Nat.succ S.j }, ?_, ⟨hS.en.putO d v, hS.ds, hS.hp, by show S.j + 1 = _; rw [hS.j], hS.bs, hS.pd, hS.hs, hS.os, hS.pi, hS.mi⟩, hH⟩
  unfold dstep
  rw [h3, h4]
  simp only [wanted, h2, h.h H0 S.e S.H hS.en hS.hp, h1]
theorem XD.ld (hlo : Nat.beq lo hi = true) (h : WR P op l s v) (k : XD P K H0 Hx s rd rest (j + 1) hs os (pl d v l) ds Q) : XD P K H0 Hx s rd (⟨⟨d, op, none⟩, .read, lo, hi, a⟩ :: rest) j hs os l ds Q := by
  refine XD.step rfl ?_ k
  intro ops anc d0 S h1 h2 h3 h4 h5 h6 h7 hS hH
  obtain ⟨H1, w1, w2⟩ := lay_anc (a := a) (r := []) (.nil (acc := [])) hS.pd hS.hp
  refine ⟨0, { S with e := Ev.putO S.e d v, j := Nat.succ S.j }, ?_, ⟨hS.en.putO d v, hS.ds, hS.hp, by show S.j + 1 = _; rw [hS.j], hS.bs, hS.pd, hS.hs, hS.os, hS.pi, hS.mi⟩, hH⟩
  unfold dstep
  rw [h3, h4, hS.j]
  simp only [wanted, h7, w1, h2, h.h H0 S.e H1 hS.en w2, h5, h6, hlo, h1]
theorem XD.lk (hlo : Nat.beq lo hi = false) (h : WR P op l s v) (k : XD P K H0 Hx s rd rest (j + 1) hs (⟨op, l, v, a, lo, hi⟩ :: os) (pl d v l) ds Q) : XD P K H0 Hx s rd (⟨⟨d, op, none⟩, .read, lo, hi, a⟩ :: rest) j hs os l ds Q := by
  refine XD.step rfl ?_ k
  intro ops anc d0 S h1 h2 h3 h4 h5 h6 h7 hS hH
  obtain ⟨H1, w1, w2⟩ := lay_anc (a := a) (r := []) (.nil (acc := [])) hS.pd hS.hp
  refine ⟨0, { S with e := Ev.putO S.e d v, j := Nat.succ S.j, looks := ⟨S.e, op, a, lo, hi, v⟩ :: S.looks }, ?_, ⟨hS.en.putO d v, hS.ds, hS.hp, by show S.j + 1 = _; rw [hS.j], hS.bs, hS.pd, hS.hs, ⟨⟨hS.en, rfl, rfl, rfl, rfl, rfl⟩, hS.os⟩, hS.pi, hS.mi⟩, hH⟩
  unfold dstep
  rw [h3, h4, hS.j]
  simp only [wanted, h7, w1, h2, h.h H0 S.e H1 hS.en w2, h5, h6, hlo, h1]
theorem XD.ch (h : XS P K Hx op l ds v) (k : XD P K H0 Hx s rd rest (j + 1) (s :: hs) os (pl d v l) ds Q) : XD P K H0 Hx s rd (⟨⟨d, op, none⟩, .chain, lo, hi, a⟩ :: rest) j hs os l ds Q := by
  refine XD.step rfl ?_ k
  intro ops anc d0 S h1 h2 h3 h4 h5 h6 h7 hS hH
  obtain ⟨n, k1⟩ := h S.e hS.en
  have hp0 := pend_nil hS.pd
  refine ⟨n, { S with e := Ev.putO S.e d v, ds := ds, H := Hx, Hs := Hx :: S.Hs, j := Nat.succ S.j, pend := [], mats := S.mats }, ?_, ⟨hS.en.putO d v, rfl, hH ▸ hS.hp, by show S.j + 1 = _; rw [hS.j], hS.bs, trivial, ⟨hH ▸ hS.hp, hS.hs⟩, hS.os, (fun p hp => nomatch hp), hS.mi⟩, rfl⟩
  have hset : settle a (llen S.Hs) S.pend S.mats S.H = some ([], S.mats, Hx) := by rw [hp0, hH]; rfl
  unfold dstep
  rw [h3, h4, hS.j]
  simp only [wanted, h7, hset, h2, hS.ds, k1, h1]
theorem XP.drawn0 {cl : List DC} (hx : Hp H0 s Hx) (h : XD P K H0 Hx s rd cl 0 [] [] l ds Q) {c0 : Code} (hc : cc P nt c0 = .drawn 0 cl) {e : Tr AV} (he : En l e) : ∃ e' l', Runs P K rd nt c0 e ds Hx (.mk .normal e' ds Hx) ∧ En l' e' ∧ Q l' := by
  cases c0 with
  | region i ops d =>
    cases d with
    | false =>
      exfalso
      have hc : (match lmapO (co P nt ops.toList) ops.toList with | some l => AC.ops l | none => .bad) = .drawn 0 cl := hc
      grind
    | true =>
      have hc : cdr P nt ops = .drawn 0 cl := hc
      unfold cdr at hc
      split at hc
      · rename_i I hI
        split at hc
        · rename_i l' hl'
          injection hc with h0 hc
          subst hc
          obtain ⟨n, S', h1, h2, h3, h4, h5, l', h6, h7⟩ := h ops I.anc I.ops hl' (⟨e, ds, ⟨Hx.t, Nat.add Hx.next I.nd⟩, [⟨Hx.t, Nat.add Hx.next I.nd⟩], 0, Hx.next, [], [], []⟩ : DS) (by rw [h0]; exact ⟨he, rfl, hx, rfl, trivial, trivial, ⟨hx, trivial⟩, trivial, (fun p hp => nomatch hp), (fun p hp => nomatch hp)⟩) (by rw [h0]; rfl)
          refine ⟨S'.e, l', ⟨n + 1, ?_⟩, h6, h7⟩
          show runDraw P (ev P K n) rd nt ops e ds Hx = _
          have h8 : lfold (fun (H : Heap) (p : Pend) => some (H.put p.id p.o)) S'.pend S'.H = some Hx := by rw [h3, h4]; rfl
          unfold runDraw
          grind
        · cases hc
      · cases hc
  | _ => simp [cc] at hc
theorem XP.ops {ol : List AOper} (h : XO P K Hx ol l ds Q) {c0 : Code} (hc : cc P nt c0 = .ops ol) {e : Tr AV} (he : En l e) : ∃ e' l', Runs P K rd nt c0 e ds Hx (.mk .normal e' ds Hx) ∧ En l' e' ∧ Q l' := by
  cases c0 with
  | region i ops d =>
    cases d with
    | true =>
      exfalso
      have hc : cdr P nt ops = .ops ol := hc
      unfold cdr at hc
      grind
    | false =>
      have hc : (match lmapO (co P nt ops.toList) ops.toList with | some l => AC.ops l | none => .bad) = .ops ol := hc
      split at hc
      · rename_i l' hl'
        cases hc
        obtain ⟨e', l', h1, h2, h3⟩ := h nt ops ops.toList hl' e he
        exact ⟨_, _, Runs.region h1, h2, h3⟩
      · cases hc
  | _ => simp [cc] at hc
theorem WP.fix {cl : List DC} {ol : List AOper} (h : ∀ (H0 Hx : Heap), Hp H0 s Hx → XD P K H0 Hx s rd cl 0 [] [] l ds (fun l1 => XO P K Hx ol l1 ds (fun l2 => Qr l2 ds s))) : WP P K rd nt (.seq (.drawn 0 cl) (.seq (.ops ol) .ret)) l ds s Qn Qe Qr := by
  intro c0 hc H0 e H he hH
  cases c0 with
  | seq a0 b0 =>
    simp only [cc, AC.seq.injEq] at hc
    obtain ⟨hc1, hc2⟩ := hc
    obtain ⟨e1, l1, r1, n1, q1⟩ := XP.drawn0 hH (h H0 H hH) hc1 he
    cases b0 with
    | seq a1 b1 =>
      simp only [cc, AC.seq.injEq] at hc2
      obtain ⟨e2, l2, r2, n2, q2⟩ := XP.ops q1 hc2.1 n1
      obtain ⟨x, e3, ds3, H3, l3, s3, k1, k2, k3, k4⟩ := WP.ret (P := P) (K := K) (rd := rd) (nt := nt) (Qn := Qn) (Qe := Qe) q2 b1 hc2.2 H0 e2 H n2 hH
      exact ⟨x, e3, ds3, H3, l3, s3, Runs.seq r1 (Runs.seq r2 k1), k2, k3, k4⟩
    | region i ops d => exact (cc_region hc2).elim
    | _ => simp [cc] at hc2
  | region i ops d => exact (cc_region hc).elim
  | _ => simp [cc] at hc
end
end Go.Ev
namespace Go.Ev
inductive Sim : AObj → AObj → Prop
  | rfl {o : AObj} : Sim o o
  | rows {t t' : Tr (List AV)} {n sz : Nat} {ro : Bool} (h : ∀ i, i < n → t.get i = t'.get i) : Sim (.rows t n sz ro) (.rows t' n sz ro)
theorem Sim.br {o o' : AObj} (h : Sim o o') {g : G} {ob : Option Obj} {d : Gd} (hb : BR g ob o d) : BR g ob o' d := by
  cases h with
  | rfl => exact hb
  | rows h =>
    obtain ⟨h1, c, el, fz, h2, hz, h3, h4⟩ := hb
    exact ⟨h1, c, el, fz, h2, hz, h3, fun i row hi ht => h4 i row hi (by rw [h i hi]; exact ht)⟩
structure HSim (H I : Heap) : Prop where
  get : ∀ b o, I.get b = some o → ∃ o', H.get b = some o' ∧ Sim o' o
  next : H.next = I.next
theorem HR.sim {X : Pt} {w0 : World} {g : G} {H I : Heap} {w : World} (h : HR X w0 g H w) (e : HSim H I) : HR X w0 g I w := by
  refine ⟨fun b o hb => ?_, fun b b' o o' d d' hb hb' => ?_, fun b hb => h.fresh b (by rw [e.next]; exact hb), fun b o d hb hw => ?_, h.keep, h.size, h.os, fun b hb => by rw [← e.next]; exact h.hole b hb, h.down, fun b o d hb hw => ?_⟩
  · obtain ⟨o1, h1, h2⟩ := e.get b o hb
    obtain ⟨d, h3, h4⟩ := h.obj b o1 h1
    exact ⟨d, h3, h2.br h4⟩
  · obtain ⟨o1, h1, _⟩ := e.get b o hb
    obtain ⟨o2, h2, _⟩ := e.get b' o' hb'
    exact h.inj b b' o1 o2 d d' h1 h2
  · obtain ⟨o1, h1, h2⟩ := e.get b o hb
    exact h.prot b o1 d h1 (by cases h2 <;> exact hw)
  · obtain ⟨o1, h1, h2⟩ := e.get b o hb
    exact h.tag0 b o1 d h1 (by cases h2 <;> exact hw)
section
variable {g : G} {n : Nat}
theorem G.lt_of (hg : ∀ b, n ≤ b → g b = none) {b : Nat} {d : Gd} (h : g b = some d) : b < n := by
  by_cases hb : b < n
  · exact hb
  · rw [hg b (by omega)] at h; cases h
mutual
theorem VR.bel (hg : ∀ b, n ≤ b → g b = none) : ∀ (v : AV) (x : Value), VR g v x → AV.Bel n v
  | .bool _, _, _ => trivial
  | .int _ _, _, _ => trivial
  | .str _, _, _ => trivial
  | .ptr none, _, _ => trivial
  | .ptr (some p), _, ⟨d, hd, e⟩ => G.lt_of hg hd
  | .slice none _ _ _ _, _, _ => trivial
  | .slice (some p) _ _ _ _, _, ⟨d, hd, e⟩ => G.lt_of hg hd
  | .empty, _, _ => trivial
  | .map none, _, _ => trivial
  | .map (some b), _, ⟨d, hd, e⟩ => G.lt_of hg hd
  | .func f a b, _, ⟨xs, ys, h1, h2, e⟩ => ⟨VRs.bel hg a xs h1, VRs.bel hg b ys h2⟩
  | .mfunc n r, _, ⟨y, hy, e⟩ => VR.bel hg r y hy
  | .yield l, _, ⟨d, hd, e⟩ => G.lt_of hg hd
  | .nilFunc, _, _ => trivial
  | .iface t v, _, ⟨y, hy, e⟩ => VR.bel hg v y hy
  | .nilIface, _, _ => trivial
  | .agg cs, _, ⟨xs, h1, h2⟩ => VRs.bel hg cs xs h1
  | .tuple cs, _, ⟨xs, h1, h2⟩ => VRs.bel hg cs xs h1
theorem VRs.bel (hg : ∀ b, n ≤ b → g b = none) : ∀ (vs : List AV) (xs : List Value), VRs g vs xs → AV.Bels n vs
  | [], _, _ => trivial
  | v :: vs, _, ⟨y, ys, h1, h2, e⟩ => ⟨VR.bel hg v y h1, VRs.bel hg vs ys h2⟩
end
theorem BR.bel (hg : ∀ b, n ≤ b → g b = none) {ob : Option Obj} {o : AObj} {d : Gd} (h : BR g ob o d) : AObj.Bel n o := by
  cases o with
  | deferred => trivial
  | map es =>
    obtain ⟨cs, cl, h1, h2⟩ := h
    intro i k v hi
    obtain ⟨j, c, h3, h4, h5⟩ := h2.get i k v hi
    exact VR.bel hg _ _ h5
  | loop e nt ps asg body st pend D =>
    obtain ⟨fn, tm, dD, h1, h2, h3, h4, h5⟩ := h
    refine ⟨G.lt_of hg h2, fun t v ht => ?_⟩
    obtain ⟨x, hx, hv⟩ := h4 t v ht
    exact VR.bel hg _ _ hv
  | rows t m sz ro =>
    obtain ⟨h1, c, el, fz, h2, hz, h3, h4⟩ := h
    intro i row hi ht j v hj
    obtain ⟨x, hx, hv, ho⟩ := (h4 i row hi ht).2 j v hj
    exact VR.bel hg _ _ hv
end
def isR : Nat × HO → Bool
  | (_, .r _ _ _) => true
  | _ => false
theorem isR_ex {p : Nat × HO} (h : isR p = true) : ∃ b ro L sz, p = (b, .r ro L sz) := by
  obtain ⟨b, o⟩ := p
  cases o <;> first | exact ⟨_, _, _, _, rfl⟩ | cases h
open Classical in
noncomputable def allH (s : SH) (H : Heap) : SH := s.filter isR ++ (List.range H.next).filterMap fun b => if ∃ o, (b, o) ∈ s.filter isR then none else (H.get b).map fun o => (b, .ob o)
theorem allH_hp {H0 H : Heap} {s : SH} (hp : Hp H0 s H) : Hp H (allH s H) H := by
  refine ⟨Nat.le_refl _, fun b o hb => ?_, ?_, fun _ _ _ => rfl⟩
  · rcases List.mem_append.1 hb with hb | hb
    · exact hp.ok b o (List.mem_filter.1 hb).1
    · obtain ⟨c, hc, h1⟩ := List.mem_filterMap.1 hb
      split at h1
      · cases h1
      · obtain ⟨o', h2, h3⟩ := Option.map_eq_some_iff.1 h1
        cases h3
        exact ⟨List.mem_range.1 hc, h2⟩
  · refine List.pairwise_append.2 ⟨hp.nd.filter _, ?_, ?_⟩
    · refine List.Pairwise.filterMap _ (R := fun a b => a ≠ b) ?_ List.nodup_range
      intro a a' hne p h1 p' h2
      split at h1
      · cases h1
      · split at h2
        · cases h2
        · obtain ⟨_, _, h3⟩ := Option.map_eq_some_iff.1 h1
          obtain ⟨_, _, h4⟩ := Option.map_eq_some_iff.1 h2
          cases h3; cases h4
          exact hne
    · intro p h1 q h2 e
      obtain ⟨c, hc, h3⟩ := List.mem_filterMap.1 h2
      split at h3
      · cases h3
      · rename_i hn
        obtain ⟨o, _, h4⟩ := Option.map_eq_some_iff.1 h3
        cases h4
        exact hn ⟨p.2, by have e : p.1 = c := e; rw [← e]; exact h1⟩
theorem Tri.kcon {P : Program} (hm : P.follows .mixedOrders = true) {K : Orc} (hK : OrcOk P K) {f : FuncId} {args : List AV} {H0 H : Heap} {s : SH} {D : AV → Prop} (hp : Hp H0 s H) (h : ∀ s', (∀ p, p ∈ s.filter isR → p ∈ s') → Tri P K f args s' (fun w s'' => D w ∧ Up s' s'')) (hD : ∀ w, D w → ∀ n, AV.Bel n w) : ∃ v, KCon P f args H v H ∧ D v := by
  obtain ⟨v, s'', H', ⟨n, hc⟩, hp'', hDv, hU⟩ := h (allH s H) (fun p hp => List.mem_append_left _ hp) H H (allH_hp hp)
  refine ⟨v, ⟨fun {X w0 g w xs} hH hv => ?_⟩, hDv⟩
  have top : ∀ c, H.next ≤ c → H.get c = none := fun c hc => hH.none_of_next hc
  have hle := hp''.le
  have e1 : HSim H' ⟨H.t, H'.next⟩ := by
    refine ⟨fun b o hb => ?_, rfl⟩
    have hb : H.get b = some o := hb
    have hlt : b < H.next := by
      by_cases hlt : b < H.next
      · exact hlt
      · rw [top b (by omega)] at hb; cases hb
    by_cases he : ∃ o, (b, o) ∈ s.filter isR
    · obtain ⟨o1, h1⟩ := he
      obtain ⟨b', ro, L, sz, h2⟩ := isR_ex (List.mem_filter.1 h1).2
      cases h2
      obtain ⟨t, h3, h4⟩ := (hp.ok _ _ (List.mem_filter.1 h1).1).2
      obtain ⟨t', h5, h6⟩ := (hp''.ok _ _ (hU.mem _ (List.mem_append_left _ h1))).2
      rw [h3] at hb
      cases hb
      exact ⟨_, h5, .rows fun i hi => ((h6 i L[i] (List.getElem?_eq_getElem hi)).1.trans (h4 i L[i] (List.getElem?_eq_getElem hi)).1.symm)⟩
    · have hmem : (b, HO.ob o) ∈ allH s H := List.mem_append_right _ (List.mem_filterMap.2 ⟨b, List.mem_range.2 hlt, by rw [if_neg he, hb]; rfl⟩)
      exact ⟨o, (hp''.ok _ _ (hU.mem _ hmem)).2, .rfl⟩
  have e2 : Upto H.next ⟨H.t, H'.next⟩ H := by
    refine ⟨rfl, hle, fun b o hb => ?_⟩
    obtain ⟨d, h1, h2⟩ := hH.obj b o hb
    refine ⟨?_, hb, h2.bel fun c hc => hH.fresh c hc⟩
    by_cases hlt : b < H.next
    · exact hlt
    · rw [top b (by omega)] at hb; cases hb
  have hk := KCon.of_ev hm hK hc
  have hk2 : KCon P f args H v ⟨H.t, H'.next⟩ := ⟨fun hH hv => by
    obtain ⟨h1, h2⟩ := hk.call hH hv
    refine ⟨h1, CallsIn.mono h2 ?_⟩
    rintro r w' ⟨x, rfl, g', hg, hx, hh⟩
    exact ⟨x, rfl, g', hg, hx, hh.sim e1⟩⟩
  exact (hk2.upto e2 (Nat.le_refl _) (hD v hDv _)).call hH hv
end Go.Ev
set_option maxHeartbeats 8000000
set_option maxRecDepth 20000
namespace Go.Ev
section
variable {P : Program} {K : Orc} {rd : Option Nat} {nt : Nat} {l : Sl} {ds : List ADef} {s : SH} {Q Qn Qr : Po} {Qe : Nat → Po} {F : Nat → FuncId} {T : Nat → TypeId}
theorem OkR.snoc {r : List AV} {a : AV} {sc : List CT} {ct : CT} (h : OkR s sc r) (ha : OkV s ct a) : OkR s (sc ++ [ct]) (r ++ [a]) := by
  induction sc generalizing r with
  | nil => cases h.nil_inv; exact .cons ha .nil
  | cons c sc ih =>
    obtain ⟨b, r', rfl, hb, hr⟩ := h.inv
    exact .cons hb (ih hr)
theorem RowsN.ok {sc inn : List CT} {L : List (List AV)} {C : Cn} (h : RowsN s inn.length L C) : (∀ p ∈ C, OkR [] sc p.1 ∧ p.2.length ≤ big ∧ ∀ q ∈ p.2, OkR [] inn q) → ∀ row ∈ L, OkR s (sc ++ [.s inn]) row := by
  induction h with
  | nil => intro _ row h; cases h
  | @cons r a I L C h _ ih =>
    intro hC row hr
    obtain ⟨h1, h2, h3⟩ := hC _ (List.mem_cons_self ..)
    rcases List.mem_cons.1 hr with rfl | hr
    · have hI : SlT s inn a I := ⟨h, h2, fun q hq => (h3 q hq).mono fun p hp => nomatch hp⟩
      exact (h1.mono fun p hp => nomatch hp).snoc hI.ok
    · exact ih (fun p hp => hC p (List.mem_cons_of_mem _ hp)) row hr
theorem SrcN.slt {B : Nat} {sc inn : List CT} {v : AV} {C : Cn} (h : SrcN s sc.length inn.length v C) (hC : CnT B sc inn C) (hB : B ≤ big) : ∃ L, SlT s (sc ++ [.s inn]) v L ∧ RowsN s inn.length L C := by
  obtain ⟨L, h1, h2⟩ := h
  refine ⟨L, ⟨by simpa using h1, by rw [h2.len]; exact Nat.le_trans hC.len hB, h2.ok fun p hp => ?_⟩, h2⟩
  obtain ⟨a, b, c⟩ := hC.row p hp
  exact ⟨a, Nat.le_trans b hB, c⟩
theorem RowsN.efb {B : Nat} {L : List (List AV)} {C : Cn} (h : RowsN s 4 L C) : (∀ p ∈ C, p.1.length = 13 ∧ p.2.length ≤ 1000) → ∀ r ∈ L, EfB r := by
  induction h with
  | nil => intro _ r hr; cases hr
  | @cons r a I L C h _ ih =>
    intro hC row hr
    obtain ⟨h1, h2⟩ := hC _ (List.mem_cons_self ..)
    have h1 : r.length = 13 := h1
    rcases List.mem_cons.1 hr with rfl | hr
    · intro v k hv hk
      rw [List.getElem?_append_right (by omega), h1] at hv
      cases hv
      rw [h.lenOf] at hk
      cases hk
      exact h2
    · exact ih (fun p hp => hC p (List.mem_cons_of_mem _ hp)) row hr
theorem Src.slt {sz B : Nat} {ct : List CT} {v : AV} {L : List (List AV)} (h : Src s ct.length v L) (hB : L.length ≤ B) (hb : B ≤ big) (hT : ∀ r ∈ L, OkR [] ct r) : SlT s ct v L :=
  ⟨h, Nat.le_trans hB hb, fun r hr => (hT r hr).mono fun p hp => nomatch hp⟩
structure Ask (s : SH) (v : Nat → AV) : Prop where
  sta : Sta s v
  sml : Sml v
  rest : ∃ L Lf Lc, SlT s rOb (v 1) L ∧ SlT s [.i] (v 6) Lf ∧ SlT s rCd (v 10) Lc ∧ (∀ r ∈ L, EfB r) ∧ (∀ r ∈ Lc, ∀ v k, r[10]? = some v → lenOf v = some k → k ≤ 1048576) ∧ Lf.length ≤ 500
theorem SrcS.ask {v : Nat → AV} {c : SC} {N : Nat} {w : AV} {Lc : List (List AV)} (h : SrcS s v c) (hc : ScT 180 N c) (hw : SlT s rCd w Lc) (hF : ∀ row ∈ Lc, ∀ a ∈ row, Fit a) : Ask s (upd v 10 w) := by
  have h4 := hc.n4
  have hb : (180 : Nat) ≤ big := by decide
  have hpl : SlT s rPl (v 0) c.pl := Src.slt (sz := 8) h.pl (B := 180) (by have := hc.pl.1; omega) hb hc.pl.2
  obtain ⟨Lo, h1, h1'⟩ := SrcN.slt (sc := sOb) (inn := rEf) h.ob hc.ob hb
  obtain ⟨L2, h2, -⟩ := SrcN.slt (sc := []) (inn := [.i]) h.lb hc.lb.1 hb
  obtain ⟨L3, h3, -⟩ := SrcN.slt (sc := []) (inn := [.i]) h.hd hc.hd.1 hb
  obtain ⟨L4, h4', -⟩ := SrcN.slt (sc := []) (inn := [.i]) h.gr hc.gr.1 hb
  obtain ⟨L5, h5, -⟩ := SrcN.slt (sc := []) (inn := [.i]) h.ex hc.ex.1 hb
  have h6 : SlT s [.i] (v 6) c.fi := Src.slt (sz := 1) h.fi hc.fi.1 hb hc.fi.2
  obtain ⟨L7, h7, -⟩ := SrcN.slt (sc := sIt) (inn := rTg) h.st hc.st hb
  obtain ⟨L8, h8, -⟩ := SrcN.slt (sc := sIt) (inn := rTg) h.wa hc.wa hb
  have h9 : SlT s rTg (v 9) c.kt := Src.slt (sz := 2) h.kt hc.kt.1 hb hc.kt.2
  refine ⟨⟨⟨_, hpl⟩, ⟨_, h1⟩, ⟨_, h2⟩, ⟨_, h3⟩, ⟨_, h4'⟩, ⟨_, h5⟩, ⟨_, h6⟩, ⟨_, h7⟩, ⟨_, h8⟩, ⟨_, h9⟩, ⟨_, hw⟩⟩, ⟨fun k hk => ?_, fun k hk => ?_⟩, ⟨Lo, c.fi, Lc, h1, h6, hw, h1'.efb (B := 180) fun p hp => ?_, fun r hr x k hx hk => ?_, ?_⟩⟩
  · have : lenOf (v 7) = some k := hk
    rw [h.st.len] at this
    cases this
    have := hc.st.len
    omega
  · have : lenOf (v 8) = some k := hk
    rw [h.wa.len] at this
    cases this
    have := hc.wa.len
    omega
  · obtain ⟨a, b, -⟩ := hc.ob.row p hp
    exact ⟨a.1, by omega⟩
  · have hf := hF r hr x (List.mem_of_getElem? hx)
    cases x <;> first | (cases hk; done) | (cases hk; exact hf.2) | (cases hk; exact Nat.zero_le _)
  · have := hc.fi.1
    omega
structure KnL (K : Orc) (F : Nat → FuncId) : Prop where
  so : ∀ {H0 H : Heap} {s : SH} {v : Nat → AV} {n : Nat → Int} {py : Bool}, Hp H0 s H → Ask s v → ∃ k, K (F 505) [v 10, .agg (cfRow n), .agg (stRow v n py)] H = some (iv k, H)
  se : ∀ {H0 H : Heap} {s : SH} {v : Nat → AV} {n : Nat → Int} {py : Bool}, Hp H0 s H → Ask s v → ∃ b, K (F 506) [v 10, .agg (cfRow n), .agg (stRow v n py)] H = some (.bool b, H)
  sa : ∀ {H0 H : Heap} {s : SH} {v w : Nat → AV} {n : Nat → Int} {py : Bool} {c : SC} {N : Nat}, Hp H0 s H → SrcS s v c → SrcS s w c → ScT 180 N c → K (F 411) [.agg (stRow v n py), .agg (stRow w n py)] H = some (.bool true, H)
  wo : ∀ H, K (F 503) [] H = some (.bool true, H)
@[reducible] def setRow (vc : AV) (m : Nat → Int) (vd ve : AV) : List AV := [vc, iv (m 0), iv (m 1), iv (m 2), iv (m 3), iv (m 4), vd, ve]
def nn (n m : Nat → Int) : Nat → Int := upd (upd (upd (upd (upd n 14 (m 0)) 15 (m 1)) 16 (m 2)) 17 (m 3)) 18 (m 4)
theorem sm5 {a b c d e : Int} : sameV (.agg [iv a, iv b, iv c, iv d, iv e]) (.agg [iv a, iv b, iv c, iv d, iv e]) = true := by
  show sameL (sameN 5) [iv a, iv b, iv c, iv d, iv e] [iv a, iv b, iv c, iv d, iv e] = true
  simp only [sameL, sameN_i, Bool.and_true]
theorem law500 (hL : BaseL P K F T) (hR : BaseR12 P K F T) (t41 : Ty P (T 41) 25) (t50 : Ty P (T 50) 13) (hChk : ChkOk P K (F 613)) (kn : KnL K F) {vc vd ve : AV} {m : Nat → Int} {Lc LD LE : List (List AV)} (hc : SlT s rCd vc Lc) (hFc : Fit vc) (hF : ∀ row ∈ Lc, ∀ a ∈ row, Fit a)
    (hd : SlT s [tI] vd LD) (hFd : ∀ row ∈ LD, ∀ a ∈ row, Fit a) (he : SlT s rEv ve LE) (hFe : ∀ row ∈ LE, ∀ a ∈ row, Fit a) : Tri P K (F 500) [.agg (setRow vc m vd ve)] s (fun u s' => u = .bool true ∧ Up s s') := by
  refine hL.f500.tri ?_
  unfold a500
  have p1 := hc.1.one
  have p2 := hd.1.one
  have p3 := he.1.one
  have l0 := hc.len
  have mm := mmN Lc.length 20
  refine Vr (k := fun b1 => Vr (k := WO.r (.mmx rfl mm) (WO.rx (slcSrc hc.1 hFc (Nat.min_le_left _ _)) fun w3 hw3 => ?_)))
  have hk3 : SlT s rCd w3 (Lc.take (min Lc.length 20)) := ⟨hw3, Nat.le_trans (by rw [List.length_take]; omega) hc.2.1, fun r hr => hc.2.2 r (List.mem_of_mem_take hr)⟩
  have hF3 : ∀ row ∈ Lc.take (min Lc.length 20), ∀ a ∈ row, Fit a := fun r hr => hF r (List.mem_of_mem_take hr)
  have hs1 : ∀ p, p ∈ s → p ∈ (b1, HO.r false [setRow vc m vd ve] 8) :: s := fun p hp => List.mem_cons_of_mem _ hp
  refine Vr (k := WO.w (WS.cl (Tri.flat (R := fun w s' => ∃ v' n py c b, w = .tuple [.agg (stRow v' n py), .bool b] ∧ SrcS s' v' c ∧ (b = true → ∃ N, ScT 180 N c)) ((played502 hL hR t41 t50 hChk (hd.mono hs1) hFd (he.mono hs1) hFe).post ?_) ?_) ?_))
  · rintro w s' ⟨a, b, cc, d, f, h1, h2, h3, h4⟩
    exact ⟨⟨a, b, cc, d, f, h1, h2, h3⟩, h4⟩
  · rintro w s1 s2 hp ⟨a, b, cc, d, f, h1, h2, h3⟩
    exact ⟨a, b, cc, d, f, h1, h2.mono fun p hq => hp.subset hq, h3⟩
  rintro _ _ ⟨⟨m1, rfl⟩, v, n, py, c, b, rfl, hS, hSc⟩
  refine Vr (k := fun b4 => ?_)
  refine WO.w (WS.store rfl rfl parts25 .here rfl rfl ?_)
  refine WO.pre (s' := (b4, .r false [stRow v n py] 25) :: (m1 ++ ((b1, .r false [setRow vc m vd ve] 8) :: s))) (.refl _) ?_
  cases b with
  | false =>
    refine Vr (k := WO.w (WS.cl (Tri.known kn.wo (R := fun u s' => u = .bool true ∧ s' = _) ⟨rfl, rfl⟩) ?_))
    rintro _ _ ⟨rfl, rfl⟩
    refine Vr (k := ?_)
    exact ⟨rfl, Up.rfl.cons.app.cons⟩
  | true =>
    obtain ⟨N, hN⟩ := hSc rfl
    refine Vr (k := WO.w (WS.cl (Tri.flat (R := fun w s' => ∃ v', w = .agg (stRow v' n py) ∧ SrcS s' v' c) ((copy504 hR t41 (hS.mono fun p hp => List.mem_cons_of_mem _ hp) hN (by decide)).post ?_) ?_) ?_))
    · rintro w s' ⟨v', o, m, h1, h2, h3⟩
      exact ⟨⟨v', h1, h2.src.mono fun p hp => h3.symm.subset (List.mem_append_right _ hp)⟩, (Up.app upOwn).trans ⟨[], h3⟩⟩
    · rintro w s1 s2 hp ⟨v', h1, h2⟩
      exact ⟨v', h1, h2.mono fun p hq => hp.subset hq⟩
    rintro _ _ ⟨⟨m2, rfl⟩, v2, rfl, hS2⟩
    refine WO.a (.alloc rfl) fun b6 => ?_
    refine WO.w (WS.store rfl rfl parts25 .here rfl rfl ?_)
    refine WO.pre (s' := (b6, .r false [stRow v2 n py] 25) :: (m2 ++ ((b4, .r false [stRow v n py] 25) :: (m1 ++ ((b1, .r false [setRow vc m vd ve] 8) :: s))))) (.refl _) (WO.nil ?_)
    have hU : Up s ((b6, HO.r false [stRow v2 n py] 25) :: (m2 ++ ((b4, .r false [stRow v n py] 25) :: (m1 ++ ((b1, .r false [setRow vc m vd ve] 8) :: s))))) := Up.rfl.cons.app.cons.app.cons
    have hSx : SrcS ((b6, HO.r false [stRow v2 n py] 25) :: (m2 ++ ((b4, .r false [stRow v n py] 25) :: (m1 ++ ((b1, .r false [setRow vc m vd ve] 8) :: s))))) v c := hS.mono fun p hp => List.mem_cons_of_mem _ (List.mem_append_right _ (List.mem_cons_of_mem _ hp))
    have hSy : SrcS ((b6, HO.r false [stRow v2 n py] 25) :: (m2 ++ ((b4, .r false [stRow v n py] 25) :: (m1 ++ ((b1, .r false [setRow vc m vd ve] 8) :: s))))) v2 c := hS2.mono fun p hp => List.mem_cons_of_mem _ hp
    have hask := hSx.ask hN (hk3.mono hU.mem) hF3
    refine WP.fix fun H0 Hx hx => ?_
    obtain ⟨k5, hk5⟩ := kn.so (n := nn n m) (py := py) hx hask
    obtain ⟨k6, hk6⟩ := kn.se (n := nn n m) (py := py) hx hask
    have hk5 : K (F 505) [w3, .agg [iv (m 0), iv (m 1), iv (m 2), iv (m 3), iv (m 4)], .agg (stRow v n py)] Hx = some (iv k5, Hx) := hk5
    have hk6 : K (F 506) [w3, .agg [iv (m 0), iv (m 1), iv (m 2), iv (m 3), iv (m 4)], .agg (stRow v n py)] Hx = some (.bool k6, Hx) := hk6
    have hk7 := kn.sa (n := n) (py := py) hx hSx hSy hN
    have hk8 := kn.wo Hx
    have e5 := eqI k5
    have e6 := eqBo k6
    refine XD.pu (.mv rfl) (XD.pu (.faddr rfl) (XD.ld rfl .ld (XD.ld rfl .ld (XD.ch (XS.cl hk5) (XD.pu (.mv rfl) (XD.pu (.faddr rfl) (XD.lk rfl .ld (XD.lk rfl .ld (XD.ch (XS.cl hk6) (XD.pu (.mv rfl) (XD.pu (.mv rfl) (XD.nil ?_ (obc (ob1 rfl rfl hS.sm .ld .ld) (ob1 rfl rfl sm5 .ld .ld))))))))))))))
    refine XO.cons (XS.r hx .ld) (XO.cons (XS.r hx .ld) (XO.cons (XS.cl hk7) (XO.cons (XS.r hx (.mv rfl)) ?_)))
    refine XO.yes (XO.cons (XS.r hx (.mv rfl)) (XO.yes (XO.cons (XS.r hx (.mv rfl)) (XO.yes (XO.cons (XS.r hx (.faddr rfl)) (XO.yes (XO.cons (XS.r hx .ld) (XO.yes (XO.cons (XS.r hx .ld) (XO.yes (XO.cons (XS.cl hk5) (XO.yes (XO.cons (XS.r hx (.eql rfl rfl e5)) ?_)))))))))))))
    refine XO.cons (XS.r hx (.pick1 rfl rfl)) (XO.cons (XS.r hx (.mv rfl)) ?_)
    refine XO.yes (XO.cons (XS.r hx (.mv rfl)) (XO.yes (XO.cons (XS.r hx (.mv rfl)) (XO.yes (XO.cons (XS.r hx (.faddr rfl)) (XO.yes (XO.cons (XS.r hx .ld) (XO.yes (XO.cons (XS.r hx .ld) (XO.yes (XO.cons (XS.cl hk6) (XO.yes (XO.cons (XS.r hx (.eql rfl rfl e6)) ?_)))))))))))))
    refine XO.cons (XS.r hx (.pick1 rfl rfl)) (XO.cons (XS.r hx (.mv rfl)) (XO.yes (XO.cons (XS.cl hk8) ?_)))
    refine XO.cons (XS.r hx (.pick1 rfl rfl)) (XO.cons (XS.r hx (.mv rfl)) (XO.nil ?_))
    exact Fin.mk (.tmp rfl .nil) ⟨rfl, hU⟩
end
end Go.Ev
set_option maxHeartbeats 4000000
namespace Go.Ev
theorem Known.kcon {P : Program} {f : FuncId} (h : Known P f) (H : Heap) : KCon P f [] H (.bool true) H := by
  refine ⟨fun {X w0 g w xs} hH hv => ⟨h.1, ?_⟩⟩
  cases hv
  refine CallsIn.mono (h.2 w) ?_
  rintro e w' ⟨rfl, k1, k2, k3, k4⟩
  exact ⟨_, rfl, g, fun _ _ h => h, rfl, hH.ext k1 k2 k3 k4⟩
theorem orcOf_ex {C : FuncId → List AV → Heap → AV → Heap → Prop} {f : FuncId} {args : List AV} {H : Heap} {v : AV} {H' : Heap} (h : C f args H v H') : ∃ u I, orcOf C f args H = some (u, I) ∧ C f args H u I := by
  unfold orcOf
  have he : ∃ r : AV × Heap, C f args H r.1 r.2 := ⟨(v, H'), h⟩
  rw [dif_pos he]
  exact ⟨_, _, rfl, he.choose_spec⟩
def C1 (P : Program) (F : Nat → FuncId) (f : FuncId) (args : List AV) (H : Heap) (v : AV) (H' : Heap) : Prop :=
  H' = H ∧ KCon P f args H v H ∧ ((f = F 505 ∧ isI v) ∨ (f = F 506 ∧ isB v) ∨ (f = F 411 ∧ v = .bool true) ∨ (f = F 503 ∧ v = .bool true))
theorem orc1_ok {P : Program} {F : Nat → FuncId} : OrcOk P (orcOf (C1 P F)) := orcOf_ok fun f args H v H' h => h.1 ▸ h.2.1
theorem orc1_none {P : Program} {F : Nat → FuncId} {f : FuncId} (h5 : f ≠ F 505) (h6 : f ≠ F 506) (h4 : f ≠ F 411) (h3 : f ≠ F 503) (args : List AV) (H : Heap) : orcOf (C1 P F) f args H = none :=
  orcOf_none fun u I h => by
    rcases h.2.2 with h | h | h | h
    · exact h5 h.1
    · exact h6 h.1
    · exact h4 h.1
    · exact h3 h.1
section
variable {s s' : SH}
theorem Src.isr {sz : Nat} {v : AV} {L : List (List AV)} (h : Src s sz v L) (hs : ∀ p, p ∈ s.filter isR → p ∈ s') : Src s' sz v L := by
  cases h with
  | nil => exact .nil
  | zero => exact .zero
  | emp => exact .emp
  | rows hb hn => exact .rows (.of_mem (hs _ (List.mem_filter.2 ⟨hb.mem, rfl⟩))) hn
theorem OkV.isr {ct : CT} {v : AV} (h : OkV s ct v) (hs : ∀ p, p ∈ s.filter isR → p ∈ s') : OkV s' ct v := by
  induction h with
  | i n => exact .i n
  | b c => exact .b c
  | t x => exact .t x
  | s h hb hl hr ih => exact .s (h.isr hs) hb hl ih
theorem SlT.isr {l : List CT} {v : AV} {L : List (List AV)} (h : SlT s l v L) (hs : ∀ p, p ∈ s.filter isR → p ∈ s') : SlT s' l v L := ⟨h.1.isr hs, h.2.1, fun row hm => ⟨(h.2.2 row hm).1, fun j ct a h1 h2 => ((h.2.2 row hm).2 j ct a h1 h2).isr hs⟩⟩
theorem RowsN.isr {m : Nat} {L : List (List AV)} {C : Cn} (h : RowsN s m L C) (hs : ∀ p, p ∈ s.filter isR → p ∈ s') : RowsN s' m L C := by
  induction h with
  | nil => exact .nil
  | cons h _ ih => exact .cons (h.isr hs) ih
theorem SrcN.isr {k m : Nat} {v : AV} {C : Cn} (h : SrcN s k m v C) (hs : ∀ p, p ∈ s.filter isR → p ∈ s') : SrcN s' k m v C := by
  obtain ⟨L, h1, h2⟩ := h
  exact ⟨L, h1.isr hs, h2.isr hs⟩
theorem SrcS.isr {v : Nat → AV} {c : SC} (h : SrcS s v c) (hs : ∀ p, p ∈ s.filter isR → p ∈ s') : SrcS s' v c :=
  ⟨h.pl.isr hs, h.ob.isr hs, h.lb.isr hs, h.hd.isr hs, h.gr.isr hs, h.ex.isr hs, h.fi.isr hs, h.st.isr hs, h.wa.isr hs, h.kt.isr hs⟩
theorem Ask.isr {v : Nat → AV} (h : Ask s v) (hs : ∀ p, p ∈ s.filter isR → p ∈ s') : Ask s' v := by
  obtain ⟨⟨⟨L0, h0⟩, ⟨L1, h1⟩, ⟨L2, h2⟩, ⟨L3, h3⟩, ⟨L4, h4⟩, ⟨L5, h5⟩, ⟨L6, h6⟩, ⟨L7, h7⟩, ⟨L8, h8⟩, ⟨L9, h9⟩, ⟨L10, h10⟩⟩, hm, Lo, Lf, Lc, g1, g2, g3, g4, g5, g6⟩ := h
  exact ⟨⟨⟨_, h0.isr hs⟩, ⟨_, h1.isr hs⟩, ⟨_, h2.isr hs⟩, ⟨_, h3.isr hs⟩, ⟨_, h4.isr hs⟩, ⟨_, h5.isr hs⟩, ⟨_, h6.isr hs⟩, ⟨_, h7.isr hs⟩, ⟨_, h8.isr hs⟩, ⟨_, h9.isr hs⟩, ⟨_, h10.isr hs⟩⟩, hm, Lo, Lf, Lc, g1.isr hs, g2.isr hs, g3.isr hs, g4, g5, g6⟩
end
theorem isI_bel {w : AV} (h : isI w) (n : Nat) : AV.Bel n w := by obtain ⟨k, rfl⟩ := h; trivial
theorem isB_bel {w : AV} (h : isB w) (n : Nat) : AV.Bel n w := by obtain ⟨k, rfl⟩ := h; trivial
theorem knL {P : Program} {K : Orc} {F : Nat → FuncId} {T : Nat → TypeId} (hm : P.follows .mixedOrders = true) (hK : OrcOk P K) (hJ : BaseJu P K F T) (hS : BaseSl P K F T) (hC : BaseCh P K F T) (hB : BaseSt P K F T) (hT : TyC P T) (t45 : Ty P (T 45) 14) (t431 : Ty P (T 431) 11) (hw : Known P (F 503))
    (d1 : F 505 ≠ F 506) (d2 : F 505 ≠ F 411) (d3 : F 505 ≠ F 503) (d4 : F 506 ≠ F 411) (d5 : F 506 ≠ F 503) (d6 : F 411 ≠ F 503) : KnL (orcOf (C1 P F)) F := by
  refine ⟨fun {H0 H s v n py} hp ha => ?_, fun {H0 H s v n py} hp ha => ?_, fun {H0 H s v w n py c N} hp hv hw hc => ?_, fun H => ?_⟩
  · obtain ⟨u, h1, h2⟩ := Tri.kcon hm hK (f := F 505) (args := [v 10, .agg (cfRow n), .agg (stRow v n py)]) (D := isI) hp (fun s' hs => sound505' hJ hS t45 (ha.isr hs).sta ha.sml) fun w h n => isI_bel h n
    obtain ⟨u', I, h3, rfl, h4, h5⟩ := orcOf_ex (C := C1 P F) ⟨rfl, h1, .inl ⟨rfl, h2⟩⟩
    rcases h5 with h | h | h | h
    · obtain ⟨-, k, rfl⟩ := h
      exact ⟨k, h3⟩
    · exact absurd h.1 d1
    · exact absurd h.1 d2
    · exact absurd h.1 d3
  · obtain ⟨u, h1, h2⟩ := Tri.kcon hm hK (f := F 506) (args := [v 10, .agg (cfRow n), .agg (stRow v n py)]) (D := isB) hp (fun s' hs => by
      obtain ⟨h0, -, L, Lf, Lc, g1, g2, g3, g4, g5, g6⟩ := ha.isr hs
      exact settled506 hC hB hS hJ hT t45 h0 g1 g2 g3 g4 g5 g6) fun w h n => isB_bel h n
    obtain ⟨u', I, h3, rfl, h4, h5⟩ := orcOf_ex (C := C1 P F) ⟨rfl, h1, .inr (.inl ⟨rfl, h2⟩)⟩
    rcases h5 with h | h | h | h
    · exact absurd h.1.symm d1
    · obtain ⟨-, k, rfl⟩ := h
      exact ⟨k, h3⟩
    · exact absurd h.1 d4
    · exact absurd h.1 d5
  · obtain ⟨u, h1, rfl⟩ := Tri.kcon hm hK (f := F 411) (args := [.agg (stRow v n py), .agg (stRow w n py)]) (D := fun u => u = .bool true) hp (fun s' hs => same411 hB hS t431 (hv.isr hs) (hw.isr hs) hc (by decide)) fun w h n => by subst h; trivial
    obtain ⟨u', I, h3, rfl, h4, h5⟩ := orcOf_ex (C := C1 P F) ⟨rfl, h1, .inr (.inr (.inl ⟨rfl, rfl⟩))⟩
    rcases h5 with h | h | h | h
    · exact absurd h.1.symm d2
    · exact absurd h.1.symm d4
    · rw [h3, h.2]
    · exact absurd h.1 d6
  · obtain ⟨u', I, h3, rfl, h4, h5⟩ := orcOf_ex (C := C1 P F) ⟨rfl, hw.kcon H, .inr (.inr (.inr ⟨rfl, rfl⟩))⟩
    rcases h5 with h | h | h | h
    · exact absurd h.1.symm d3
    · exact absurd h.1.symm d5
    · exact absurd h.1.symm d6
    · rw [h3, h.2]
end Go.Ev
set_option maxHeartbeats 1000000
namespace Go.Ev
open Go.Deep Go.WideShapes
def ctF (g : TypeId → Option (List CT)) (cells : TypeId → Nat) : List (TypeId × Nat) → Nat → Option (List CT)
  | [], _ => some []
  | p :: ps, o => match g p.1 with
    | some l1 => match Nat.beq p.2 o && Nat.beq (cells p.1) l1.length with
      | true => match ctF g cells ps (o + l1.length) with
        | some l2 => some (l1 ++ l2)
        | none => none
      | false => none
    | none => none
def ctW (n : Nat) : Option (List CT) → Option (List CT)
  | some l => match Nat.beq n l.length with
    | true => some l
    | false => none
  | none => none
theorem ctW_some {n : Nat} {o : Option (List CT)} {l : List CT} (h : ctW n o = some l) : o = some l ∧ n = l.length := by
  unfold ctW at h
  split at h
  · split at h
    · rename_i hb
      cases h
      exact ⟨rfl, Nat.eq_of_beq_eq_true hb⟩
    · cases h
  · cases h
def ctOf (P : Program) : Nat → TypeId → Option (List CT)
  | 0, _ => none
  | m + 1, t => match P.underlying t with
    | some .bool => some [.b]
    | some (.int .i64) => some [.i]
    | some .string => some [.t]
    | some (.slice e) => match ctOf P m e with
      | some l => match Nat.beq (P.cellsOf e) l.length && !(Nat.beq l.length 0) with
        | true => some [.s l]
        | false => none
      | none => none
    | some (.struct fs) => ctW (P.cellsOf t) (ctF (ctOf P m) P.cellsOf (fs.toList.map fun f => (f.type, f.offset)) 0)
    | some (.array n e) => ctW (P.cellsOf t) (ctF (ctOf P m) P.cellsOf ((List.range n).map fun i => (e, i * P.cellsOf e)) 0)
    | _ => none
section
variable {H : Type} {enc : TypeId × Value → H} {P : Program} {W : World}
structure LfB (W : World) (g : G) (b : Nat) (o : HO) : Prop where
  ex : ∃ L d c el fz, o = .r true L d.sz ∧ g b = some d ∧ d.ro = some (.cells c el fz) ∧ d.xi = b ∧ W.heap[d.b]? = some (.cells c el fz) ∧
    ∀ (i : Nat) row, L[i]? = some row → row.length = d.sz ∧ (∀ a ∈ row, Fit a) ∧ ∀ (j : Nat) v, row[j]? = some v → ∃ x, c[d.sh + i * d.sz + j]? = some x ∧ VR g v x ∧ x.oneCell' = true
structure Lf (W : World) (n : Nat) (g : G) (s : SH) : Prop where
  nd : s.Pairwise (fun p q => p.1 ≠ q.1)
  lt : ∀ p ∈ s, p.1 < n
  gn : ∀ b, n ≤ b → g b = none
  ob : ∀ b o, (b, o) ∈ s → LfB W g b o
structure SmOk (Sm : DataW H → Prop) : Prop where
  sl : ∀ {a b}, Sm (.slice a b) → a.length ≤ 1048576 ∧ ∀ e ∈ a, Sm e
  ag : ∀ {a}, Sm (.agg a) → ∀ e ∈ a, Sm e
theorem LfB.mono {g g' : G} {b : Nat} {o : HO} (h : LfB W g b o) (hg : G.le g g') : LfB W g' b o := by
  obtain ⟨L, d, c, el, fz, h1, h2, h3, h4, h5, h6⟩ := h.ex
  refine ⟨L, d, c, el, fz, h1, hg _ _ h2, h3, h4, h5, fun i row hr => ⟨(h6 i row hr).1, (h6 i row hr).2.1, fun j v hv => ?_⟩⟩
  obtain ⟨x, k1, k2, k3⟩ := (h6 i row hr).2.2 j v hv
  exact ⟨x, k1, VR.mono hg _ _ k2, k3⟩
structure Lex (n : Nat) (g : G) (s : SH) (n' : Nat) (g' : G) (s' : SH) : Prop where
  n : n ≤ n'
  g : G.le g g'
  s : ∀ p, p ∈ s → p ∈ s'
theorem Lex.rfl {n : Nat} {g : G} {s : SH} : Lex n g s n g s := ⟨Nat.le_refl _, .refl _, fun _ h => h⟩
theorem Lex.trans {n n' n'' : Nat} {g g' g'' : G} {s s' s'' : SH} (h : Lex n g s n' g' s') (h' : Lex n' g' s' n'' g'' s'') : Lex n g s n'' g'' s'' :=
  ⟨Nat.le_trans h.n h'.n, h.g.trans h'.g, fun p hp => h'.s p (h.s p hp)⟩
def Laid (W : World) (n : Nat) (g : G) (s : SH) (l : List CT) (cs : List Value) : Prop :=
  ∃ n' g' s' row, Lf W n' g' s' ∧ Lex n g s n' g' s' ∧ VRs g' row cs ∧ OkR s' l row ∧ (∀ a ∈ row, Fit a) ∧ ∀ x ∈ cs, x.oneCell' = true
def LaidT (enc : TypeId × Value → H) (P : Program) (W : World) (Sm : DataW H → Prop) (t : TypeId) (l : List CT) : Prop :=
  ∀ fuel cs y, DataW.trod enc P W 0 (fun _ => true) true fuel t cs = some y → Sm y.1 → ∀ n g s, Lf W n g s → Laid W n g s l cs
theorem laidF {Sm : DataW H → Prop} {gt : TypeId → Option (List CT)} (ih : ∀ t l, gt t = some l → LaidT enc P W Sm t l) {fuel : Nat} {cs : List Value} : ∀ (ps : List (TypeId × Nat)) (o : Nat) (l : List CT), ctF gt P.cellsOf ps o = some l →
    (∀ p ∈ ps, ∃ y, DataW.trod enc P W 0 (fun _ => true) true fuel p.1 ((cs.drop p.2).take (P.cellsOf p.1)) = some y ∧ Sm y.1) → ∀ n g s, Lf W n g s → Laid W n g s l ((cs.drop o).take l.length) := by
  intro ps
  induction ps with
  | nil =>
    intro o l hl _ n g s h
    cases hl
    exact ⟨n, g, s, [], h, .rfl, rfl, .nil, (fun a h => nomatch h), (fun x h => by simp at h)⟩
  | cons p ps ihp =>
    intro o l hl hp n g s h
    unfold ctF at hl
    split at hl
    · rename_i l1 h1
      split at hl
      · rename_i hb
        simp only [Bool.and_eq_true] at hb
        have e1 := Nat.eq_of_beq_eq_true hb.1
        have e2 := Nat.eq_of_beq_eq_true hb.2
        split at hl
        · rename_i l2 h2
          cases hl
          obtain ⟨y, hy, hsm⟩ := hp p (List.mem_cons_self ..)
          rw [e1, e2] at hy
          obtain ⟨n1, g1, s1, r1, k1, x1, v1, o1, f1, c1⟩ := ih _ _ h1 _ _ _ hy hsm n g s h
          obtain ⟨n2, g2, s2, r2, k2, x2, v2, o2, f2, c2⟩ := ihp _ _ h2 (fun q hq => hp q (List.mem_cons_of_mem _ hq)) n1 g1 s1 k1
          have hsplit : (cs.drop o).take (l1 ++ l2).length = (cs.drop o).take l1.length ++ (cs.drop (o + l1.length)).take l2.length := by
            rw [List.length_append, List.take_add, List.drop_drop]
          refine ⟨n2, g2, s2, r1 ++ r2, k2, x1.trans x2, ?_, ?_, ?_, ?_⟩
          · rw [hsplit]; exact VRs.append (VRs.mono x2.g _ _ v1) v2
          · have : ∀ (l1 : List CT) (r1 : List AV), OkR s2 l1 r1 → OkR s2 (l1 ++ l2) (r1 ++ r2) := by
              intro l1
              induction l1 with
              | nil => intro r1 h; cases h.nil_inv; exact o2
              | cons t l1 ih =>
                intro r1 h
                obtain ⟨a, r, rfl, ha, hr⟩ := h.inv
                exact .cons ha (ih r hr)
            exact this _ _ (o1.mono x2.s)
          · intro a ha
            rcases List.mem_append.1 ha with ha | ha
            · exact f1 a ha
            · exact f2 a ha
          · intro x hx
            rw [hsplit] at hx
            rcases List.mem_append.1 hx with hx | hx
            · exact c1 x hx
            · exact c2 x hx
        · cases hl
      · cases hl
    · cases hl
theorem Lf.put {n : Nat} {g : G} {s : SH} (h : Lf W n g s) {L : List (List AV)} {d : Gd} {c : Array Value} {el : TypeId} {fz : Nat × Nat} (hr : d.ro = some (.cells c el fz)) (hx : d.xi = n) (hc : W.heap[d.b]? = some (.cells c el fz))
    (hL : ∀ (i : Nat) row, L[i]? = some row → row.length = d.sz ∧ (∀ a ∈ row, Fit a) ∧ ∀ (j : Nat) v, row[j]? = some v → ∃ x, c[d.sh + i * d.sz + j]? = some x ∧ VR g v x ∧ x.oneCell' = true) : Lf W (n + 1) (g.put n d) ((n, .r true L d.sz) :: s) ∧ Lex n g s (n + 1) (g.put n d) ((n, .r true L d.sz) :: s) := by
  have hg : G.le g (g.put n d) := G.le_put g n d (h.gn n (Nat.le_refl _))
  refine ⟨⟨List.pairwise_cons.2 ⟨fun p hp e => ?_, h.nd⟩, fun p hp => ?_, fun b hb => ?_, fun b o hb => ?_⟩, ⟨Nat.le_succ _, hg, fun p hp => List.mem_cons_of_mem _ hp⟩⟩
  · have := h.lt p hp
    exact absurd e.symm (Nat.ne_of_lt this)
  · rcases List.mem_cons.1 hp with rfl | hp
    · exact Nat.lt_succ_self _
    · exact Nat.lt_succ_of_lt (h.lt p hp)
  · rw [G.put_other g d (by omega)]
    exact h.gn b (by omega)
  · rcases List.mem_cons.1 hb with e | hb
    · cases e
      refine ⟨L, d, c, el, fz, rfl, G.put_same g n d, hr, hx, hc, fun i row hi => ⟨(hL i row hi).1, (hL i row hi).2.1, fun j v hv => ?_⟩⟩
      obtain ⟨x, k1, k2, k3⟩ := (hL i row hi).2.2 j v hv
      exact ⟨x, k1, VR.mono hg _ _ k2, k3⟩
    · exact (h.ob b o hb).mono hg
theorem laidL {Sm : DataW H → Prop} {e : TypeId} {l : List CT} (he : LaidT enc P W Sm e l) {m : Nat} {a : Addr} {sz len : Nat} {D : Nat → DataW H} {Pl : Nat → List MemPlace} (hx : ∀ i, i < len → Sm (D i) ∧ ∃ cs', W.cells? 0 (a.add (i * sz)) sz = some cs' ∧ DataW.trod enc P W 0 (fun _ => true) true m e cs' = some (D i, Pl i)) : ∀ k, k ≤ len → ∀ n g s, Lf W n g s →
    ∃ (n' : Nat) (g' : G) (s' : SH) (L : List (List AV)), Lf W n' g' s' ∧ Lex n g s n' g' s' ∧ L.length = k ∧ ∀ (i : Nat) row, L[i]? = some row → OkR s' l row ∧ (∀ a ∈ row, Fit a) ∧ ∃ cs', VRs g' row cs' ∧ W.cells? 0 (a.add (i * sz)) sz = some cs' ∧ ∀ x ∈ cs', x.oneCell' = true := by
  intro k
  induction k with
  | zero => intro _ n g s h; exact ⟨n, g, s, [], h, .rfl, rfl, fun i row hi => by simp at hi⟩
  | succ k ih =>
    intro hk n g s h
    obtain ⟨n1, g1, s1, L, k1, x1, hL, hr⟩ := ih (by omega) n g s h
    obtain ⟨hsm, cs', h1, h2⟩ := hx k (by omega)
    obtain ⟨n2, g2, s2, row, k2, x2, v2, o2, f2, c2⟩ := he _ _ _ h2 hsm n1 g1 s1 k1
    refine ⟨n2, g2, s2, L ++ [row], k2, x1.trans x2, by simp [hL], fun i r hi => ?_⟩
    by_cases hlt : i < k
    · rw [List.getElem?_append_left (by omega)] at hi
      obtain ⟨g1', g2', cs1, g3', g4', g5'⟩ := hr i r hi
      exact ⟨g1'.mono x2.s, g2', cs1, VRs.mono x2.g _ _ g3', g4', g5'⟩
    · have hik : i = k := by
        have := (List.getElem?_eq_some_iff.1 hi).1
        simp [hL] at this
        omega
      subst hik
      rw [List.getElem?_append_right (by omega), hL] at hi
      simp at hi
      subst hi
      exact ⟨o2, f2, cs', v2, h1, c2⟩
theorem laidS {Sm : DataW H → Prop} (hS : SmOk Sm) {t e : TypeId} {l : List CT} (ht : P.underlying t = some (.slice e)) (he : LaidT enc P W Sm e l) (hc : P.cellsOf e = l.length) (h0 : l.length ≠ 0) : LaidT enc P W Sm t [.s l] := by
  intro fuel cs y hy hsm n g s h
  rcases open_slice ht hy with ⟨rfl, rfl⟩ | ⟨a, len, cap, m, n0, D, Pl, rfl, hb, hl, hm, hmm, rfl, hx⟩
  · exact ⟨n, g, s, [nilS], h, .rfl, .cons ⟨rfl, rfl⟩ rfl, okr, (fun a ha => by rw [List.mem_singleton.1 ha]; exact ⟨Nat.zero_le _, Nat.zero_le _⟩), (fun x hx => by rw [List.mem_singleton.1 hx]; rfl)⟩
  · have hmc : m = cap := by simpa using hmm
    subst hmc
    obtain ⟨hlen, hel⟩ := hS.sl hsm
    simp only [List.length_map, List.length_range] at hlen
    by_cases hz : len = 0
    · subst hz
      exact ⟨n, g, s, [.empty], h, .rfl, .cons ⟨_, _, rfl⟩ rfl, .cons (.s (L := []) .emp (Nat.zero_le _) (fun row h => nomatch h) (fun row h => nomatch h)) .nil, (fun a ha => by rw [List.mem_singleton.1 ha]; trivial), (fun x hx => by rw [List.mem_singleton.1 hx]; rfl)⟩
    · obtain ⟨n1, g1, s1, L, k1, x1, hL, hr⟩ := laidL he (len := len) (a := a) (sz := P.cellsOf e) (m := n0) (D := D) (Pl := Pl) (fun i hi => ⟨hel _ (List.mem_map.2 ⟨i, List.mem_range.2 hi, rfl⟩), hx i (by omega)⟩) len (Nat.le_refl _) n g s h
      rw [hc] at hr
      have hrow0 : ∃ row, L[0]? = some row := ⟨_, List.getElem?_eq_getElem (by omega)⟩
      obtain ⟨row0, hrow0⟩ := hrow0
      obtain ⟨-, -, cs0, -, q0, -⟩ := hr 0 row0 hrow0
      obtain ⟨-, ql, qc⟩ := World.cells?_some q0
      have hsp : a.spot = none := by
        have hc0 := qc 0 (by omega)
        rw [List.getElem?_eq_getElem (by omega)] at hc0
        have := World.cell?_spot hc0
        simpa [Addr.add] using this
      obtain ⟨ab, ao, sp⟩ := a
      have hsp : sp = none := hsp
      subst hsp
      have hblk : ∃ c el fz, W.heap[ab]? = some (.cells c el fz) := by
        have hc0 := qc 0 (by omega)
        rw [List.getElem?_eq_getElem (by omega), add_plain, add_plain] at hc0
        unfold World.cell? at hc0
        split at hc0
        · rename_i c el fz hcc
          exact ⟨c, el, fz, hcc⟩
        · cases hc0
      obtain ⟨c, el, fz, hblk⟩ := hblk
      obtain ⟨k2, x2⟩ := k1.put (L := L) (d := ⟨ab, ao, n1, l.length, some (.cells c el fz)⟩) rfl rfl hblk (fun i row hi => by
        obtain ⟨o1, f1, cs', v1, q1, c1⟩ := hr i row hi
        obtain ⟨-, pl, pc⟩ := World.cells?_some q1
        refine ⟨o1.1, f1, fun j v hj => ?_⟩
        obtain ⟨x, hxx, hv⟩ := v1.get hj
        refine ⟨x, ?_, hv, c1 x (List.mem_of_getElem? hxx)⟩
        have hjl : j < l.length := by
          have := (List.getElem?_eq_some_iff.1 hj).1
          rw [o1.1] at this
          exact this
        have := pc j hjl
        rw [hxx, add_plain, add_plain] at this
        unfold World.cell? at this
        simpa [hblk, Nat.add_assoc] using this)
      refine ⟨_, _, _, [.slice (some ⟨n1, 0, 0⟩) len m false l.length], k2, x1.trans x2, .cons ⟨_, G.put_same _ _ _, fun _ => ⟨rfl, rfl⟩, ?_⟩ rfl, .cons (.s (L := L) ?_ ?_ ?_ ?_) .nil, ?_, ?_⟩
      · simp [adr]
      · have := Src.all (s := (n1, HO.r true L l.length) :: s1) (b := n1) (c := m) (sl := false) (ro := true) (L := L) (sz := l.length) .here
        rwa [hL] at this
      · rw [hL]
        exact Nat.le_trans hlen (by decide)
      · intro row hm
        obtain ⟨i, hi⟩ := List.getElem?_of_mem hm
        exact (hr i row hi).1.1
      · intro row hm j t a h1 h2
        obtain ⟨i, hi⟩ := List.getElem?_of_mem hm
        exact ((hr i row hi).1.2 j t a h1 h2).mono x2.s
      · intro a ha
        rw [List.mem_singleton.1 ha]
        exact ⟨hl, hlen⟩
      · intro x hx
        rw [List.mem_singleton.1 hx]
        rfl
theorem laidT {Sm : DataW H → Prop} (hS : SmOk Sm) : ∀ (m : Nat) (t : TypeId) (l : List CT), ctOf P m t = some l → LaidT enc P W Sm t l := by
  intro m
  induction m with
  | zero => intro t l h; cases h
  | succ m ih =>
    intro t l h
    unfold ctOf at h
    split at h
    · rename_i hu
      cases h
      intro fuel cs y hy hsm n g s hl
      obtain ⟨b, rfl, -⟩ := DataW.trod_bool hu hy
      exact ⟨n, g, s, [.bool b], hl, .rfl, .cons rfl rfl, okr, (fun a ha => by rw [List.mem_singleton.1 ha]; trivial), (fun x hx => by rw [List.mem_singleton.1 hx]; rfl)⟩
    · rename_i hu
      cases h
      intro fuel cs y hy hsm n g s hl
      obtain ⟨b, rfl, -, -⟩ := DataW.trod_int hu hy
      exact ⟨n, g, s, [iv b], hl, .rfl, .cons rfl rfl, okr, (fun a ha => by rw [List.mem_singleton.1 ha]; trivial), (fun x hx => by rw [List.mem_singleton.1 hx]; rfl)⟩
    · rename_i hu
      cases h
      intro fuel cs y hy hsm n g s hl
      obtain ⟨b, rfl, -, -⟩ := DataW.trod_string hu hy
      exact ⟨n, g, s, [.str b], hl, .rfl, .cons rfl rfl, okr, (fun a ha => by rw [List.mem_singleton.1 ha]; trivial), (fun x hx => by rw [List.mem_singleton.1 hx]; rfl)⟩
    · rename_i e hu
      split at h
      · rename_i le he
        split at h
        · rename_i hb
          cases h
          simp only [Bool.and_eq_true] at hb
          refine laidS hS hu (ih _ _ he) (Nat.eq_of_beq_eq_true hb.1) fun h0 => ?_
          rw [h0] at hb
          exact absurd hb.2 (by decide)
        · cases h
      · cases h
    · rename_i fs hu
      obtain ⟨h, hw⟩ := ctW_some h
      intro fuel cs y hy hsm n g s hl
      obtain ⟨xs, n0, -, rfl, hlen, hxs, hx⟩ := DataW.trod_struct hu hy
      have hag := hS.ag hsm
      have := laidF ih (fuel := n0) (cs := cs) _ _ _ h (fun p hp => by
        obtain ⟨f, hf, rfl⟩ := List.mem_map.1 hp
        obtain ⟨i, hi⟩ := List.getElem?_of_mem hf
        rw [Array.getElem?_toList] at hi
        have hlt : i < xs.length := by
          have := (Array.getElem?_eq_some_iff.1 hi).1
          omega
        exact ⟨xs[i], (hx i f hi).trans (List.getElem?_eq_getElem hlt), hag _ (List.mem_map.2 ⟨_, List.getElem_mem hlt, rfl⟩)⟩) n g s hl
      rwa [List.drop_zero, List.take_of_length_le (by omega)] at this
    · rename_i k e hu
      obtain ⟨h, hw⟩ := ctW_some h
      intro fuel cs y hy hsm n g s hl
      obtain ⟨xs, n0, -, rfl, hlen, hxs, hx⟩ := DataW.trod_array hu hy
      have hag := hS.ag hsm
      have := laidF ih (fuel := n0) (cs := cs) _ _ _ h (fun p hp => by
        obtain ⟨i, hi, rfl⟩ := List.mem_map.1 hp
        have hi := List.mem_range.1 hi
        exact ⟨xs[i], (hx i hi).trans (List.getElem?_eq_getElem (by omega)), hag _ (List.mem_map.2 ⟨_, List.getElem_mem (by omega), rfl⟩)⟩) n g s hl
      rwa [List.drop_zero, List.take_of_length_le (by omega)] at this
    · cases h
end
end Go.Ev
set_option maxHeartbeats 1000000
namespace Go.Ev
theorem kept_same2 {w w' : World} {may : MemPlace → Prop} (h : ∀ k, k < w.heap.size → w'.heap[k]? = w.heap[k]?) (ho : w'.os = w.os) (hp : w'.output = w.output) : w.keptBut w' may := by
  refine ⟨ho, hp, fun i hi => ?_⟩
  grind
section
variable {P : Program} {W : World} {n : Nat} {g : G} {s : SH}
theorem heapOf {n : Nat} : ∀ (s : SH), (∀ p ∈ s, ∃ L sz, p.2 = .r true L sz ∧ ∀ row ∈ L, row.length = sz) → s.Pairwise (fun p q => p.1 ≠ q.1) →
    ∃ H : Heap, H.next = n ∧ (∀ b o, (b, o) ∈ s → o.ok (H.get b)) ∧ ∀ b, (∀ o, (b, o) ∉ s) → H.get b = none := by
  intro s
  induction s with
  | nil => exact fun _ _ => ⟨⟨.lf, n⟩, rfl, (fun b o h => nomatch h), fun b _ => Tr.get_lf b⟩
  | cons p s ih =>
    intro h hn
    obtain ⟨H, h1, h2, h3⟩ := ih (fun q hq => h q (List.mem_cons_of_mem _ hq)) (List.pairwise_cons.1 hn).2
    obtain ⟨b, o⟩ := p
    obtain ⟨L, sz, e, hl⟩ := h _ (List.mem_cons_self ..)
    cases e
    obtain ⟨t, ht⟩ := rowsOf_some L
    have hne : ∀ c o, (c, o) ∈ s → b ≠ c := fun c o hc => (List.pairwise_cons.1 hn).1 (c, o) hc
    refine ⟨H.put b (.rows t L.length sz true), h1, fun c o hc => ?_, fun c hc => ?_⟩
    · rw [Heap.get_put]
      rcases List.mem_cons.1 hc with e | hc
      · cases e
        rw [if_pos rfl]
        exact ⟨t, rfl, fun i row hi => ⟨by rw [rowsOf_get ht]; exact hi, hl row (List.mem_of_getElem? hi)⟩⟩
      · rw [if_neg (hne c o hc)]
        exact h2 c o hc
    · rw [Heap.get_put, if_neg fun e => hc (.r true L sz) (by rw [e]; exact List.mem_cons_self ..)]
      exact h3 c fun o ho => hc o (List.mem_cons_of_mem _ ho)
def offS (W : World) (g : G) (s : SH) : Pt := ⟨fun k _ => k < W.heap.size ∧ ∀ b o d, (b, o) ∈ s → g b = some d → d.b ≠ k, fun _ => False⟩
theorem Lf.hr (h : Lf W n g s) : ∃ H, H.next = n ∧ Hp H s H ∧ HR (offS W g s) W g H W := by
  obtain ⟨H, h1, h2, h3⟩ := heapOf (n := n) s (fun p hp => by
    obtain ⟨L, d, c, el, fz, e, -, -, -, -, hr⟩ := (h.ob p.1 p.2 hp).ex
    refine ⟨L, d.sz, e, fun row hm => ?_⟩
    obtain ⟨i, hi⟩ := List.getElem?_of_mem hm
    exact (hr i row hi).1) h.nd
  have mem : ∀ b o, H.get b = some o → ∃ ho, (b, ho) ∈ s := fun b o hb => by
    by_cases he : ∃ ho, (b, ho) ∈ s
    · exact he
    · rw [h3 b fun o ho => he ⟨o, ho⟩] at hb
      cases hb
  have at_ : ∀ b o, H.get b = some o → ∃ (L : List (List AV)) (t : Tr (List AV)) (d : Gd) (c : Array Value) (el : TypeId) (fz : Nat × Nat), o = .rows t L.length d.sz true ∧ g b = some d ∧ d.ro = some (.cells c el fz) ∧ d.xi = b ∧ W.heap[d.b]? = some (.cells c el fz) ∧ (∃ ho, (b, ho) ∈ s) ∧
      ∀ (i : Nat) row, L[i]? = some row → t.get i = some row ∧ row.length = d.sz ∧ ∀ (j : Nat) v, row[j]? = some v → ∃ x, c[d.sh + i * d.sz + j]? = some x ∧ VR g v x ∧ x.oneCell' = true := fun b o hb => by
    obtain ⟨ho, hm⟩ := mem b o hb
    obtain ⟨L, d, c, el, fz, rfl, k1, k2, k3, k4, k5⟩ := (h.ob b ho hm).ex
    obtain ⟨t, e, ht⟩ := h2 b _ hm
    rw [hb] at e
    cases e
    exact ⟨L, t, d, c, el, fz, rfl, k1, k2, k3, k4, ⟨_, hm⟩, fun i row hi => ⟨(ht i row hi).1, (k5 i row hi).1, (k5 i row hi).2.2⟩⟩
  refine ⟨H, h1, ⟨Nat.le_refl _, fun b o hb => ⟨?_, h2 b o hb⟩, h.nd, fun _ _ _ => rfl⟩, ?_⟩
  · rw [h1]
    exact h.lt _ hb
  refine ⟨fun b o hb => ?_, fun b b' o o' d d' hb hb' hd hd' hcl => ?_, fun b hb => h.gn b (by rw [← h1]; exact hb), fun b o d hb _ hd hX => ?_, fun k _ hk => ⟨hk.1, rfl⟩, Nat.le_refl _, ⟨rfl, rfl⟩, fun b hb => hb.elim, fun k t hk => hk, fun b o d hb hw hd => ?_⟩
  · obtain ⟨L, t, d, c, el, fz, rfl, k1, k2, k3, k4, -, k6⟩ := at_ b o hb
    refine ⟨d, k1, rfl, c, el, fz, k4, k4.trans k2.symm, trivial, fun i row hi ht => ?_⟩
    obtain ⟨e1, e2, e3⟩ := k6 i L[i] (List.getElem?_eq_getElem hi)
    rw [ht] at e1
    cases e1
    exact ⟨e2, e3⟩
  · obtain ⟨L, t, d1, c, el, fz, -, k1, k2, k3, -⟩ := at_ b o hb
    obtain ⟨L', t', d2, c', el', fz', -, l1, l2, l3, -⟩ := at_ b' o' hb'
    rw [k1] at hd
    rw [l1] at hd'
    cases hd
    cases hd'
    have e1 : d.tag = d.xi + 1 := by unfold Gd.tag; rw [k2]
    have e2 : d'.tag = d'.xi + 1 := by unfold Gd.tag; rw [l2]
    rcases hcl.2 with hq | hq | hq
    · omega
    · omega
    · omega
  · obtain ⟨L, t, d1, c, el, fz, -, k1, -, -, -, ⟨ho, hm⟩, -⟩ := at_ b o hb
    exact hX.2 b ho d hm hd rfl
  · obtain ⟨L, t, d1, c, el, fz, rfl, -⟩ := at_ b o hb
    cases hw
theorem Src.fit (h : Lf W n g s) {sz : Nat} {v : AV} {L : List (List AV)} (hs : Src s sz v L) : ∀ row ∈ L, ∀ a ∈ row, Fit a := by
  cases hs with
  | rows hb hn =>
    intro row hm
    obtain ⟨L', d, c, el, fz, e, -, -, -, -, hr⟩ := (h.ob _ _ hb.mem).ex
    cases e
    obtain ⟨i, hi⟩ := List.getElem?_of_mem (List.mem_of_mem_drop (List.mem_of_mem_take hm))
    exact (hr i row hi).2.1
  | _ => exact fun row hm => nomatch hm
theorem lf_calls (hm : P.follows .mixedOrders = true) {K : Orc} (hK : OrcOk P K) {f : FuncId} (hL : Lf W n g s) {row : List AV} {v : Value} (hv : VR g (.agg row) v) (hT : Tri P K f [.agg row] s (fun u s' => u = .bool true ∧ Up s s')) :
    Calls P f #[v] W fun e W' => e = .returned (.bool true) ∧ W.keptBut W' (fun _ => False) ∧ ∀ k, k < W.heap.size → W'.heap[k]? = W.heap[k]? := by
  obtain ⟨H, h1, hp, hr⟩ := hL.hr
  obtain ⟨u, s', H', ⟨k, hc⟩, hp', rfl, hU⟩ := hT H H hp
  refine callsIn_wide.1 (CallsIn.mono (ev_call hm hK hr (args := [.agg row]) (xs := [v]) ⟨v, [], hv, rfl, rfl⟩ hc).2 ?_)
  rintro e w' ⟨x, rfl, g', hg, hx, hh⟩
  have : x = .bool true := hx
  subst this
  suffices hk : ∀ k, k < W.heap.size → w'.heap[k]? = W.heap[k]? from ⟨rfl, kept_same2 hk hh.os.1 hh.os.2, hk⟩
  intro k hk
  by_cases hb : ∃ b o d, (b, o) ∈ s ∧ g b = some d ∧ d.b = k
  · obtain ⟨b, o, d, hm, hd, rfl⟩ := hb
    obtain ⟨L, d1, c, el, fz, rfl, k1, k2, k3, k4, -⟩ := (hL.ob b o hm).ex
    rw [k1] at hd
    cases hd
    obtain ⟨t, ht, -⟩ := (hp'.ok b _ (hU.mem _ hm)).2
    obtain ⟨d2, l1, l2⟩ := hh.obj b _ ht
    rw [hg b _ k1] at l1
    cases l1
    obtain ⟨-, c2, el2, fz2, e2, e3, -⟩ := l2
    have e3 : w'.heap[d.b]? = d.ro := e3
    rw [e3, k2, k4]
  · exact (hh.keep k 0 ⟨hk, fun b o d hm hd e => hb ⟨b, o, d, hm, hd, e⟩⟩).2
@[reducible] def rSe : List CT := [.s rCd, .i, .i, .i, .i, .i, .s [tI], .s rEv]
theorem OkR.set {row : List AV} (h : OkR s rSe row) : ∃ (vc : AV) (m : Nat → Int) (vd ve : AV), row = setRow vc m vd ve ∧ OkV s (.s rCd) vc ∧ OkV s (.s [tI]) vd ∧ OkV s (.s rEv) ve := by
  obtain ⟨vc, _, rfl, hc, h1⟩ := h.inv
  obtain ⟨a0, _, rfl, h2⟩ := h1.invi
  obtain ⟨a1, _, rfl, h3⟩ := h2.invi
  obtain ⟨a2, _, rfl, h4⟩ := h3.invi
  obtain ⟨a3, _, rfl, h5⟩ := h4.invi
  obtain ⟨a4, _, rfl, h6⟩ := h5.invi
  obtain ⟨vd, _, rfl, hd, h7⟩ := h6.inv
  obtain ⟨ve, _, rfl, he, h8⟩ := h7.inv
  cases h8.nil_inv
  exact ⟨vc, fun i => [a0, a1, a2, a3, a4].getD i 0, vd, ve, rfl, hc, hd, he⟩
end
structure EnvL (P : Program) (F : Nat → FuncId) (T : Nat → TypeId) : Prop where
  hm : P.follows .mixedOrders = true
  hJ : BaseJu P (fun _ _ _ => none) F T
  hS : BaseSl P (fun _ _ _ => none) F T
  hC : BaseCh P (fun _ _ _ => none) F T
  hB : BaseSt P (fun _ _ _ => none) F T
  hT : TyC P T
  t41 : Ty P (T 41) 25
  t45 : Ty P (T 45) 14
  t50 : Ty P (T 50) 13
  t431 : Ty P (T 431) 11
  t542 : Ty P (T 542) 3
  t545 : Ty P (T 545) 15
  hw : Known P (F 503)
  ne : F 505 ≠ F 506 ∧ F 505 ≠ F 411 ∧ F 505 ≠ F 503 ∧ F 506 ≠ F 411 ∧ F 506 ≠ F 503 ∧ F 411 ≠ F 503
  hL : BaseL P (orcOf (C1 P F)) F T
  hR : BaseR12 P (orcOf (C1 P F)) F T
theorem none_ok {P : Program} : OrcOk P (fun _ _ _ => none) := ⟨fun _ _ h => by cases h⟩
theorem law_world {H : Type} {enc : TypeId × Value → H} {P : Program} {W : World} {F : Nat → FuncId} {T : Nat → TypeId} (h : EnvL P F T) {Sm : DataW H → Prop} (hS : SmOk Sm) {m : Nat} {t : TypeId} (ht : ctOf P m t = some rSe) {v : Value} {d : DataW H} {ps : List MemPlace} (hv : DataW.Trod enc P W 0 (fun _ => true) true t v d ps) (hd : Sm d) :
    Calls P (F 500) #[v] W fun e W' => e = .returned (.bool true) ∧ W.keptBut W' (fun _ => False) ∧ ∀ k, k < W.heap.size → W'.heap[k]? = W.heap[k]? := by
  obtain ⟨fuel, hv⟩ := hv
  obtain ⟨n, g, s, row, h1, -, h3, h4, h5, h6⟩ := laidT hS m t _ ht _ _ _ hv hd 0 (fun _ => none) [] ⟨.nil, (fun p h => nomatch h), fun _ _ => rfl, fun b o h => nomatch h⟩
  have hl : v.cells.toList.length = 8 := by rw [h3.length, h4.1]; rfl
  have hagg : ∃ cs, v = .agg cs := by
    cases v <;> first | exact ⟨_, rfl⟩ | (exfalso; simp [Value.cells] at hl; done)
  obtain ⟨cs, rfl⟩ := hagg
  have hvr : VR g (.agg row) (.agg cs) := ⟨cs.toList, h3, h6, rfl⟩
  obtain ⟨vc, mm, vd, ve, rfl, hc, hd, he⟩ := h4.set
  obtain ⟨Lc, hc⟩ := hc.sl
  obtain ⟨LD, hd⟩ := hd.sl
  obtain ⟨LE, he⟩ := he.sl
  obtain ⟨d1, d2, d3, d4, d5, d6⟩ := h.ne
  refine lf_calls h.hm (orc1_ok (F := F)) h1 hvr ?_
  exact law500 h.hL h.hR h.t41 h.t50 (check613 h.hR h.t542 h.t545) (knL h.hm none_ok h.hJ h.hS h.hC h.hB h.hT h.t45 h.t431 h.hw d1 d2 d3 d4 d5 d6) hc (h5 vc (by simp)) (hc.1.fit h1) hd (hd.1.fit h1) he (he.1.fit h1)
end Go.Ev
