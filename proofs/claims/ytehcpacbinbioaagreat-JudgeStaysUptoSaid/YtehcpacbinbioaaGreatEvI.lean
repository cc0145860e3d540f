/- A machine that is proved sound, and walks by it. Conditions: none. -/
import Derived.Test.YtehcpacbinbioaaGreatEvH
import Derived.Test.YtehcpacbinbioaaGreatProg
set_option linter.all false
namespace Go.Ev
open Go.Proofs
abbrev CF := (Nat → FuncId) → (Nat → TypeId) → AC
def fNo : List Nat := [0, 0, 0, 0, 0, 0, 0, 0, 0, 0, 0, 0, 0, 0, 0, 0, 0, 0, 0, 0, 0, 0, 0, 0, 0, 0, 0, 0, 0, 0, 0, 0, 0, 0, 0, 0, 0, 0, 0, 0, 0, 0, 0, 0, 0, 0, 0, 0, 183, 0, 0, 0, 0, 0, 0, 0, 0, 0, 0, 0, 0, 0, 0, 0, 0, 0, 0, 0, 0, 0, 0, 0, 0, 0, 0, 0, 0, 80, 0, 0, 0, 0, 0, 0, 0, 0, 0, 0, 0, 0, 0, 167, 0, 0, 0, 0, 0, 0, 0, 0, 0, 0, 0, 94, 0, 0, 245, 0, 0, 0, 0, 0, 0, 244, 0, 0, 0, 0, 0, 0, 0, 144, 145, 146, 0, 0, 0, 0, 0, 0, 0, 0, 0, 0, 0, 0, 0, 0, 246, 0, 0, 0, 0, 0, 0, 0, 0, 0, 0, 0, 0, 0, 0, 0, 0, 152, 0, 0, 0, 0, 0, 0, 0, 0, 0, 0, 0, 190, 191, 192, 193, 194, 195, 196, 197, 198, 0, 0, 0, 0, 0, 0, 0, 0, 0, 0, 0, 0, 0, 0, 0, 0, 0, 0, 0, 0, 0, 0, 0, 0, 0, 0, 0, 0, 254, 255, 256, 257, 0, 0, 0, 0, 0, 0, 0, 0, 0, 0, 0, 0, 0, 0, 0, 0, 0, 0, 0, 0, 0, 164, 0, 0, 0, 277, 278, 279, 280, 281, 282, 0, 0, 0, 0, 0, 0, 0, 0, 0, 0, 0, 0, 0, 0, 0, 0, 0, 0, 0, 0, 0, 0, 0, 0, 0, 0, 0, 0, 0, 0, 0, 0, 0, 0, 0, 0, 0, 0, 0, 0, 0, 0, 0, 0, 0, 0, 0, 296, 0, 0, 0, 0, 0, 0, 0, 0, 0, 0, 0, 0, 303, 0, 0, 0, 0, 0, 0, 0, 0, 0, 0, 0, 0, 0, 0, 0, 0, 0, 0, 0, 0, 0, 0, 0, 0, 0, 0, 0, 0, 0, 0, 0, 0, 0, 0, 0, 0, 0, 0, 0, 0, 0, 0, 0, 0, 0, 0, 0, 0, 0, 0, 0, 0, 0, 0, 0, 0, 0, 0, 0, 0, 0, 0, 0, 0, 0, 0, 0, 0, 0, 0, 0, 0, 0, 0, 0, 0, 0, 0, 0, 0, 0, 0, 0, 0, 0, 0, 0, 0, 0, 0, 0, 0, 0, 0, 0, 0, 0, 0, 0, 0, 0, 0, 0, 0, 0, 0, 0, 0, 0, 0, 0, 10, 0, 0, 0, 0, 0, 0, 0, 0, 0, 0, 0, 0, 0, 0, 0, 0, 0, 0, 0, 84, 85, 86, 87, 88, 89, 90, 91, 92, 93, 0, 0, 0, 0, 0, 0, 0, 0, 0, 0, 0, 0, 0, 148, 149, 150, 151, 0, 0, 0, 0, 0, 0, 0, 199, 200, 0, 0, 0, 0, 0, 0, 0, 0, 0, 0, 0, 0, 0, 0, 0, 0, 0, 0, 0, 0, 0, 0, 0, 0, 0, 0, 0, 0, 0, 0, 0, 0, 0, 3, 0, 5, 6, 7, 8, 9, 0, 0, 0, 0, 0, 0, 0, 0, 0, 0, 0, 0, 0, 0, 0, 0, 0, 0, 0, 0, 0, 0, 0, 0, 0, 0, 0, 0, 0, 0, 0, 0, 0, 0, 0, 0, 0, 0, 0, 0, 0, 0, 0, 57, 58, 59, 60, 61, 62, 63, 64, 65, 66, 67, 68, 69, 70, 71, 72, 73, 74, 75, 76, 77, 78, 79, 81, 82, 83, 108, 109, 110, 111, 112, 113, 114, 115, 116, 117, 118, 119, 120, 121, 122, 123, 124, 125, 126, 127, 128, 129, 130, 131, 132, 133, 134, 135, 136, 137, 138, 139, 140, 141, 142, 143, 147, 171, 172, 173, 174, 175, 176, 177, 178, 179, 180, 181, 182, 184, 185, 186, 187, 188, 189, 248, 249, 250, 251, 252, 253, 270, 271, 272, 273, 274, 275, 276, 295]
def tNo : List (Nat × Nat) := [(9, 9), (41, 37), (45, 65), (50, 52), (71, 82), (99, 112), (264, 189), (294, 227), (431, 92), (542, 215), (545, 218)]
def fF (n : Nat) : Nat := fNo.getD n 0
def fT (n : Nat) : Nat := ((tNo.find? fun p => Nat.beq p.1 n).map Prod.snd).getD 0
def nF (n : Nat) : Nat := fNo.idxOf n
def nT (n : Nat) : Nat := ((tNo.find? fun p => Nat.beq p.2 n).map Prod.fst).getD 0
def renO (F : Nat → FuncId) : Operand → Operand
  | .func n => .func (F (nF n))
  | x => x
def renP (F : Nat → FuncId) (T : Nat → TypeId) : AOp → AOp
  | .call f l => .call (renO F f) (l.map (renO F))
  | .mkfn f a b => .mkfn (F (nF f)) a b
  | .mkif t x => .mkif (T (nT t)) x
  | .mv x => .mv (renO F x)
  | .ins l k m x v => .ins l k m x (renO F v)
  | .build z l => .build z (l.map fun p => (p.1, p.2.1, renO F p.2.2))
  | x => x
def renA (F : Nat → FuncId) (T : Nat → TypeId) (o : AOper) : AOper := ⟨o.dst, renP F T o.op, o.guard⟩
def ren (F : Nat → FuncId) (T : Nat → TypeId) : AC → AC
  | .ops l => .ops (l.map (renA F T))
  | .drawn n l => .drawn n (l.map fun d => ⟨renA F T d.o, d.cls, d.lo, d.hi, d.anc⟩)
  | .seq a b => .seq (ren F T a) (ren F T b)
  | .cond c a b => .cond c (ren F T a) (ren F T b)
  | .block i b => .block i (ren F T b)
  | .loop b => .loop (ren F T b)
  | .rf g p a b => .rf (renO F g) p (ren F T a) (ren F T b)
  | x => x
noncomputable def cd (f n : Nat) : CF := fun F T => ren F T (cc Tryz.prog n (match Tryz.prog.funcs[f]? with | some g => g.body.getD .skip | none => .skip))
@[reducible] def NF {α : Type} (x y : α) (_ : x = y := by (conv => lhs; reduce; dsimp only [-Int.reduceOfNat, -Int.reduceNegSucc])) : α := y
def sel : AC → Nat → AC
  | .seq a _, 0 => a
  | .seq _ b, _ => b
  | .cond _ a _, 0 => a
  | .cond _ _ b, _ => b
  | .block _ b, _ => b
  | .loop b, _ => b
  | .rf _ _ a _, 0 => a
  | .rf _ _ _ b, _ => b
  | c, _ => c
def pt (c : AC) (l : List Nat) : AC := l.foldl sel c
def AC.opl : AC → List AOper
  | .ops l => l
  | _ => []
set_option maxRecDepth 100000
@[reducible] def z0 : AV := .int .i64 (.ofNat 0)
@[reducible] def z1 : AV := .slice none 0 0 false 0
@[reducible] def zL0 : List AV := [(.str ⟨#[]⟩), z0, z0, z0, z0, z0, z0, z0, z0, z0, z1]
@[reducible] def zL1 : List AV := [z0, z0, z0, z0, z0, z0, z0, (.bool false), z1, z1, z0, z0, z0]
@[reducible] def zL2 : List AV := [z0, z0, z0, z0, z0, z0, z0, z0, z0, z1, (.bool false), z0, z0]
@[reducible] def zL3 : List AV := [z0, z0, z0, z0, z0, z0, z0, (.bool false), z1, z1, z0, z0, z0, z0, z0, z0, z0, z0, (.bool false), (.bool false), (.bool false), z0, z0, z0, z0, (.bool false), z1, z0]
theorem le_one2 {k : Nat} (h : k ≤ 1) : k = 0 ∨ k = 1 := by omega
def zState : List AV := [z1, z1, z1, z1, z1, z1, z1, z1, z1, z0, z0, z0, z0, z0, z0, z0, z0, z0, z0, z0, z0, z1, (.bool false), z0, z0]
def zObj : List AV := [z0, z0, z0, z0, z0, (.bool false), (.bool false), (.bool false), z0, z0, z0, z0, (.bool false), z1]
def zEvent : List AV := [z0, z0, z0, z0, z0, z1, z0, z0, z0, z0, z0, z0, z1]
def zItem : List AV := [z0, z0, z0, z0, z0, z0, z1]
def zPlayer : List AV := [z0, z0, z0, z0, z0, (.bool false), (.bool false), (.bool false)]
structure FnK (P : Program) (K : Orc) (f : FuncId) (nt : Nat) (rs : List ResultVar) (ac : AC) : Prop where
  k : ∀ args H, K f args H = none
  ex : ∃ fn, P.funcs[f]? = some fn ∧ fn.body.map (cc P fn.ntmps) = some ac ∧ fn.ntmps = nt ∧ fn.results.toList = rs ∧ (fn.name == "runtime.NumGoroutine") = false
theorem FnK.tri {P : Program} {K : Orc} {f : FuncId} {nt : Nat} {rs : List ResultVar} {ac : AC} (h : FnK P K f nt rs ac) {args : List AV} {s : SH} {R : AV → SH → Prop} (hw : WP P K none nt ac (sl0 0 args) [] s (Fin P rs R) (fun _ _ _ _ => False) (Fin P rs R)) (ha : args.length ≤ nt := by simp) : Tri P K f args s R := by
  obtain ⟨fn, h1, h2, h3, h4, h5⟩ := h.ex
  refine Tri.enter (h.k args) h1 h2 h3 h4 ?_ hw
  rw [h5, h3, llen_eq, Nat.ble_eq_true_of_le ha]
  rfl
def Ty (P : Program) (t : TypeId) (n : Nat) : Prop := isAggT P t = some true ∧ size? P t = some n
end Go.Ev
set_option maxRecDepth 100000
set_option maxHeartbeats 4000000
namespace Go.Ev
open Go.Proofs
noncomputable def a504 : CF := NF (cd 7 71) _
noncomputable def a550 : CF := NF (cd 57 113) _
noncomputable def a552 : CF := NF (cd 59 186) _
noncomputable def a554 : CF := NF (cd 61 20) _
noncomputable def a555 : CF := NF (cd 62 7) _
noncomputable def a556 : CF := NF (cd 63 25) _
noncomputable def a557 : CF := NF (cd 64 7) _
noncomputable def a576 : CF := NF (cd 108 117) _
noncomputable def a577 : CF := NF (cd 109 18) _
noncomputable def a578 : CF := NF (cd 110 108) _
noncomputable def a579 : CF := NF (cd 111 14) _
noncomputable def a580 : CF := NF (cd 112 144) _
noncomputable def a581 : CF := NF (cd 113 22) _
noncomputable def a582 : CF := NF (cd 114 117) _
noncomputable def a583 : CF := NF (cd 115 74) _
noncomputable def a584 : CF := NF (cd 116 21) _
noncomputable def a613 : CF := NF (cd 171 106) _
noncomputable def a614 : CF := NF (cd 172 33) _
noncomputable def a615 : CF := NF (cd 173 20) _
noncomputable def a616 : CF := NF (cd 174 20) _
noncomputable def a617 : CF := NF (cd 175 33) _
noncomputable def a618 : CF := NF (cd 176 6) _
noncomputable def a619 : CF := NF (cd 177 51) _
noncomputable def a620 : CF := NF (cd 178 27) _
noncomputable def a621 : CF := NF (cd 179 89) _
noncomputable def a622 : CF := NF (cd 180 52) _
noncomputable def a631 : CF := NF (cd 248 131) _
noncomputable def a632 : CF := NF (cd 249 28) _
noncomputable def a633 : CF := NF (cd 250 44) _
noncomputable def a634 : CF := NF (cd 251 8) _
noncomputable def a637 : CF := NF (cd 270 2) _
noncomputable def a638 : CF := NF (cd 271 2) _
noncomputable def a639 : CF := NF (cd 272 3) _
noncomputable def a640 : CF := NF (cd 273 2) _
noncomputable def a641 : CF := NF (cd 274 112) _
noncomputable def a642 : CF := NF (cd 275 37) _
noncomputable def a643 : CF := NF (cd 276 87) _
noncomputable def a644 : CF := NF (cd 295 1) _
structure BaseR12 (P : Program) (K : Orc) (F : Nat → FuncId) (T : Nat → TypeId) : Prop where
  f504 : FnK P K (F 504) 71 [(.cell 2 (T 41))] (a504 F T)
  f550 : FnK P K (F 550) 113 [(.cell 2 (T 41)), (.tmp 3)] (a550 F T)
  f552 : FnK P K (F 552) 186 [(.cell 4 (T 41)), (.tmp 5)] (a552 F T)
  f554 : FnK P K (F 554) 20 [(.tmp 2)] (a554 F T)
  f555 : FnK P K (F 555) 7 [(.tmp 2)] (a555 F T)
  f556 : FnK P K (F 556) 25 [(.tmp 2)] (a556 F T)
  f557 : FnK P K (F 557) 7 [(.tmp 2)] (a557 F T)
  f576 : FnK P K (F 576) 117 [(.tmp 4)] (a576 F T)
  f577 : FnK P K (F 577) 18 [(.tmp 2), (.tmp 3)] (a577 F T)
  f578 : FnK P K (F 578) 108 [] (a578 F T)
  f579 : FnK P K (F 579) 14 [(.tmp 2)] (a579 F T)
  f580 : FnK P K (F 580) 144 [] (a580 F T)
  f581 : FnK P K (F 581) 22 [(.tmp 4)] (a581 F T)
  f582 : FnK P K (F 582) 117 [] (a582 F T)
  f583 : FnK P K (F 583) 74 [] (a583 F T)
  f584 : FnK P K (F 584) 21 [(.tmp 4)] (a584 F T)
  f613 : FnK P K (F 613) 106 [(.tmp 2)] (a613 F T)
  f614 : FnK P K (F 614) 33 [(.tmp 2)] (a614 F T)
  f615 : FnK P K (F 615) 20 [(.tmp 4)] (a615 F T)
  f616 : FnK P K (F 616) 20 [(.tmp 4)] (a616 F T)
  f617 : FnK P K (F 617) 33 [(.tmp 4)] (a617 F T)
  f618 : FnK P K (F 618) 6 [(.tmp 2)] (a618 F T)
  f619 : FnK P K (F 619) 51 [] (a619 F T)
  f620 : FnK P K (F 620) 27 [(.tmp 4)] (a620 F T)
  f621 : FnK P K (F 621) 89 [(.tmp 6)] (a621 F T)
  f622 : FnK P K (F 622) 52 [] (a622 F T)
  f631 : FnK P K (F 631) 131 [(.cell 2 (T 545)), (.tmp 3)] (a631 F T)
  f632 : FnK P K (F 632) 28 [(.tmp 4)] (a632 F T)
  f633 : FnK P K (F 633) 44 [(.tmp 4)] (a633 F T)
  f634 : FnK P K (F 634) 8 [(.cell 4 (T 542))] (a634 F T)
  f637 : FnK P K (F 637) 2 [(.cell 0 (T 542))] (a637 F T)
  f638 : FnK P K (F 638) 2 [(.cell 0 (T 542))] (a638 F T)
  f639 : FnK P K (F 639) 3 [(.cell 0 (T 542))] (a639 F T)
  f640 : FnK P K (F 640) 2 [(.cell 0 (T 542))] (a640 F T)
  f641 : FnK P K (F 641) 112 [(.cell 2 (T 545)), (.tmp 3)] (a641 F T)
  f642 : FnK P K (F 642) 37 [(.tmp 2)] (a642 F T)
  f643 : FnK P K (F 643) 87 [(.tmp 2)] (a643 F T)
  f644 : FnK P K (F 644) 1 [(.tmp 0)] (a644 F T)
end Go.Ev
set_option maxRecDepth 100000
set_option maxHeartbeats 4000000
namespace Go.Ev
open Go.Proofs
noncomputable def a500 : CF := NF (cd 3 63) _
noncomputable def a502 : CF := NF (cd 5 44) _
noncomputable def a551 : CF := NF (cd 58 30) _
noncomputable def a553 : CF := NF (cd 60 27) _
structure BaseL (P : Program) (K : Orc) (F : Nat → FuncId) (T : Nat → TypeId) : Prop where
  f500 : FnK P K (F 500) 63 [(.tmp 2)] (a500 F T)
  f502 : FnK P K (F 502) 44 [(.cell 4 (T 41)), (.tmp 5)] (a502 F T)
  f551 : FnK P K (F 551) 30 [(.tmp 2)] (a551 F T)
  f553 : FnK P K (F 553) 27 [(.cell 2 (T 50))] (a553 F T)
end Go.Ev
set_option maxRecDepth 100000
set_option maxHeartbeats 4000000
namespace Go.Ev
open Go.Proofs
noncomputable def a505 : CF := NF (cd 8 34) _
noncomputable def a506 : CF := NF (cd 9 56) _
noncomputable def a558 : CF := NF (cd 65 47) _
noncomputable def a559 : CF := NF (cd 66 6) _
noncomputable def a560 : CF := NF (cd 67 37) _
noncomputable def a561 : CF := NF (cd 68 11) _
noncomputable def a562 : CF := NF (cd 69 10) _
noncomputable def a563 : CF := NF (cd 70 89) _
noncomputable def a564 : CF := NF (cd 71 9) _
noncomputable def a565 : CF := NF (cd 72 14) _
noncomputable def a566 : CF := NF (cd 73 9) _
noncomputable def a567 : CF := NF (cd 74 19) _
noncomputable def a568 : CF := NF (cd 75 31) _
noncomputable def a569 : CF := NF (cd 76 85) _
noncomputable def a570 : CF := NF (cd 77 9) _
noncomputable def a571 : CF := NF (cd 78 21) _
noncomputable def a572 : CF := NF (cd 79 37) _
noncomputable def a573 : CF := NF (cd 81 28) _
noncomputable def a574 : CF := NF (cd 82 9) _
noncomputable def a575 : CF := NF (cd 83 14) _
noncomputable def a586 : CF := NF (cd 118 6) _
noncomputable def a587 : CF := NF (cd 119 15) _
noncomputable def a588 : CF := NF (cd 120 9) _
noncomputable def a589 : CF := NF (cd 121 8) _
noncomputable def a590 : CF := NF (cd 122 9) _
noncomputable def a591 : CF := NF (cd 123 31) _
noncomputable def a592 : CF := NF (cd 124 31) _
noncomputable def a593 : CF := NF (cd 125 12) _
noncomputable def a594 : CF := NF (cd 126 41) _
noncomputable def a595 : CF := NF (cd 127 13) _
noncomputable def a596 : CF := NF (cd 128 47) _
noncomputable def a597 : CF := NF (cd 129 23) _
noncomputable def a598 : CF := NF (cd 130 45) _
noncomputable def a599 : CF := NF (cd 131 22) _
noncomputable def a600 : CF := NF (cd 132 9) _
noncomputable def a601 : CF := NF (cd 133 8) _
noncomputable def a602 : CF := NF (cd 134 11) _
noncomputable def a603 : CF := NF (cd 135 5) _
noncomputable def a604 : CF := NF (cd 136 9) _
noncomputable def a606 : CF := NF (cd 138 73) _
noncomputable def a607 : CF := NF (cd 139 29) _
noncomputable def a608 : CF := NF (cd 140 6) _
noncomputable def a609 : CF := NF (cd 141 14) _
noncomputable def a611 : CF := NF (cd 143 8) _
noncomputable def a612 : CF := NF (cd 147 8) _
noncomputable def a624 : CF := NF (cd 182 8) _
noncomputable def a625 : CF := NF (cd 184 8) _
noncomputable def a627 : CF := NF (cd 186 8) _
noncomputable def a628 : CF := NF (cd 187 8) _
structure BaseJu (P : Program) (K : Orc) (F : Nat → FuncId) (T : Nat → TypeId) : Prop where
  f505 : FnK P K (F 505) 34 [(.tmp 6)] (a505 F T)
  f506 : FnK P K (F 506) 56 [(.tmp 6)] (a506 F T)
  f558 : FnK P K (F 558) 47 [(.tmp 6)] (a558 F T)
  f559 : FnK P K (F 559) 6 [(.tmp 2)] (a559 F T)
  f560 : FnK P K (F 560) 37 [(.tmp 2)] (a560 F T)
  f561 : FnK P K (F 561) 11 [(.tmp 2)] (a561 F T)
  f562 : FnK P K (F 562) 10 [(.tmp 2)] (a562 F T)
  f563 : FnK P K (F 563) 89 [(.tmp 2)] (a563 F T)
  f564 : FnK P K (F 564) 9 [(.tmp 2)] (a564 F T)
  f565 : FnK P K (F 565) 14 [(.tmp 2)] (a565 F T)
  f566 : FnK P K (F 566) 9 [(.tmp 2)] (a566 F T)
  f567 : FnK P K (F 567) 19 [(.tmp 2)] (a567 F T)
  f568 : FnK P K (F 568) 31 [(.tmp 2)] (a568 F T)
  f569 : FnK P K (F 569) 85 [(.tmp 2)] (a569 F T)
  f570 : FnK P K (F 570) 9 [(.tmp 4)] (a570 F T)
  f571 : FnK P K (F 571) 21 [(.tmp 3)] (a571 F T)
  f572 : FnK P K (F 572) 37 [(.tmp 5)] (a572 F T)
  f573 : FnK P K (F 573) 28 [(.cell 4 (T 45)), (.tmp 5)] (a573 F T)
  f574 : FnK P K (F 574) 9 [(.tmp 4)] (a574 F T)
  f575 : FnK P K (F 575) 14 [(.tmp 4)] (a575 F T)
  f586 : FnK P K (F 586) 6 [(.tmp 2)] (a586 F T)
  f587 : FnK P K (F 587) 15 [(.tmp 6)] (a587 F T)
  f588 : FnK P K (F 588) 9 [(.tmp 4)] (a588 F T)
  f589 : FnK P K (F 589) 8 [(.tmp 3)] (a589 F T)
  f590 : FnK P K (F 590) 9 [(.tmp 4)] (a590 F T)
  f591 : FnK P K (F 591) 31 [(.tmp 4)] (a591 F T)
  f592 : FnK P K (F 592) 31 [(.tmp 3)] (a592 F T)
  f593 : FnK P K (F 593) 12 [(.tmp 8)] (a593 F T)
  f594 : FnK P K (F 594) 41 [(.tmp 6)] (a594 F T)
  f595 : FnK P K (F 595) 13 [(.tmp 3)] (a595 F T)
  f596 : FnK P K (F 596) 47 [(.tmp 2)] (a596 F T)
  f597 : FnK P K (F 597) 23 [(.tmp 4)] (a597 F T)
  f598 : FnK P K (F 598) 45 [(.tmp 4)] (a598 F T)
  f599 : FnK P K (F 599) 22 [(.tmp 6)] (a599 F T)
  f600 : FnK P K (F 600) 9 [(.tmp 4)] (a600 F T)
  f601 : FnK P K (F 601) 8 [(.tmp 3)] (a601 F T)
  f602 : FnK P K (F 602) 11 [(.tmp 2)] (a602 F T)
  f603 : FnK P K (F 603) 5 [(.tmp 2)] (a603 F T)
  f604 : FnK P K (F 604) 9 [(.tmp 4)] (a604 F T)
  f606 : FnK P K (F 606) 73 [(.tmp 4)] (a606 F T)
  f607 : FnK P K (F 607) 29 [(.tmp 4)] (a607 F T)
  f608 : FnK P K (F 608) 6 [(.tmp 2)] (a608 F T)
  f609 : FnK P K (F 609) 14 [(.tmp 3)] (a609 F T)
  f611 : FnK P K (F 611) 8 [(.tmp 3)] (a611 F T)
  f612 : FnK P K (F 612) 8 [(.tmp 3)] (a612 F T)
  f624 : FnK P K (F 624) 8 [(.tmp 3)] (a624 F T)
  f625 : FnK P K (F 625) 8 [(.tmp 3)] (a625 F T)
  f627 : FnK P K (F 627) 8 [(.tmp 3)] (a627 F T)
  f628 : FnK P K (F 628) 8 [(.tmp 3)] (a628 F T)
end Go.Ev
set_option maxRecDepth 100000
set_option maxHeartbeats 4000000
namespace Go.Ev
open Go.Proofs
noncomputable def a91 : CF := NF (cd 167 9) _
noncomputable def a138 : CF := NF (cd 246 8) _
noncomputable def a411 : CF := NF (cd 10 85) _
noncomputable def a431 : CF := NF (cd 84 8) _
noncomputable def a433 : CF := NF (cd 86 8) _
noncomputable def a434 : CF := NF (cd 87 26) _
noncomputable def a435 : CF := NF (cd 88 8) _
noncomputable def a437 : CF := NF (cd 90 101) _
noncomputable def a439 : CF := NF (cd 92 52) _
noncomputable def a440 : CF := NF (cd 93 38) _
noncomputable def a456 : CF := NF (cd 150 8) _
noncomputable def a457 : CF := NF (cd 151 8) _
structure BaseSt (P : Program) (K : Orc) (F : Nat → FuncId) (T : Nat → TypeId) : Prop where
  f91 : FnK P K (F 91) 9 [(.tmp 4)] (a91 F T)
  f138 : FnK P K (F 138) 8 [(.tmp 3)] (a138 F T)
  f411 : FnK P K (F 411) 85 [(.tmp 4)] (a411 F T)
  f431 : FnK P K (F 431) 8 [(.tmp 4)] (a431 F T)
  f433 : FnK P K (F 433) 8 [(.tmp 4)] (a433 F T)
  f434 : FnK P K (F 434) 26 [(.cell 2 (T 431))] (a434 F T)
  f435 : FnK P K (F 435) 8 [(.tmp 4)] (a435 F T)
  f437 : FnK P K (F 437) 101 [(.tmp 4)] (a437 F T)
  f439 : FnK P K (F 439) 52 [(.tmp 4)] (a439 F T)
  f440 : FnK P K (F 440) 38 [(.tmp 4)] (a440 F T)
  f456 : FnK P K (F 456) 8 [(.tmp 4)] (a456 F T)
  f457 : FnK P K (F 457) 8 [(.tmp 4)] (a457 F T)
end Go.Ev
set_option maxRecDepth 100000
set_option maxHeartbeats 4000000
namespace Go.Ev
open Go.Proofs
noncomputable def a77 : CF := NF (cd 80 34) _
noncomputable def a121 : CF := NF (cd 144 51) _
noncomputable def a122 : CF := NF (cd 145 41) _
noncomputable def a123 : CF := NF (cd 146 57) _
noncomputable def a168 : CF := NF (cd 191 6) _
noncomputable def a169 : CF := NF (cd 192 16) _
noncomputable def a170 : CF := NF (cd 193 51) _
noncomputable def a171 : CF := NF (cd 194 48) _
noncomputable def a172 : CF := NF (cd 195 42) _
noncomputable def a173 : CF := NF (cd 196 7) _
noncomputable def a174 : CF := NF (cd 197 9) _
noncomputable def a175 : CF := NF (cd 198 30) _
noncomputable def a205 : CF := NF (cd 255 7) _
noncomputable def a206 : CF := NF (cd 256 19) _
noncomputable def a233 : CF := NF (cd 277 13) _
noncomputable def a234 : CF := NF (cd 278 13) _
noncomputable def a235 : CF := NF (cd 279 16) _
noncomputable def a236 : CF := NF (cd 280 24) _
structure BaseCh (P : Program) (K : Orc) (F : Nat → FuncId) (T : Nat → TypeId) : Prop where
  f77 : FnK P K (F 77) 34 [(.cell 6 (T 71)), (.tmp 7)] (a77 F T)
  f121 : FnK P K (F 121) 51 [(.cell 6 (T 45)), (.cell 7 (T 99)), (.tmp 8)] (a121 F T)
  f122 : FnK P K (F 122) 41 [(.cell 4 (T 71))] (a122 F T)
  f123 : FnK P K (F 123) 57 [(.tmp 6)] (a123 F T)
  f168 : FnK P K (F 168) 6 [(.tmp 2)] (a168 F T)
  f169 : FnK P K (F 169) 16 [(.cell 2 (T 264))] (a169 F T)
  f170 : FnK P K (F 170) 51 [] (a170 F T)
  f171 : FnK P K (F 171) 48 [(.tmp 6)] (a171 F T)
  f172 : FnK P K (F 172) 42 [(.tmp 4)] (a172 F T)
  f173 : FnK P K (F 173) 7 [(.tmp 2)] (a173 F T)
  f174 : FnK P K (F 174) 9 [] (a174 F T)
  f175 : FnK P K (F 175) 30 [(.tmp 6)] (a175 F T)
  f205 : FnK P K (F 205) 7 [(.cell 0 (T 294))] (a205 F T)
  f206 : FnK P K (F 206) 19 [(.tmp 4)] (a206 F T)
  f233 : FnK P K (F 233) 13 [] (a233 F T)
  f234 : FnK P K (F 234) 13 [] (a234 F T)
  f235 : FnK P K (F 235) 16 [] (a235 F T)
  f236 : FnK P K (F 236) 24 [] (a236 F T)
end Go.Ev
set_option maxRecDepth 100000
set_option maxHeartbeats 4000000
namespace Go.Ev
open Go.Proofs
noncomputable def a48 : CF := NF (cd 183 9) _
noncomputable def a103 : CF := NF (cd 94 9) _
noncomputable def a106 : CF := NF (cd 245 19) _
noncomputable def a113 : CF := NF (cd 244 19) _
noncomputable def a155 : CF := NF (cd 152 19) _
noncomputable def a167 : CF := NF (cd 190 9) _
noncomputable def a204 : CF := NF (cd 254 19) _
noncomputable def a207 : CF := NF (cd 257 63) _
noncomputable def a229 : CF := NF (cd 164 9) _
noncomputable def a237 : CF := NF (cd 281 53) _
noncomputable def a238 : CF := NF (cd 282 220) _
noncomputable def a286 : CF := NF (cd 296 58) _
noncomputable def a299 : CF := NF (cd 303 38) _
noncomputable def a432 : CF := NF (cd 85 32) _
noncomputable def a436 : CF := NF (cd 89 32) _
noncomputable def a438 : CF := NF (cd 91 32) _
def a454 : CF := fun F T => (.seq (.ops [⟨(some 4), (.mv (.const (.bool false))), none⟩]) (.seq (.seq (.ops [⟨(some 6), (.mv (.tmp 0)), none⟩, ⟨(some 7), (.lenS (.tmp 6)), none⟩, ⟨(some 8), (.mv (.tmp 1)), none⟩, ⟨(some 9), (.lenS (.tmp 8)), none⟩, ⟨(some 10), (.eql true .pi (.tmp 7) (.tmp 9)), none⟩]) (.cond (.tmp 10) (.seq (.ops [⟨(some 4), (.mv (.const (.bool false))), none⟩]) .ret) .skip)) (.seq (.seq (.ops [⟨(some 11), (.mv (.tmp 0)), none⟩, ⟨(some 12), (.lenS (.tmp 11)), none⟩, ⟨(some 13), (.mv (.const (.int .i64 (.ofNat 0)))), none⟩]) (.block 0 (.loop (.seq (.ops [⟨(some 14), (.arith .lss (.tmp 13) (.tmp 12)), none⟩]) (.seq (.cond (.tmp 14) .skip (.exit 0)) (.seq (.block 1 (.seq (.ops [⟨(some 15), (.mv (.tmp 13)), none⟩, ⟨(some 5), (.mv (.tmp 15)), none⟩]) (.seq (.drawn 0 [⟨⟨(some 16), (.mv (.tmp 0)), none⟩, .pure, 0, 0, 0⟩, ⟨⟨(some 17), (.mv (.tmp 5)), none⟩, .pure, 0, 0, 0⟩, ⟨⟨(some 18), (.iaddrS 1 (.tmp 16) (.tmp 17)), none⟩, .pure, 0, 0, 3⟩, ⟨⟨(some 19), (.load false 1 (.tmp 18)), none⟩, .read, 0, 0, 7⟩, ⟨⟨(some 20), (.mv (.tmp 1)), none⟩, .pure, 0, 0, 0⟩, ⟨⟨(some 21), (.mv (.tmp 5)), none⟩, .pure, 0, 0, 0⟩, ⟨⟨(some 22), (.iaddrS 1 (.tmp 20) (.tmp 21)), none⟩, .pure, 0, 0, 48⟩, ⟨⟨(some 23), (.load false 1 (.tmp 22)), none⟩, .read, 0, 0, 112⟩, ⟨⟨(some 24), (.eql true .pi (.tmp 19) (.tmp 23)), none⟩, .pure, 0, 0, 255⟩]) (.cond (.tmp 24) (.seq (.ops [⟨(some 4), (.mv (.const (.bool false))), none⟩]) .ret) .skip)))) (.ops [⟨(some 25), (.arith .add (.tmp 13) (.const (.int .i64 (.ofNat 1)))), none⟩, ⟨(some 13), (.mv (.tmp 25)), none⟩]))))))) (.seq (.ops [⟨(some 4), (.mv (.const (.bool true))), none⟩]) .ret))))
def a455 : CF := fun F T => (.seq (.ops [⟨(some 4), (.mv (.const (.bool false))), none⟩]) (.seq (.seq (.ops [⟨(some 6), (.mv (.tmp 0)), none⟩, ⟨(some 7), (.lenS (.tmp 6)), none⟩, ⟨(some 8), (.mv (.tmp 1)), none⟩, ⟨(some 9), (.lenS (.tmp 8)), none⟩, ⟨(some 10), (.eql true .pi (.tmp 7) (.tmp 9)), none⟩]) (.cond (.tmp 10) (.seq (.ops [⟨(some 4), (.mv (.const (.bool false))), none⟩]) .ret) .skip)) (.seq (.seq (.ops [⟨(some 11), (.mv (.tmp 0)), none⟩, ⟨(some 12), (.lenS (.tmp 11)), none⟩, ⟨(some 13), (.mv (.const (.int .i64 (.ofNat 0)))), none⟩]) (.block 0 (.loop (.seq (.ops [⟨(some 14), (.arith .lss (.tmp 13) (.tmp 12)), none⟩]) (.seq (.cond (.tmp 14) .skip (.exit 0)) (.seq (.block 1 (.seq (.ops [⟨(some 15), (.mv (.tmp 13)), none⟩, ⟨(some 5), (.mv (.tmp 15)), none⟩]) (.seq (.drawn 0 [⟨⟨(some 16), (.mv (.tmp 0)), none⟩, .pure, 0, 0, 0⟩, ⟨⟨(some 17), (.mv (.tmp 5)), none⟩, .pure, 0, 0, 0⟩, ⟨⟨(some 18), (.iaddrS 8 (.tmp 16) (.tmp 17)), none⟩, .pure, 0, 0, 3⟩, ⟨⟨(some 19), (.load true 8 (.tmp 18)), none⟩, .read, 0, 0, 7⟩, ⟨⟨(some 20), (.mv (.tmp 1)), none⟩, .pure, 0, 0, 0⟩, ⟨⟨(some 21), (.mv (.tmp 5)), none⟩, .pure, 0, 0, 0⟩, ⟨⟨(some 22), (.iaddrS 8 (.tmp 20) (.tmp 21)), none⟩, .pure, 0, 0, 48⟩, ⟨⟨(some 23), (.load true 8 (.tmp 22)), none⟩, .read, 0, 0, 112⟩, ⟨⟨(some 24), (.eql true (.agg [⟨0, ⟨1, ⟨false, .pi⟩⟩⟩, ⟨1, ⟨4, ⟨true, (.agg [⟨0, ⟨1, ⟨false, .pi⟩⟩⟩, ⟨1, ⟨1, ⟨false, .pi⟩⟩⟩, ⟨2, ⟨1, ⟨false, .pi⟩⟩⟩, ⟨3, ⟨1, ⟨false, .pi⟩⟩⟩])⟩⟩⟩, ⟨5, ⟨1, ⟨false, .pb⟩⟩⟩, ⟨6, ⟨1, ⟨false, .pb⟩⟩⟩, ⟨7, ⟨1, ⟨false, .pb⟩⟩⟩]) (.tmp 19) (.tmp 23)), none⟩, .pure, 0, 0, 255⟩]) (.cond (.tmp 24) (.seq (.ops [⟨(some 4), (.mv (.const (.bool false))), none⟩]) .ret) .skip)))) (.ops [⟨(some 25), (.arith .add (.tmp 13) (.const (.int .i64 (.ofNat 1)))), none⟩, ⟨(some 13), (.mv (.tmp 25)), none⟩]))))))) (.seq (.ops [⟨(some 4), (.mv (.const (.bool true))), none⟩]) .ret))))
def a465 : CF := fun F T => (.seq (.ops [⟨(some 4), (.mv (.const (.bool false))), none⟩]) (.seq (.seq (.ops [⟨(some 6), (.mv (.tmp 0)), none⟩, ⟨(some 7), (.lenS (.tmp 6)), none⟩, ⟨(some 8), (.mv (.tmp 1)), none⟩, ⟨(some 9), (.lenS (.tmp 8)), none⟩, ⟨(some 10), (.eql true .pi (.tmp 7) (.tmp 9)), none⟩]) (.cond (.tmp 10) (.seq (.ops [⟨(some 4), (.mv (.const (.bool false))), none⟩]) .ret) .skip)) (.seq (.seq (.ops [⟨(some 11), (.mv (.tmp 0)), none⟩, ⟨(some 12), (.lenS (.tmp 11)), none⟩, ⟨(some 13), (.mv (.const (.int .i64 (.ofNat 0)))), none⟩]) (.block 0 (.loop (.seq (.ops [⟨(some 14), (.arith .lss (.tmp 13) (.tmp 12)), none⟩]) (.seq (.cond (.tmp 14) .skip (.exit 0)) (.seq (.block 1 (.seq (.ops [⟨(some 15), (.mv (.tmp 13)), none⟩, ⟨(some 5), (.mv (.tmp 15)), none⟩]) (.seq (.drawn 0 [⟨⟨(some 16), (.mv (.tmp 0)), none⟩, .pure, 0, 0, 0⟩, ⟨⟨(some 17), (.mv (.tmp 5)), none⟩, .pure, 0, 0, 0⟩, ⟨⟨(some 18), (.iaddrS 4 (.tmp 16) (.tmp 17)), none⟩, .pure, 0, 0, 3⟩, ⟨⟨(some 19), (.load true 4 (.tmp 18)), none⟩, .read, 0, 0, 7⟩, ⟨⟨(some 20), (.mv (.tmp 1)), none⟩, .pure, 0, 0, 0⟩, ⟨⟨(some 21), (.mv (.tmp 5)), none⟩, .pure, 0, 0, 0⟩, ⟨⟨(some 22), (.iaddrS 4 (.tmp 20) (.tmp 21)), none⟩, .pure, 0, 0, 48⟩, ⟨⟨(some 23), (.load true 4 (.tmp 22)), none⟩, .read, 0, 0, 112⟩, ⟨⟨(some 24), (.eql true (.agg [⟨0, ⟨1, ⟨false, .pi⟩⟩⟩, ⟨1, ⟨1, ⟨false, .pi⟩⟩⟩, ⟨2, ⟨1, ⟨false, .pi⟩⟩⟩, ⟨3, ⟨1, ⟨false, .pi⟩⟩⟩]) (.tmp 19) (.tmp 23)), none⟩, .pure, 0, 0, 255⟩]) (.cond (.tmp 24) (.seq (.ops [⟨(some 4), (.mv (.const (.bool false))), none⟩]) .ret) .skip)))) (.ops [⟨(some 25), (.arith .add (.tmp 13) (.const (.int .i64 (.ofNat 1)))), none⟩, ⟨(some 13), (.mv (.tmp 25)), none⟩]))))))) (.seq (.ops [⟨(some 4), (.mv (.const (.bool true))), none⟩]) .ret))))
def a466 : CF := fun F T => (.seq (.ops [⟨(some 4), (.mv (.const (.bool false))), none⟩]) (.seq (.seq (.ops [⟨(some 6), (.mv (.tmp 0)), none⟩, ⟨(some 7), (.lenS (.tmp 6)), none⟩, ⟨(some 8), (.mv (.tmp 1)), none⟩, ⟨(some 9), (.lenS (.tmp 8)), none⟩, ⟨(some 10), (.eql true .pi (.tmp 7) (.tmp 9)), none⟩]) (.cond (.tmp 10) (.seq (.ops [⟨(some 4), (.mv (.const (.bool false))), none⟩]) .ret) .skip)) (.seq (.seq (.ops [⟨(some 11), (.mv (.tmp 0)), none⟩, ⟨(some 12), (.lenS (.tmp 11)), none⟩, ⟨(some 13), (.mv (.const (.int .i64 (.ofNat 0)))), none⟩]) (.block 0 (.loop (.seq (.ops [⟨(some 14), (.arith .lss (.tmp 13) (.tmp 12)), none⟩]) (.seq (.cond (.tmp 14) .skip (.exit 0)) (.seq (.block 1 (.seq (.ops [⟨(some 15), (.mv (.tmp 13)), none⟩, ⟨(some 5), (.mv (.tmp 15)), none⟩]) (.seq (.drawn 0 [⟨⟨(some 16), (.mv (.tmp 0)), none⟩, .pure, 0, 0, 0⟩, ⟨⟨(some 17), (.mv (.tmp 5)), none⟩, .pure, 0, 0, 0⟩, ⟨⟨(some 18), (.iaddrS 2 (.tmp 16) (.tmp 17)), none⟩, .pure, 0, 0, 3⟩, ⟨⟨(some 19), (.load true 2 (.tmp 18)), none⟩, .read, 0, 0, 7⟩, ⟨⟨(some 20), (.mv (.tmp 1)), none⟩, .pure, 0, 0, 0⟩, ⟨⟨(some 21), (.mv (.tmp 5)), none⟩, .pure, 0, 0, 0⟩, ⟨⟨(some 22), (.iaddrS 2 (.tmp 20) (.tmp 21)), none⟩, .pure, 0, 0, 48⟩, ⟨⟨(some 23), (.load true 2 (.tmp 22)), none⟩, .read, 0, 0, 112⟩, ⟨⟨(some 24), (.eql true (.agg [⟨0, ⟨1, ⟨false, .pi⟩⟩⟩, ⟨1, ⟨1, ⟨false, .pi⟩⟩⟩]) (.tmp 19) (.tmp 23)), none⟩, .pure, 0, 0, 255⟩]) (.cond (.tmp 24) (.seq (.ops [⟨(some 4), (.mv (.const (.bool false))), none⟩]) .ret) .skip)))) (.ops [⟨(some 25), (.arith .add (.tmp 13) (.const (.int .i64 (.ofNat 1)))), none⟩, ⟨(some 13), (.mv (.tmp 25)), none⟩]))))))) (.seq (.ops [⟨(some 4), (.mv (.const (.bool true))), none⟩]) .ret))))
noncomputable def a585 : CF := NF (cd 117 19) _
noncomputable def a605 : CF := NF (cd 137 36) _
noncomputable def a610 : CF := NF (cd 142 9) _
noncomputable def a623 : CF := NF (cd 181 9) _
noncomputable def a626 : CF := NF (cd 185 9) _
noncomputable def a629 : CF := NF (cd 188 27) _
noncomputable def a630 : CF := NF (cd 189 19) _
noncomputable def a635 : CF := NF (cd 252 19) _
noncomputable def a636 : CF := NF (cd 253 19) _
structure BaseSl (P : Program) (K : Orc) (F : Nat → FuncId) (T : Nat → TypeId) : Prop where
  f48 : FnK P K (F 48) 9 [(.tmp 4)] (a48 F T)
  f103 : FnK P K (F 103) 9 [(.tmp 4)] (a103 F T)
  f106 : FnK P K (F 106) 19 [(.tmp 4)] (a106 F T)
  f113 : FnK P K (F 113) 19 [(.tmp 4)] (a113 F T)
  f155 : FnK P K (F 155) 19 [(.tmp 4)] (a155 F T)
  f167 : FnK P K (F 167) 9 [(.tmp 4)] (a167 F T)
  f204 : FnK P K (F 204) 19 [(.tmp 4)] (a204 F T)
  f207 : FnK P K (F 207) 63 [] (a207 F T)
  f229 : FnK P K (F 229) 9 [(.tmp 4)] (a229 F T)
  f237 : FnK P K (F 237) 53 [] (a237 F T)
  f238 : FnK P K (F 238) 220 [] (a238 F T)
  f286 : FnK P K (F 286) 58 [] (a286 F T)
  f299 : FnK P K (F 299) 38 [] (a299 F T)
  f432 : FnK P K (F 432) 32 [(.tmp 6)] (a432 F T)
  f436 : FnK P K (F 436) 32 [(.tmp 6)] (a436 F T)
  f438 : FnK P K (F 438) 32 [(.tmp 6)] (a438 F T)
  f454 : FnK P K (F 454) 26 [(.tmp 4)] (a454 F T)
  f455 : FnK P K (F 455) 26 [(.tmp 4)] (a455 F T)
  f465 : FnK P K (F 465) 26 [(.tmp 4)] (a465 F T)
  f466 : FnK P K (F 466) 26 [(.tmp 4)] (a466 F T)
  f585 : FnK P K (F 585) 19 [(.tmp 4)] (a585 F T)
  f605 : FnK P K (F 605) 36 [(.tmp 2)] (a605 F T)
  f610 : FnK P K (F 610) 9 [(.tmp 4)] (a610 F T)
  f623 : FnK P K (F 623) 9 [(.tmp 4)] (a623 F T)
  f626 : FnK P K (F 626) 9 [(.tmp 4)] (a626 F T)
  f629 : FnK P K (F 629) 27 [(.tmp 4)] (a629 F T)
  f630 : FnK P K (F 630) 19 [(.tmp 4)] (a630 F T)
  f635 : FnK P K (F 635) 19 [(.tmp 4)] (a635 F T)
  f636 : FnK P K (F 636) 19 [(.tmp 4)] (a636 F T)
end Go.Ev
namespace Go.Ev
section
variable {P : Program} {K : Orc} {rd : Option Nat} {nt : Nat} {l : Sl} {ds : List ADef} {s : SH} {Q Qn Qr : Po} {Qe : Nat → Po} {F : Nat → FuncId} {T : Nat → TypeId}
@[reducible] def nilS : AV := .slice none 0 0 false 0
@[reducible] def iv (n : Int) : AV := .int .i64 n
theorem cloneNil_ok {sz bytes : Nat} {z : List AV} {rw : Nat} {R : AV → SH → Prop} (hR : R nilS s) :
    WP P K none nt (cloneC sz bytes z) (sl0 0 [.slice none 0 0 false rw]) [] s (Fin P [.tmp 2] R) (fun _ _ _ _ => False) (Fin P [.tmp 2] R) := by
  unfold cloneC
  refine WP.seq (WP.ops (WO.r (.mv rfl) (WO.nil (WP.seq (WP.seq (WP.ops (WO.r (.mv rfl) (WO.r (.eql rfl rfl rfl) (WO.nil ?_)))))))))
  refine WP.cond rfl (fun _ => ?_) (fun h => by cases h)
  exact WP.seq (WP.ops (WO.r (.mv rfl) (WO.nil (WP.ret (Fin.mk (.tmp rfl .nil) hR)))))
theorem FnK.clone {f : FuncId} {sz bytes : Nat} {z : List AV} (h : FnK P K f 8 [.tmp 2] (cloneC sz bytes z)) {v : AV} {L : List (List AV)} (hs : Src s sz v L) (hz : sz ≠ 0) (h1 : L.length ≤ 1000000000) (h2 : bytes ≤ 1000) : Tri P K f [v] s (fun v' s' => ∃ n, s' = n ++ s ∧ OutL n sz v' L) :=
  h.tri (clone_ok hs hz h1 h2 fun v' n ho => ⟨n, rfl, ho⟩)
theorem FnK.cloneNil {f : FuncId} {sz bytes : Nat} {z : List AV} (h : FnK P K f 8 [.tmp 2] (cloneC sz bytes z)) {rw : Nat} : Tri P K f [.slice none 0 0 false rw] s (fun v' s' => v' = nilS ∧ s' = s) :=
  h.tri (cloneNil_ok ⟨rfl, rfl⟩)
theorem perm_ct {a b : SH} (h : ∀ (c : SH → Nat) (w : Nat × HO → Nat), c [] = 0 → (∀ x y, c (x ++ y) = c x + c y) → (∀ p x, c (p :: x) = w p + c x) → (∀ x y, x.Perm y → c x = c y) → c a = c b) : a.Perm b := by
  classical
  refine List.perm_iff_count.2 fun q => ?_
  exact h (fun l => l.count q) (fun p => if p == q then 1 else 0) rfl (fun x y => List.count_append) (fun p x => by
    rw [List.count_cons, Nat.add_comm]) (fun x y hp => hp.count_eq q)
theorem pm2 {a b : SH} (h : ∀ (c : SH → Nat) (w : Nat × HO → Nat), c [] = 0 → (∀ x y, c (x ++ y) = c x + c y) → (∀ p x, c (p :: x) = w p + c x) → (∀ x y, x.Perm y → c x = c y) → c a = c b := by intro c w h0 h1 h2 hq; simp only [h0, h1, h2]; omega) : a.Perm b := perm_ct h
inductive GI : List (List AV) → List (List (List AV)) → SH → Prop
  | nil : GI [] [] []
  | snoc {L : List (List AV)} {LL : List (List (List AV))} {n oi : SH} {x : AV} {lst : List (List AV)} : GI L LL n → Gr 1 x lst oi → GI (L ++ [[x]]) (LL ++ [lst]) (oi ++ n)
  | junk {L : List (List AV)} {LL : List (List (List AV))} {n m : SH} : GI L LL n → GI L LL (m ++ n)
  | perm {L : List (List AV)} {LL : List (List (List AV))} {n m : SH} : GI L LL n → n.Perm m → GI L LL m
theorem GI.len {L : List (List AV)} {LL : List (List (List AV))} {n : SH} (h : GI L LL n) : L.length = LL.length := by
  induction h with
  | nil => rfl
  | snoc _ _ ih => simp [ih]
  | junk _ ih => exact ih
  | perm _ _ ih => exact ih
theorem GI.at {L : List (List AV)} {LL : List (List (List AV))} {n : SH} (h : GI L LL n) : ∀ {p : Nat}, p < LL.length → ∃ x lst oi r, L[p]? = some [x] ∧ LL[p]? = some lst ∧ Gr 1 x lst oi ∧ n.Perm (oi ++ r) ∧ ∀ x' lst' oi', Gr 1 x' lst' oi' → GI (L.set p [x']) (LL.set p lst') (oi' ++ r) := by
  induction h with
  | nil => intro p hp; exact absurd hp (Nat.not_lt_zero _)
  | @snoc L LL n oi x lst h hg ih =>
    intro p hp
    rw [List.length_append] at hp
    have hlen := h.len
    by_cases hpl : p < LL.length
    · obtain ⟨x0, lst0, oi0, r, h1, h2, h3, h4, h5⟩ := ih hpl
      refine ⟨x0, lst0, oi0, oi ++ r, ?_, ?_, h3, ?_, fun x' lst' oi' hg' => ?_⟩
      · rw [List.getElem?_append_left (by omega)]; exact h1
      · rw [List.getElem?_append_left hpl]; exact h2
      · refine (List.Perm.append_left oi h4).trans ?_
        rw [← List.append_assoc, ← List.append_assoc]
        exact List.Perm.append_right r List.perm_append_comm
      · rw [List.set_append_left _ _ (by omega), List.set_append_left _ _ hpl]
        refine .perm (.snoc (h5 x' lst' oi' hg') hg) ?_
        rw [← List.append_assoc, ← List.append_assoc]
        exact List.Perm.append_right r List.perm_append_comm
    · have hpe : p = LL.length := by simp only [List.length_cons, List.length_nil] at hp; omega
      subst hpe
      refine ⟨x, lst, oi, n, ?_, ?_, hg, .refl _, fun x' lst' oi' hg' => ?_⟩
      · rw [List.getElem?_append_right (by omega), hlen, Nat.sub_self]; rfl
      · rw [List.getElem?_append_right (Nat.le_refl _), Nat.sub_self]; rfl
      · rw [List.set_append_right _ _ (by omega), List.set_append_right _ _ (Nat.le_refl _), hlen, Nat.sub_self]
        exact .snoc h hg'
  | @junk L LL n m h ih =>
    intro p hp
    obtain ⟨x0, lst0, oi0, r, h1, h2, h3, h4, h5⟩ := ih hp
    refine ⟨x0, lst0, oi0, m ++ r, h1, h2, h3, ?_, fun x' lst' oi' hg' => ?_⟩
    · refine (List.Perm.append_left m h4).trans ?_
      rw [← List.append_assoc, ← List.append_assoc]
      exact List.Perm.append_right r List.perm_append_comm
    · refine .perm (.junk (m := m) (h5 x' lst' oi' hg')) ?_
      rw [← List.append_assoc, ← List.append_assoc]
      exact List.Perm.append_right r List.perm_append_comm
  | @perm L LL n m h hp ih =>
    intro p hpl
    obtain ⟨x0, lst0, oi0, r, h1, h2, h3, h4, h5⟩ := ih hpl
    exact ⟨x0, lst0, oi0, r, h1, h2, h3, hp.symm.trans h4, h5⟩
inductive SI (s : SH) : List (List AV) → List (List (List AV)) → Prop
  | nil : SI s [] []
  | cons {L : List (List AV)} {LL : List (List (List AV))} {x : AV} {lst : List (List AV)} : Src s 1 x lst → SI s L LL → SI s ([x] :: L) (lst :: LL)
def SL (s : SH) (v : AV) (LL : List (List (List AV))) : Prop := ∃ L, Src s 1 v L ∧ SI s L LL
def GL (v : AV) (LL : List (List (List AV))) (o : SH) : Prop := ∃ L o' oi, Gr 1 v L o' ∧ GI L LL oi ∧ o = o' ++ oi
theorem SI.snoc {L : List (List AV)} {LL : List (List (List AV))} {x : AV} {lst : List (List AV)} (h : SI s L LL) (h1 : Src s 1 x lst) : SI s (L ++ [[x]]) (LL ++ [lst]) := by
  induction h with
  | nil => exact .cons h1 .nil
  | cons h2 _ ih => exact .cons h2 ih
theorem SI.one {L : List (List AV)} {LL : List (List (List AV))} (h : SI s L LL) : L.length = LL.length ∧ ∀ row ∈ L, row.length = 1 := by
  induction h with
  | nil => exact ⟨rfl, fun row hr => nomatch hr⟩
  | cons _ _ ih => exact ⟨by simp [ih.1], fun row hr => by cases hr with | head => rfl | tail _ hr => exact ih.2 row hr⟩
theorem SI.get {L : List (List AV)} {LL : List (List (List AV))} (h : SI s L LL) : ∀ (i : Nat) row, L[i]? = some row → ∃ x lst, row = [x] ∧ LL[i]? = some lst ∧ Src s 1 x lst := by
  induction h with
  | nil => intro i row h; simp at h
  | cons h1 _ ih =>
    intro i row h
    cases i with
    | zero => cases h; exact ⟨_, _, rfl, rfl, h1⟩
    | succ i => exact ih i row h
theorem GI.si {L : List (List AV)} {LL : List (List (List AV))} {n : SH} (h : GI L LL n) (hn : ∀ p, p ∈ n → p ∈ s) : SI s L LL := by
  induction h with
  | nil => exact .nil
  | snoc _ hg ih => exact (ih fun p hp => hn p (List.mem_append_right _ hp)).snoc (hg.out.src.mono fun p hp => hn p (List.mem_append_left _ hp))
  | junk _ ih => exact ih fun p hp => hn p (List.mem_append_right _ hp)
  | perm _ hp ih => exact ih fun p hq => hn p (hp.mem_iff.1 hq)
theorem GL.sl {v : AV} {LL : List (List (List AV))} {o : SH} (h : GL v LL o) (hn : ∀ p, p ∈ o → p ∈ s) : SL s v LL := by
  obtain ⟨L, o', oi, h1, h2, rfl⟩ := h
  exact ⟨L, h1.out.src.mono fun p hp => hn p (List.mem_append_left _ hp), h2.si fun p hp => hn p (List.mem_append_right _ hp)⟩
theorem AllS.gi {L L' : List (List AV)} {n : SH} {LL : List (List (List AV))} (h : AllS (fun i _ b m => ∃ lst x', LL[i]? = some lst ∧ b = [x'] ∧ OutL m 1 x' lst) L L' n) : L.length ≤ LL.length → GI L' (LL.take L.length) n := by
  induction h with
  | @nil n => intro _; exact .perm (.junk (m := n) .nil) (by rw [List.append_nil])
  | @snoc a b L L' x m y n h1 h2 ih =>
    intro hlen
    rw [List.length_append] at hlen
    simp only [List.length_cons, List.length_nil] at hlen
    obtain ⟨lst, x', e1, rfl, h4⟩ := h2
    obtain ⟨oi, p, q, g1, rfl⟩ := h4.gr
    have e2 : LL.take (L ++ [a]).length = LL.take L.length ++ [lst] := by
      rw [List.length_append, List.length_cons, List.length_nil, Nat.zero_add, List.take_add_one, e1]; rfl
    rw [e2]
    refine .perm (.junk (m := x ++ (p ++ (q ++ y))) (.snoc (ih (by omega)) g1)) ?_
    exact perm_ct fun c w h0 h1 h2 _ => by simp only [h1]; omega
def nR (l : List Int) : List (List AV) := l.map fun n => [iv n]
def nRR (l : List (List Int)) : List (List (List AV)) := l.map nR
theorem OutL.part {sz : Nat} {v : AV} {L : List (List AV)} {n : SH} (h : OutL n sz v L) (hz : sz ≠ 0) : partCells 1 v = some [v] := by
  cases h <;> rfl
def GrJ (sz : Nat) (v : AV) (L : List (List AV)) (o : SH) : Prop := ∃ o' j, o.Perm (o' ++ j) ∧ Gr sz v L o'
theorem OutL.grj {sz : Nat} {v : AV} {L : List (List AV)} {n : SH} (h : OutL n sz v L) : GrJ sz v L n := by
  obtain ⟨o, x, y, h1, rfl⟩ := h.gr
  exact ⟨o, x ++ y, perm_ct fun c w h0 h1 h2 _ => by simp only [h1]; omega, h1⟩
theorem FnK.cloneJ {f : FuncId} {sz bytes : Nat} {z : List AV} (h : FnK P K f 8 [.tmp 2] (cloneC sz bytes z)) {v : AV} {L : List (List AV)} (hs : Src s sz v L) (hz : sz ≠ 0) (h1 : L.length ≤ 1000000000) (h2 : bytes ≤ 1000) : Tri P K f [v] s (fun v' s' => ∃ n, s' = n ++ s ∧ GrJ sz v' L n) :=
  (h.clone hs hz h1 h2).post fun v' s' ⟨n, h1, h2⟩ => ⟨n, h1, h2.grj⟩
theorem Src.same {sz : Nat} {v : AV} {L : List (List AV)} (h : Src s sz v L) : sameV v v = true := by
  cases h with
  | nil => simp [sameV, sameN, same0]
  | @zero a c sl rw => cases a <;> simp [sameV, sameN, same0]
  | emp => rfl
  | rows _ _ => simp [sameV, sameN, same0]
theorem Gr.part {sz : Nat} {v : AV} {L : List (List AV)} {n : SH} (h : Gr sz v L n) : partCells 1 v = some [v] := by
  cases h <;> rfl
theorem GrJ.part {sz : Nat} {v : AV} {L : List (List AV)} {n : SH} (h : GrJ sz v L n) : partCells 1 v = some [v] := by
  obtain ⟨_, _, _, h⟩ := h
  exact h.part
theorem GL.part {v : AV} {LL : List (List (List AV))} {n : SH} (h : GL v LL n) : partCells 1 v = some [v] := by
  obtain ⟨_, _, _, h, _⟩ := h
  exact h.part
theorem SI.mono {L : List (List AV)} {LL : List (List (List AV))} {s' : SH} (h : SI s L LL) (hs : ∀ p, p ∈ s → p ∈ s') : SI s' L LL := by
  induction h with
  | nil => exact .nil
  | cons k1 k2 ih => exact .cons (k1.mono hs) ih
theorem SL.mono {v : AV} {LL : List (List (List AV))} {s' : SH} (h : SL s v LL) (hs : ∀ p, p ∈ s → p ∈ s') : SL s' v LL := by
  obtain ⟨L, h1, h2⟩ := h
  exact ⟨L, h1.mono hs, h2.mono hs⟩
theorem SL.same {v : AV} {LL : List (List (List AV))} (h : SL s v LL) : sameV v v = true := by
  obtain ⟨L, h1, _⟩ := h
  exact h1.same
theorem pull {o x n s : SH} (h : x = n ++ s) : o ++ x = (o ++ n) ++ s := by rw [h, List.append_assoc]
theorem pull2 {p q : Nat × HO} {s : SH} : p :: q :: s = [p, q] ++ s := rfl
theorem Tri.perm {f : FuncId} {args : List AV} {s s' : SH} {R : AV → SH → Prop} (hp : s.Perm s') (h : Tri P K f args s R) : Tri P K f args s' R :=
  fun H0 H hH => h H0 H (hH.perm hp.symm)
theorem ieq_iff {a b : Int} : ieq a b = true ↔ a = b := by
  cases a <;> cases b <;> simp [ieq] <;> omega
theorem ieq_dec (a b : Int) : ieq a b = decide (a = b) := by
  cases h : ieq a b with
  | true => simp [ieq_iff.1 h]
  | false =>
    have : ¬ a = b := fun e => by rw [ieq_iff.2 e] at h; cases h
    simp [this]
theorem eqB_i (a b : Int) : eqBy 20 .pi (iv a) (iv b) = some (decide (a = b)) := by
  show some (ieq a b) = _
  rw [ieq_dec]
theorem findIdx?_map' {α β : Type} (f : α → β) (p : β → Bool) : ∀ (l : List α), (l.map f).findIdx? p = l.findIdx? fun a => p (f a) := by
  intro l
  induction l with
  | nil => rfl
  | cons a l ih => rw [List.map_cons, List.findIdx?_cons, List.findIdx?_cons, ih]
end
section
variable {P : Program} {K : Orc} {rd : Option Nat} {nt : Nat} {l : Sl} {ds : List ADef} {s : SH} {Q Qn Qr : Po} {Qe : Nat → Po} {F : Nat → FuncId} {T : Nat → TypeId}
variable {j : Nat} {bs : List Nat} {pd : List PD} {d : Option Nat} {op : AOp} {lo hi a : Nat} {rest : List DC} {v : AV} {hs : List SH} {os : List OB} {is : List Nat}
theorem cg_some {ops : List Oper} {g : Option (Nat × Bool)} {jj : Nat} {w : Bool} (h : cg ops g = some (some (jj, w))) : ∃ k o, g = some (k, w) ∧ lget ops k = some o ∧ o.dst = some jj := by
  cases g with
  | none => cases h
  | some x =>
    obtain ⟨k, w'⟩ := x
    unfold cg at h
    dsimp only at h
    split at h
    · rename_i o ho
      split at h
      · rename_i d0 hd0
        cases h
        exact ⟨k, o, rfl, ho, hd0⟩
      · cases h
    · cases h
theorem wanted_eq {ops : Array Oper} {e : Tr AV} {k jj : Nat} {w b : Bool} {o : Oper} (h1 : lget ops.toList k = some o) (h2 : o.dst = some jj) (h3 : e.get jj = some (.bool b)) : wanted e ops (some (k, w)) = some (b == w) := by
  unfold wanted
  simp only [h1, h2, h3]
theorem WD.yes {jj : Nat} {w b : Bool} {cls : Cls} (h : WD P K rd (⟨⟨d, op, none⟩, cls, lo, hi, a⟩ :: rest) j bs pd hs os is l ds s Q) (hj : Go.Ev.lk l jj = some (.bool b) := by rfl) (hb : b = w := by rfl) : WD P K rd (⟨⟨d, op, some (jj, w)⟩, cls, lo, hi, a⟩ :: rest) j bs pd hs os is l ds s Q := by
  subst hb
  intro ops anc l0 hd H0 S hS
  obtain ⟨d0, r0, rfl, h1, h2, h3, h4, h5, h6, h7, h8⟩ := dcs_cons hd
  obtain ⟨k, o, g1, g2, g3⟩ := cg_some h3
  have hw : wanted S.e ops d0.o.guard = some true := by
    rw [g1, wanted_eq g2 g3 (hS.en _ _ hj), beq_self_eq_true]
  have hd' : dcs ops.toList anc j ({ d0 with o := { d0.o with guard := none } } :: r0) = some (⟨⟨d, op, none⟩, cls, lo, hi, a⟩ :: rest) := by
    unfold dcs
    simp only [cg, h7, h8, h1, h2, h4, h5, h6]
  obtain ⟨n, S', k1, k2⟩ := h ops anc _ hd' H0 S hS
  refine ⟨n, S', ?_, k2⟩
  obtain ⟨S1, j1, j2⟩ := (lfold_cons _ _ _ _ _).1 k1
  refine (lfold_cons _ _ _ _ _).2 ⟨S1, ?_, j2⟩
  rw [← j1]
  unfold dstep
  simp only [hw]
  rfl
theorem WD.skip {jj : Nat} {w b : Bool} {cls : Cls} (h : WD P K rd rest (j + 1) bs pd hs os is (pl d .undef l) ds s Q) (hj : Go.Ev.lk l jj = some (.bool b) := by rfl) (hb : (b == w) = false := by rfl) (hc : (match cls with | .pure => true | .read => true | _ => false) = true := by rfl) : WD P K rd (⟨⟨d, op, some (jj, w)⟩, cls, lo, hi, a⟩ :: rest) j bs pd hs os is l ds s Q := by
  intro ops anc l0 hd H0 S hS
  obtain ⟨d0, r0, rfl, h1, h2, h3, h4, h5, h6, h7, h8⟩ := dcs_cons hd
  obtain ⟨k, o, g1, g2, g3⟩ := cg_some h3
  have hw : wanted S.e ops d0.o.guard = some false := by
    rw [g1, wanted_eq g2 g3 (hS.en _ _ hj), hb]
  obtain ⟨n, S', k1, k2⟩ := h ops anc r0 h8 H0 { S with e := Ev.putO S.e d .undef, j := Nat.succ S.j } ⟨hS.en.putO d _, hS.ds, hS.hp, by show S.j + 1 = _; rw [hS.j], hS.bs, hS.pd, hS.hs, hS.os, hS.pi, hS.mi⟩
  refine ⟨n, S', (lfold_cons _ _ _ _ _).2 ⟨_, ?_, k1⟩, k2⟩
  unfold dstep
  simp only [hw, h4, h1]
  cases cls <;> first | rfl | cases hc
theorem WD.skipc {jj : Nat} {w b : Bool} (hj : Go.Ev.lk l jj = some (.bool b)) (hb : (b == w) = false) (h : WD P K rd rest (j + 1) bs pd (s :: hs) os is (pl d .undef l) ds s Q) : WD P K rd (⟨⟨d, op, some (jj, w)⟩, .chain, lo, hi, a⟩ :: rest) j bs pd hs os is l ds s Q := by
  intro ops anc l0 hd H0 S hS
  obtain ⟨d0, r0, rfl, h1, h2, h3, h4, h5, h6, h7, h8⟩ := dcs_cons hd
  obtain ⟨k, o, g1, g2, g3⟩ := cg_some h3
  have hw : wanted S.e ops d0.o.guard = some false := by
    rw [g1, wanted_eq g2 g3 (hS.en _ _ hj), hb]
  obtain ⟨n, S', k1, k2⟩ := h ops anc r0 h8 H0 { S with e := Ev.putO S.e d .undef, Hs := S.H :: S.Hs, j := Nat.succ S.j } ⟨hS.en.putO d _, hS.ds, hS.hp, by show S.j + 1 = _; rw [hS.j], hS.bs, hS.pd, ⟨hS.hp, hS.hs⟩, hS.os, hS.pi, hS.mi⟩
  refine ⟨n, S', (lfold_cons _ _ _ _ _).2 ⟨_, ?_, k1⟩, k2⟩
  unfold dstep
  simp only [hw, h4, h1]
theorem WO.yes {jj : Nat} {w b : Bool} {rest : List AOper} (h : WO P K (⟨d, op, none⟩ :: rest) l ds s Q) (hj : Go.Ev.lk l jj = some (.bool b) := by rfl) (hb : b = w := by rfl) : WO P K (⟨d, op, some (jj, w)⟩ :: rest) l ds s Q :=
  WO.guard hj (fun _ => h) (fun h => absurd hb h)
theorem WO.skip {jj : Nat} {w b : Bool} {rest : List AOper} (h : WO P K rest (pl d .undef l) ds s Q) (hj : Go.Ev.lk l jj = some (.bool b) := by rfl) (hb : (b == w) = false := by rfl) : WO P K (⟨d, op, some (jj, w)⟩ :: rest) l ds s Q :=
  WO.guard hj (fun h => by subst h; rw [beq_self_eq_true] at hb; cases hb) (fun _ => h)
theorem wanted_und {ops : Array Oper} {e : Tr AV} {k jj : Nat} {w : Bool} {o : Oper} (h1 : lget ops.toList k = some o) (h2 : o.dst = some jj) (h3 : e.get jj = some .undef) : wanted e ops (some (k, w)) = some false := by
  unfold wanted
  simp only [h1, h2, h3]
  rfl
theorem WD.skipu {jj : Nat} {w : Bool} {cls : Cls} (hj : Go.Ev.lk l jj = some .undef) (hc : (match cls with | .pure => true | .read => true | _ => false) = true) (h : WD P K rd rest (j + 1) bs pd hs os is (pl d .undef l) ds s Q) : WD P K rd (⟨⟨d, op, some (jj, w)⟩, cls, lo, hi, a⟩ :: rest) j bs pd hs os is l ds s Q := by
  intro ops anc l0 hd H0 S hS
  obtain ⟨d0, r0, rfl, h1, h2, h3, h4, h5, h6, h7, h8⟩ := dcs_cons hd
  obtain ⟨k, o, g1, g2, g3⟩ := cg_some h3
  have hw : wanted S.e ops d0.o.guard = some false := by
    rw [g1, wanted_und g2 g3 (hS.en _ _ hj)]
  obtain ⟨n, S', k1, k2⟩ := h ops anc r0 h8 H0 { S with e := Ev.putO S.e d .undef, j := Nat.succ S.j } ⟨hS.en.putO d _, hS.ds, hS.hp, by show S.j + 1 = _; rw [hS.j], hS.bs, hS.pd, hS.hs, hS.os, hS.pi, hS.mi⟩
  refine ⟨n, S', (lfold_cons _ _ _ _ _).2 ⟨_, ?_, k1⟩, k2⟩
  unfold dstep
  simp only [hw, h4, h1]
  cases cls <;> first | rfl | cases hc
theorem WO.skipu {jj : Nat} {w : Bool} {rest : List AOper} (hj : Go.Ev.lk l jj = some .undef) (h : WO P K rest (pl d .undef l) ds s Q) : WO P K (⟨d, op, some (jj, w)⟩ :: rest) l ds s Q := by
  intro nt ops l0 hl H0 e H he hH
  cases l0 with
  | nil => cases hl
  | cons x l0 =>
    obtain ⟨c, cs, g1, g2, g3⟩ := (lmapO_cons _ x l0 _).1 hl
    cases g3
    obtain ⟨k, o, hc, ho, hd⟩ : ∃ k o, cOper P nt x = ⟨d, op, some (k, w)⟩ ∧ lget ops.toList k = some o ∧ o.dst = some jj := by
      unfold co at g1
      generalize cOper P nt x = z at g1 ⊢
      obtain ⟨d', op', g'⟩ := z
      dsimp only at g1
      split at g1
      · rename_i g hg
        cases g1
        obtain ⟨k, o, rfl, h1, h2⟩ := cg_some hg
        exact ⟨k, o, rfl, h1, h2⟩
      · cases g1
    obtain ⟨e', ds', H', l', s', j1, j2, j3, j4⟩ := h nt ops l0 g2 H0 (putO e d .undef) H (he.putO d .undef) hH
    exact ⟨_, _, _, _, _, OpsTo.pass hc (wanted_und ho hd (he _ _ hj)) j1, j2, j3, j4⟩
theorem WD.dm {b : Nat} (k : WD P K rd rest (j + 1) bs (⟨j, b, .m []⟩ :: pd) hs os (j :: is) (pl d (.map (some b)) l) ds s Q) : WD P K rd (⟨⟨d, .mkmap, none⟩, .dmap, lo, hi, a⟩ :: rest) j (b :: bs) pd hs os is l ds s Q := by
  refine WD.step rfl ?_ k
  intro ops anc d0 H0 S h1 h2 h3 h4 h5 h6 h7 hS
  obtain ⟨rfl, hb⟩ := hS.bs
  refine ⟨0, { S with e := Ev.putO S.e d (.map (some S.nid)), j := Nat.succ S.j, nid := Nat.succ S.nid, pend := ⟨S.j, S.nid, .map [], 0, []⟩ :: S.pend }, ?_, ⟨hS.en.putO d _, hS.ds, hS.hp, by show S.j + 1 = _; rw [hS.j], hb, ⟨⟨hS.j, rfl, (fun h => by cases h), rfl⟩, hS.pd⟩, hS.hs, hS.os, fun p hp => ?_, fun p hp => List.mem_cons_of_mem _ (hS.mi p hp)⟩⟩
  · unfold dstep
    rw [h3, h4]
    simp only [wanted, h2, allocOf, h1]
  · cases hp with
    | head => rw [show (⟨S.j, S.nid, .map [], 0, []⟩ : Pend).i = j from hS.j]; exact List.mem_cons_self ..
    | tail _ hp => exact List.mem_cons_of_mem _ (hS.pi p hp)
theorem WD.in1 {b i : Nat} {lit : Bool} {kk : EqP} {m q x : Operand} {kv vv : AV} {es : List (AV × AV)} (hm : opl l m = some (.map (some b))) (hk : opl l q = some kv) (hx : opl l x = some vv) (ha : bit a i = true) (hl : lookIn kk kv es = some none) (hp : primEq kk kv kv = some true)
    (k : WD P K rd rest (j + 1) bs [⟨i, b, .m (lapp es [(kv, vv)])⟩] hs os is (pl d .undef l) ds s Q) : WD P K rd (⟨⟨d, .ins lit kk m q x, none⟩, .dins, lo, hi, a⟩ :: rest) j bs [⟨i, b, .m es⟩] hs os is l ds s Q := by
  refine WD.step rfl ?_ k
  intro ops anc d0 H0 S h1 h2 h3 h4 h5 h6 h7 hS
  obtain ⟨p, hp1, q1, q2, q3, q4⟩ : ∃ p, S.pend = [p] ∧ p.i = i ∧ p.id = b ∧ p.o = .map es ∧ p.i ∈ is := by
    have h := hS.pd
    have hpi := hS.pi
    cases hpd : S.pend with
    | nil => rw [hpd] at h; exact h.elim
    | cons p ps =>
      rw [hpd] at h
      cases ps with
      | nil =>
        obtain ⟨⟨w1, w2, w3, w4⟩, _⟩ := h
        exact ⟨p, rfl, w1, w2, Option.some.inj w4, hpi p (by rw [hpd]; exact List.mem_cons_self ..)⟩
      | cons _ _ => exact h.2.elim
  refine ⟨0, { S with e := Ev.putO S.e d .undef, j := Nat.succ S.j, pend := [⟨p.i, p.id, .map (lapp es [(kv, vv)]), Nat.lor p.ins (Nat.shiftLeft 1 j), lapp p.ent [(j, kv, vv)]⟩] }, ?_, ⟨hS.en.putO d _, hS.ds, hS.hp, by show S.j + 1 = _; rw [hS.j], hS.bs, ⟨⟨q1, q2, (fun h => by cases h), rfl⟩, trivial⟩, hS.hs, hS.os, fun p' hp' => ?_, hS.mi⟩⟩
  · have hins : insPend kk kv vv b j a [p] = some (true, [⟨p.i, p.id, .map (lapp es [(kv, vv)]), Nat.lor p.ins (Nat.shiftLeft 1 j), lapp p.ent [(j, kv, vv)]⟩]) := by
      unfold insPend
      refine (lfold_cons _ _ _ _ _).2 ⟨_, ?_, rfl⟩
      rw [q2, bq_self, q1, ha, q3]
      dsimp only
      rw [hl]
      dsimp only
      rw [hp]
    unfold dstep
    rw [h3, h4, hS.j]
    simp only [wanted, h7, h2, opl_ok hS.en hm, opl_ok hS.en hk, opl_ok hS.en hx, hp1, hins, h1]
    try rw [hS.j]
  · rw [List.mem_singleton.1 hp']
    exact q4
theorem lss_i (a b : Int) : binV .lss (iv a) (iv b) = some (.bool (decide (a < b))) := by show some (AV.bool (ilt a b)) = _; rw [ilt_eq]
theorem gtr_i (a b : Int) : binV .gtr (iv a) (iv b) = some (.bool (decide (b < a))) := by show some (AV.bool (ilt b a)) = _; rw [ilt_eq]
theorem geq_i (a b : Int) : binV .geq (iv a) (iv b) = some (.bool (!decide (a < b))) := by show some (AV.bool (!ilt a b)) = _; rw [ilt_eq]
theorem WD.n0 {j : Nat} {bs : List Nat} {hs : List SH} {is : List Nat} (h : Q l ds s) : WD P K rd [] j bs [] hs [] is l ds s Q := WD.nil .nil h (fun o h => nomatch h)
theorem Vr {G X : Prop} (h : X ∧ True → G := by
    intro k
    repeat (first
      | refine WP.seq ?_
      | refine WP.ops ?_
      | refine WO.r (.mv rfl) ?_
      | refine WO.nil ?_
      | refine WO.r (.faddr rfl) ?_
      | refine WO.yes ?_
      | refine WO.skip ?_
      | refine WO.skipu rfl ?_
      | refine WO.r (.extract rfl rfl) ?_
      | refine WO.r (.nilchk rfl rfl) ?_
      | refine WO.r (.pick0 rfl rfl) ?_
      | refine WO.r (.pick1 rfl rfl) ?_
      | refine WO.r (.fld rfl rfl) ?_
      | refine WO.r (.un rfl rfl) ?_
      | refine WO.r (.mkif rfl rfl) ?_
      | refine WO.r (.mkfn rfl rfl) ?_
      | refine WO.r (.build rfl rfl) ?_
      | (apply WO.r; (focus (apply WR.look; exact rfl; exact rfl; exact zP; exact rfl)))
      | refine WP.skip ?_
      | refine WP.block ?_
      | refine WP.cond rfl (fun h => Bool.noConfusion (show false = true from h)) (fun _ => ?_)
      | refine WP.cond rfl (fun _ => ?_) (fun h => Bool.noConfusion (show true = false from h))
      | refine WO.r .ld ?_
      | (apply WO.r; (focus (apply WR.arith; exact rfl; exact rfl; assumption)))
      | (apply WO.r; (focus (apply WR.arith; exact rfl; exact rfl; exact add_n (by omega))))
      | (apply WO.r; (focus (apply WR.arith (v := .bool true); exact rfl; exact rfl; exact rfl)))
      | (apply WO.r; (focus (apply WR.arith (v := .bool false); exact rfl; exact rfl; exact rfl)))
      | (apply WO.r; (focus (apply WR.arith; exact rfl; exact rfl; exact lss_i _ _)))
      | (apply WO.r; (focus (apply WR.arith; exact rfl; exact rfl; exact geq_i _ _)))
      | (apply WO.r; (focus (apply WR.arith; exact rfl; exact rfl; exact gtr_i _ _)))
      | (apply WO.r; (focus (apply WR.arith; exact rfl; exact rfl; exact rfl)))
      | (apply WO.r; (focus (apply WR.eql; exact rfl; exact rfl; assumption)))
      | (apply WO.r; (focus (apply WR.eql (b := true); exact rfl; exact rfl; exact rfl)))
      | (apply WO.r; (focus (apply WR.eql (b := false); exact rfl; exact rfl; exact rfl)))
      | (apply WO.r; (focus (apply WR.eql; exact rfl; exact rfl; exact eqB_i _ _)))
      | (apply WO.r; (focus (apply WR.eql; exact rfl; exact rfl; exact rfl)))
      | (apply WO.r; (focus (apply WR.lenS; exact rfl; (first | assumption | exact rfl))))
      | (apply WO.r; (focus (apply WR.convI; exact rfl; (first | assumption | exact rfl))))
      | (apply WO.r; (focus (apply WR.iaddrS; exact rfl; exact rfl; (first | assumption | omega); decide)))
      | refine WD.pu (.mv rfl) ?_
      | refine WD.pu (.faddr rfl) ?_
      | refine WD.yes ?_
      | refine WD.skip ?_
      | refine WD.skipu rfl rfl ?_
      | refine WD.pu (.nilchk rfl rfl) ?_
      | refine WD.pu (.pick0 rfl rfl) ?_
      | refine WD.pu (.pick1 rfl rfl) ?_
      | refine WD.pu (.extract rfl rfl) ?_
      | refine WD.pu (.fld rfl rfl) ?_
      | refine WD.pu (.un rfl rfl) ?_
      | refine WD.pu (.mkif rfl rfl) ?_
      | refine WD.pu (.mkfn rfl rfl) ?_
      | refine WD.pu (.build rfl rfl) ?_
      | (apply WD.pu; (focus (apply WR.arith; exact rfl; exact rfl; assumption)))
      | (apply WD.pu; (focus (apply WR.arith (v := .bool true); exact rfl; exact rfl; exact rfl)))
      | (apply WD.pu; (focus (apply WR.arith (v := .bool false); exact rfl; exact rfl; exact rfl)))
      | (apply WD.pu; (focus (apply WR.arith; exact rfl; exact rfl; exact rfl)))
      | (apply WD.pu; (focus (apply WR.eql; exact rfl; exact rfl; assumption)))
      | (apply WD.pu; (focus (apply WR.eql; exact rfl; exact rfl; exact eqB_i _ _)))
      | (apply WD.pu; (focus (apply WR.eql (b := true); exact rfl; exact rfl; exact rfl)))
      | (apply WD.pu; (focus (apply WR.eql (b := false); exact rfl; exact rfl; exact rfl)))
      | (apply WD.pu; (focus (apply WR.eql; exact rfl; exact rfl; exact rfl)))
      | (apply WD.pu; (focus (apply WR.lenS; exact rfl; (first | assumption | exact rfl))))
      | (apply WD.pu; (focus (apply WR.convI; exact rfl; (first | assumption | exact rfl))))
      | (apply WD.pu; (focus (apply WR.iaddrA; exact rfl; exact rfl; (first | assumption | decide))))
      | (apply WD.pu; (focus (apply WR.iaddrS; exact rfl; exact rfl; (first | assumption | omega); decide)))
      | refine WD.ld rfl .nil .ld ?_
      | refine WP.drawn0 ?_
      | refine WD.n0 ?_
      | refine WP.ret (Fin.mk .nil ?_)
      | refine WP.ret (Fin.mk (.tmp rfl .nil) ?_)
      | refine WP.ret (Fin.mk (.tmp rfl (.tmp rfl .nil)) ?_)
      | refine WP.exit ?_
      | refine WO.w (WS.st ?_)
      | (refine WO.w (WS.ins ?_ ?_ ?_ ?_ ?_ ?_); exact rfl; exact rfl; exact rfl; exact uP; exact rfl))
    first
      | (refine WO.a (.box rfl rfl) ?_; exact k.1)
      | (refine WO.a (.alloc rfl) ?_; exact k.1)
      | exact k.1) (k : X) : G := h ⟨k, trivial⟩
end
section
variable {P : Program} {K : Orc} {rd : Option Nat} {nt : Nat} {l : Sl} {ds : List ADef} {s : SH} {Q Qn Qr : Po} {Qe : Nat → Po}
theorem Tri.canon {f : FuncId} {args : List AV} {R : AV → SH → Prop} (h : Tri P K f args s (fun v s' => ∃ s'', s'.Perm s'' ∧ R v s'')) : Tri P K f args s R := by
  intro H0 H hH
  obtain ⟨v, s', H', h1, h2, s'', h3, h4⟩ := h H0 H hH
  exact ⟨v, s'', H', h1, h2.perm h3, h4⟩
theorem WS.pre {op : AOp} {s' : SH} {R : AV → List ADef → SH → Prop} (hp : s.Perm s') (h : WS P K op l ds s' R) : WS P K op l ds s R :=
  fun H0 e H he hH => h H0 e H he (hH.perm hp)
theorem WP.pre {c : AC} {s' : SH} (hp : s.Perm s') (h : WP P K rd nt c l ds s' Qn Qe Qr) : WP P K rd nt c l ds s Qn Qe Qr :=
  WP.weak (fun _ _ h => h) (fun _ _ h => h.perm hp) h
theorem WO.pre {ol : List AOper} {s' : SH} (hp : s.Perm s') (h : WO P K ol l ds s' Q) : WO P K ol l ds s Q :=
  fun nt ops l0 h0 H0 e H he hH => h nt ops l0 h0 H0 e H he (hH.perm hp)
end
end Go.Ev
namespace Go.Ev
section
variable {P : Program} {K : Orc} {rd : Option Nat} {nt : Nat} {l : Sl} {ds : List ADef} {s : SH} {Q Qn Qr : Po} {Qe : Nat → Po} {F : Nat → FuncId} {T : Nat → TypeId}
def Keeps (I : SH → Prop) (x : SH) (D : AV → Prop) : AV → SH → Prop := fun w s' => D w ∧ ∃ u, I u ∧ s'.Perm (x ++ u)
def isB : AV → Prop := fun w => ∃ b, w = .bool b
def AskF (P : Program) (K : Orc) (g : Bool) (fv : AV) (I X : SH → Prop) (D : List AV → Prop) : Prop := ∀ u x row, X x → D row → I u → TriV P K fv [elv g row] (x ++ u) (Keeps I x isB)
theorem idxI {g : Bool} {sz : Nat} {v fv : AV} {L : List (List AV)} {I X : SH → Prop} {x u : SH} (hS : ∀ u, I u → Src u sz v L) (hz : sz ≠ 0) (hg : g = true ∨ sz = 1) (h1 : L.length ≤ 1099511627776) (hlen : ∀ row ∈ L, row.length = sz)
    (hf : AskF P K g fv I X (fun row => row ∈ L)) (hx : X x) (hu : I u) :
    WP P K none nt (idxC g sz) (sl0 0 [v, fv]) [] (x ++ u) (Fin P [.tmp 4] (Keeps I x fun w => ∃ o : Option Nat, w = idxV o ∧ ∀ i, o = some i → i < L.length)) (fun _ _ _ _ => False) (Fin P [.tmp 4] (Keeps I x fun w => ∃ o : Option Nat, w = idxV o ∧ ∀ i, o = some i → i < L.length)) := by
  unfold idxC
  refine Vk (k := WO.r (.lenS rfl (hS u hu).lenOf) (WO.r (.mv rfl) (WO.nil (WP.block ?_))))
  refine WP.loop (fun k l ds s' => ds = [] ∧ ∃ i u', k = L.length - i ∧ i ≤ L.length ∧ I u' ∧ s'.Perm (x ++ u') ∧
    ∀ j w, lk [(0, v), (1, fv), (7, .int .i64 (.ofNat L.length)), (8, .int .i64 (.ofNat i))] j = some w → lk l j = some w) ?_ (n := L.length - 0) ⟨rfl, 0, u, rfl, Nat.zero_le _, hu, .refl _, sbs⟩
  rintro k l ds s' ⟨rfl, i, u', rfl, hi, hu', hp, hl⟩
  refine WP.pre hp (WP.weak hl (fun _ _ h => h) ?_)
  refine Vk (k := WP.cond rfl (fun ht => ?_) (fun ht => ?_))
  · have hlt : i < L.length := blt_iff.1 ht
    obtain ⟨b, r, n0, c, sl, ro, M, rfl, hb, hn, hM⟩ := (hS u' hu').at hlt
    have hrow : L[i]? = some L[i] := List.getElem?_eq_getElem hlt
    have hmem : L[i] ∈ L := List.getElem_mem hlt
    have hsz : (L[i]).length = sz := hlen _ hmem
    refine Vk (k := WO.r (.iaddrS rfl rfl hn hz) (WO.r (.load rfl (.app hb) (hM.trans hrow) (take_all hsz) (ldv_elv hg hsz)) (WO.w (WS.call rfl rfl (hf u' x _ hx hmem hu') ?_))))
    rintro w s2 ⟨⟨b2, rfl⟩, u2, hu2, hp2⟩
    refine WO.nil (WP.cond rfl (fun ht => ?_) (fun ht => ?_))
    · refine Vk (k := WP.ret (Fin.mk (.tmp rfl .nil) ?_))
      exact ⟨⟨some i, rfl, fun j hj => by cases hj; exact hlt⟩, u2, hu2, hp2⟩
    · refine Vk (k := ?_)
      exact ⟨L.length - (i + 1), by omega, rfl, i + 1, u2, rfl, hlt, hu2, hp2, sbs⟩
  · refine WP.exit ?_
    refine Vk (k := WP.ret (Fin.mk (.tmp rfl .nil) ?_))
    exact ⟨⟨none, rfl, fun j hj => by cases hj⟩, u', hu', .refl _⟩
theorem conI {f : FuncId} {v fv : AV} {I : SH → Prop} {x u : SH} {n : Nat} (h : Tri P K f [v, fv] (x ++ u) (Keeps I x fun w => ∃ o : Option Nat, w = idxV o ∧ ∀ i, o = some i → i < n)) :
    WP P K none nt (conC f) (sl0 0 [v, fv]) [] (x ++ u) (Fin P [.tmp 4] (Keeps I x isB)) (fun _ _ _ _ => False) (Fin P [.tmp 4] (Keeps I x isB)) := by
  unfold conC
  refine Vk (k := WO.w (WS.callF rfl rfl h ?_))
  rintro w s2 ⟨⟨o, rfl, -⟩, hk⟩
  exact WO.r (.arith rfl rfl (geq_idx o)) (WO.r (.mv rfl) (WO.nil (WP.ret (Fin.mk (.tmp rfl .nil) ⟨⟨_, rfl⟩, hk⟩))))
def allC1 (g : Bool) (sz : Nat) : AC := match g with
  | false => .seq (.ops [⟨(some 3), (.mv (.const (.bool false))), none⟩]) (.seq (.ops [⟨(some 4), (.load false 1 (.tmp 1)), none⟩, ⟨(some 5), (.mv (.tmp 0)), none⟩, ⟨(some 6), (.call (.tmp 4) [(.tmp 5)]), none⟩, ⟨(some 7), (.un .not (.tmp 6)), none⟩, ⟨(some 3), (.mv (.tmp 7)), none⟩]) .ret)
  | true => .seq (.ops [⟨(some 2), (.box sz (.tmp 0)), none⟩, ⟨(some 3), (.mv (.const (.bool false))), none⟩]) (.seq (.ops [⟨(some 4), (.load false 1 (.tmp 1)), none⟩, ⟨(some 5), (.load g sz (.tmp 2)), none⟩, ⟨(some 6), (.call (.tmp 4) [(.tmp 5)]), none⟩, ⟨(some 7), (.un .not (.tmp 6)), none⟩, ⟨(some 3), (.mv (.tmp 7)), none⟩]) .ret)
def allC (f1 f2 : FuncId) : AC := .seq (.ops [⟨(some 3), (.box 1 (.tmp 1)), none⟩, ⟨(some 4), (.mv (.const (.bool false))), none⟩]) (.seq (.ops [⟨(some 5), (.mv (.tmp 0)), none⟩, ⟨(some 6), (.mkfn f1 [] [(.tmp 3)]), none⟩, ⟨(some 7), (.call (.func f2) [(.tmp 5), (.tmp 6)]), none⟩, ⟨(some 8), (.un .not (.tmp 7)), none⟩, ⟨(some 4), (.mv (.tmp 8)), none⟩]) .ret)
structure AllK (P : Program) (K : Orc) (g : Bool) (sz : Nat) (fa f1 f2 fi : FuncId) : Prop where
  a : FnK P K fa 9 [.tmp 4] (allC f1 f2)
  b : FnK P K f1 8 [.tmp 3] (allC1 g sz)
  c : FnK P K f2 9 [.tmp 4] (conC fi)
  d : FnK P K fi 19 [.tmp 4] (idxC g sz)
  hz : sz ≠ 0
  hg : g = true ∨ sz = 1
theorem AllK.ok {g : Bool} {sz : Nat} {fa f1 f2 fi : FuncId} (h : AllK P K g sz fa f1 f2 fi) {v fv : AV} {L : List (List AV)} {I X : SH → Prop} {x u : SH} (hS : ∀ u, I u → Src u sz v L) (h1 : L.length ≤ 1099511627776) (hlen : ∀ row ∈ L, row.length = sz) (hone : g = false → ∀ row ∈ L, ∀ a ∈ row, a.one = true) (hv : partCells 1 fv = some [fv])
    (hj : ∀ p u, I u → I (p :: u)) (hX : ∀ p x, X x → X (p :: x)) (hf : AskF P K g fv I X (fun row => row ∈ L)) (hx : X x) (hu : I u) : Tri P K fa [v, fv] (x ++ u) (Keeps I x isB) := by
  refine h.a.tri ?_
  unfold allC
  refine Vk (k := WO.a (.box rfl hv) fun b => Vk (k := WO.w (WS.callF rfl rfl (R' := Keeps I ((b, .r false [[fv]] 1) :: x) isB) ?_ ?_)))
  · refine h.c.tri (conI (x := (b, .r false [[fv]] 1) :: x) (n := L.length) (h.d.tri (idxI (x := (b, .r false [[fv]] 1) :: x) (X := fun y => Has b (.r false [[fv]] 1) y ∧ X y) hS h.hz h.hg h1 hlen ?_ ⟨.here, hX _ _ hx⟩ hu)))
    rintro u x row ⟨hb, hx⟩ hr hu
    refine TriV.func (h.b.tri ?_)
    have hsz := hlen _ hr
    cases g with
    | true =>
      show WP P K none 8 (allC1 true sz) _ _ _ _ _ _
      unfold allC1
      refine WP.seq (WP.ops (WO.a (.box rfl (part_elv (.inl rfl) hsz fun e => hone e _ hr)) fun b2 => ?_))
      refine Vk (k := WO.r (.load rfl (.there (.left hb)) rfl rfl rfl) (WO.r (.load rfl .here rfl (take_all hsz) (ldv_elv (.inl rfl) hsz)) (WO.w (WS.call rfl rfl (hf u ((b2, _) :: x) row (hX _ _ hx) hr hu) ?_))))
      rintro w s2 ⟨⟨b3, rfl⟩, u2, hu2, hp2⟩
      refine Vk (k := WP.ret (Fin.mk (.tmp rfl .nil) ?_))
      exact ⟨⟨_, rfl⟩, (b2, _) :: u2, hj _ _ hu2, hp2.trans List.perm_middle.symm⟩
    | false =>
      unfold allC1
      refine Vk (k := WO.r (.load rfl (.left hb) rfl rfl rfl) (WO.r (.mv rfl) (WO.w (WS.call rfl rfl (hf u x row hx hr hu) ?_))))
      rintro w s2 ⟨⟨b3, rfl⟩, hk⟩
      refine Vk (k := WP.ret (Fin.mk (.tmp rfl .nil) ?_))
      exact ⟨⟨_, rfl⟩, hk⟩
  · rintro w s2 ⟨⟨b2, rfl⟩, u2, hu2, hp2⟩
    refine Vk (k := WP.ret (Fin.mk (.tmp rfl .nil) ?_))
    exact ⟨⟨_, rfl⟩, (b, _) :: u2, hj _ _ hu2, hp2.trans List.perm_middle.symm⟩
end
end Go.Ev
namespace Go.Ev
section
variable {s s' : SH}
inductive CT where
  | i | b | t
  | s (l : List CT)
@[reducible] def big : Nat := 1099511627776
inductive OkV (s : SH) : CT → AV → Prop
  | i (n : Int) : OkV s .i (iv n)
  | b (c : Bool) : OkV s .b (.bool c)
  | t (x : ByteArray) : OkV s .t (.str x)
  | s {l : List CT} {v : AV} {L : List (List AV)} (h : Src s l.length v L) (hb : L.length ≤ big) (hl : ∀ row ∈ L, row.length = l.length)
      (hr : ∀ row ∈ L, ∀ (j : Nat) (t : CT) (a : AV), l[j]? = some t → row[j]? = some a → OkV s t a) : OkV s (.s l) v
def OkR (s : SH) (l : List CT) (row : List AV) : Prop := row.length = l.length ∧ ∀ (j : Nat) (t : CT) (a : AV), l[j]? = some t → row[j]? = some a → OkV s t a
theorem OkV.mono {t : CT} {v : AV} (h : OkV s t v) (hs : ∀ p, p ∈ s → p ∈ s') : OkV s' t v := by
  induction h with
  | i n => exact .i n
  | b c => exact .b c
  | t x => exact .t x
  | s h hb hl hr ih => exact .s (h.mono hs) hb hl ih
theorem OkR.mono {l : List CT} {r : List AV} (h : OkR s l r) (hs : ∀ p, p ∈ s → p ∈ s') : OkR s' l r := ⟨h.1, fun j t a h1 h2 => (h.2 j t a h1 h2).mono hs⟩
theorem OkR.nil : OkR s [] [] := ⟨rfl, fun j t a h => by simp at h⟩
theorem OkR.cons {t : CT} {l : List CT} {a : AV} {r : List AV} (h : OkV s t a) (hr : OkR s l r) : OkR s (t :: l) (a :: r) := by
  refine ⟨by simp [hr.1], fun j t' a' h1 h2 => ?_⟩
  cases j with
  | zero => cases h1; cases h2; exact h
  | succ j => exact hr.2 j t' a' h1 h2
theorem OkR.nil_inv {r : List AV} (h : OkR s [] r) : r = [] := List.length_eq_zero_iff.1 h.1
theorem OkR.inv {t : CT} {l : List CT} {r : List AV} (h : OkR s (t :: l) r) : ∃ a r', r = a :: r' ∧ OkV s t a ∧ OkR s l r' := by
  cases r with
  | nil => exact absurd h.1 (by simp)
  | cons a r =>
    refine ⟨a, r, rfl, h.2 0 t a rfl rfl, by simpa using h.1, fun j t' a' h1 h2 => h.2 (j + 1) t' a' h1 h2⟩
theorem OkR.invi {l : List CT} {r : List AV} (h : OkR s (.i :: l) r) : ∃ n r', r = iv n :: r' ∧ OkR s l r' := by
  obtain ⟨a, r', rfl, ha, hr⟩ := h.inv
  cases ha
  exact ⟨_, _, rfl, hr⟩
theorem OkR.invb {l : List CT} {r : List AV} (h : OkR s (.b :: l) r) : ∃ n r', r = .bool n :: r' ∧ OkR s l r' := by
  obtain ⟨a, r', rfl, ha, hr⟩ := h.inv
  cases ha
  exact ⟨_, _, rfl, hr⟩
def SlT (s : SH) (l : List CT) (v : AV) (L : List (List AV)) : Prop := Src s l.length v L ∧ L.length ≤ big ∧ ∀ row ∈ L, OkR s l row
theorem OkV.sl {l : List CT} {v : AV} (h : OkV s (.s l) v) : ∃ L, SlT s l v L := by
  cases h with
  | s h hb hl hr => exact ⟨_, h, hb, fun row hm => ⟨hl row hm, hr row hm⟩⟩
theorem SlT.ok {l : List CT} {v : AV} {L : List (List AV)} (h : SlT s l v L) : OkV s (.s l) v := .s h.1 h.2.1 (fun row hm => (h.2.2 row hm).1) (fun row hm => (h.2.2 row hm).2)
theorem SlT.mono {l : List CT} {v : AV} {L : List (List AV)} (h : SlT s l v L) (hs : ∀ p, p ∈ s → p ∈ s') : SlT s' l v L := ⟨h.1.mono hs, h.2.1, fun row hm => (h.2.2 row hm).mono hs⟩
theorem SlT.len {l : List CT} {v : AV} {L : List (List AV)} (h : SlT s l v L) : lenOf v = some L.length := h.1.lenOf
theorem OkV.one {t : CT} {v : AV} (h : OkV s t v) : v.one = true := by
  cases h with
  | i n => rfl
  | b c => rfl
  | t x => rfl
  | s h hb hl hr =>
    cases v <;> first | rfl | (exfalso; have := h.lenOf; simp [lenOf] at this)
theorem OkR.one {l : List CT} {r : List AV} (h : OkR s l r) : ∀ a ∈ r, a.one = true := by
  intro a ha
  obtain ⟨j, hj, rfl⟩ := List.getElem_of_mem ha
  have : j < l.length := h.1 ▸ hj
  exact (h.2 j l[j] _ (List.getElem?_eq_getElem this) (List.getElem?_eq_getElem hj)).one
@[reducible] def tI : CT := .s [.i]
@[reducible] def tII : CT := .s [tI]
@[reducible] def rPl : List CT := [.i, .i, .i, .i, .i, .b, .b, .b]
@[reducible] def rEf : List CT := [.i, .i, .i, .i]
@[reducible] def rOb : List CT := [.i, .i, .i, .i, .i, .b, .b, .b, .i, .i, .i, .i, .b, .s rEf]
@[reducible] def rTg : List CT := [.i, .i]
@[reducible] def rIt : List CT := [.i, .i, .i, .i, .i, .i, .s rTg]
@[reducible] def rSt : List CT := [.s rPl, .s rOb, tII, tII, tII, tII, tI, .s rIt, .s rIt, .i, .i, .i, .i, .i, .i, .i, .i, .i, .i, .i, .i, .s rTg, .b, .i, .i]
@[reducible] def rCf : List CT := [.i, .i, .i, .i, .i]
@[reducible] def rAb : List CT := [.i, .i, .i, .i, .i, .i, .i, .b, tI, .s [.i, .i, .i], .i, .i, .i]
@[reducible] def rCd : List CT := [.t, .i, .i, .i, .i, .i, .i, .i, .i, .i, .s rAb]
@[reducible] def rCo : List CT := [.s rPl, .s rOb, tII, tII, tII, tII, tI, .s rIt, .s rIt, .i, .i, .i, .i, .i, .i, .i, .i, .i, .i, .i, .i, .s rTg, .b, .i, .i, .s rCd, .i, .i, .i, .i, .i]
theorem okNil {l : List CT} : OkV s (.s l) nilS := .s .nil (Nat.zero_le _) (fun row h => by cases h) (fun row h => by cases h)
theorem okr {l : List CT} {r : List AV} (h : OkR s l r := by repeat (first | exact OkR.nil | apply OkR.cons | exact OkV.i _ | exact OkV.b _ | exact OkV.t _ | exact okNil | assumption)) : OkR s l r := h
theorem SlT.at {l : List CT} {v : AV} {L : List (List AV)} (h : SlT s l v L) {i : Nat} (hi : i < L.length) : ∃ b r n c sl ro M row, v = .slice (some ⟨b, r, 0⟩) n c sl l.length ∧ Has b (.r ro M l.length) s ∧ i < n ∧ M[r + i]? = some row ∧ OkR s l row ∧ row ∈ L := by
  obtain ⟨b, r, n, c, sl, ro, M, e, hb, hn, hM⟩ := h.1.at hi
  exact ⟨b, r, n, c, sl, ro, M, L[i], e, hb, hn, hM.trans (List.getElem?_eq_getElem hi), h.2.2 _ (List.getElem_mem hi), List.getElem_mem hi⟩
theorem OkR.ob {r : List AV} (h : OkR s rOb r) : ∃ (a : Nat → Int) (b : Nat → Bool) (ev : AV), r = [iv (a 0), iv (a 1), iv (a 2), iv (a 3), iv (a 4), .bool (b 0), .bool (b 1), .bool (b 2), iv (a 5), iv (a 6), iv (a 7), iv (a 8), .bool (b 3), ev] ∧ OkV s (.s rEf) ev := by
  obtain ⟨a0, _, rfl, h1⟩ := h.invi
  obtain ⟨a1, _, rfl, h2⟩ := h1.invi
  obtain ⟨a2, _, rfl, h3⟩ := h2.invi
  obtain ⟨a3, _, rfl, h4⟩ := h3.invi
  obtain ⟨a4, _, rfl, h5⟩ := h4.invi
  obtain ⟨b0, _, rfl, h6⟩ := h5.invb
  obtain ⟨b1, _, rfl, h7⟩ := h6.invb
  obtain ⟨b2, _, rfl, h8⟩ := h7.invb
  obtain ⟨a5, _, rfl, h9⟩ := h8.invi
  obtain ⟨a6, _, rfl, h10⟩ := h9.invi
  obtain ⟨a7, _, rfl, h11⟩ := h10.invi
  obtain ⟨a8, _, rfl, h12⟩ := h11.invi
  obtain ⟨b3, _, rfl, h13⟩ := h12.invb
  obtain ⟨e, _, rfl, he, h14⟩ := h13.inv
  cases h14.nil_inv
  exact ⟨fun i => [a0, a1, a2, a3, a4, a5, a6, a7, a8].getD i 0, fun i => [b0, b1, b2, b3].getD i false, e, rfl, he⟩
theorem OkR.pl {r : List AV} (h : OkR s rPl r) : ∃ (a : Nat → Int) (b : Nat → Bool), r = [iv (a 0), iv (a 1), iv (a 2), iv (a 3), iv (a 4), .bool (b 0), .bool (b 1), .bool (b 2)] := by
  obtain ⟨a0, _, rfl, h1⟩ := h.invi
  obtain ⟨a1, _, rfl, h2⟩ := h1.invi
  obtain ⟨a2, _, rfl, h3⟩ := h2.invi
  obtain ⟨a3, _, rfl, h4⟩ := h3.invi
  obtain ⟨a4, _, rfl, h5⟩ := h4.invi
  obtain ⟨b0, _, rfl, h6⟩ := h5.invb
  obtain ⟨b1, _, rfl, h7⟩ := h6.invb
  obtain ⟨b2, _, rfl, h8⟩ := h7.invb
  cases h8.nil_inv
  exact ⟨fun i => [a0, a1, a2, a3, a4].getD i 0, fun i => [b0, b1, b2].getD i false, rfl⟩
theorem OkR.it {r : List AV} (h : OkR s rIt r) : ∃ (a : Nat → Int) (tv : AV), r = [iv (a 0), iv (a 1), iv (a 2), iv (a 3), iv (a 4), iv (a 5), tv] ∧ OkV s (.s rTg) tv := by
  obtain ⟨a0, _, rfl, h1⟩ := h.invi
  obtain ⟨a1, _, rfl, h2⟩ := h1.invi
  obtain ⟨a2, _, rfl, h3⟩ := h2.invi
  obtain ⟨a3, _, rfl, h4⟩ := h3.invi
  obtain ⟨a4, _, rfl, h5⟩ := h4.invi
  obtain ⟨a5, _, rfl, h6⟩ := h5.invi
  obtain ⟨e, _, rfl, he, h7⟩ := h6.inv
  cases h7.nil_inv
  exact ⟨fun i => [a0, a1, a2, a3, a4, a5].getD i 0, e, rfl, he⟩
theorem OkR.ef {r : List AV} (h : OkR s rEf r) : ∃ (a b c d : Int), r = [iv a, iv b, iv c, iv d] := by
  obtain ⟨a0, _, rfl, h1⟩ := h.invi
  obtain ⟨a1, _, rfl, h2⟩ := h1.invi
  obtain ⟨a2, _, rfl, h3⟩ := h2.invi
  obtain ⟨a3, _, rfl, h4⟩ := h3.invi
  cases h4.nil_inv
  exact ⟨a0, a1, a2, a3, rfl⟩
theorem OkR.n1 {r : List AV} (h : OkR s [.i] r) : ∃ a : Int, r = [iv a] := by
  obtain ⟨a0, _, rfl, h1⟩ := h.invi
  cases h1.nil_inv
  exact ⟨a0, rfl⟩
theorem WR.ia {P : Program} {l : Sl} {sz : Nat} {x i : Operand} {b r n c : Nat} {sl : Bool} {q : IntKind} {j : Nat} {v0 : AV} (e : v0 = .slice (some ⟨b, r, 0⟩) n c sl sz) (hj : j < n) (hx : opl l x = some v0 := by exact rfl) (hi : opl l i = some (.int q (.ofNat j)) := by exact rfl) (hs : sz ≠ 0 := by decide) : WR P (.iaddrS sz x i) l s (.ptr (some ⟨b, Nat.add r j, 0⟩)) := .iaddrS (e ▸ hx) hi hj hs
end
end Go.Ev
namespace Go.Ev
section
variable {P : Program} {K : Orc} {rd : Option Nat} {nt : Nat} {l : Sl} {ds : List ADef} {s : SH} {Q Qn Qr : Po} {Qe : Nat → Po} {F : Nat → FuncId} {T : Nat → TypeId}
theorem all590 (hJ : BaseJu P K F T) (hS : BaseSl P K F T) : AllK P K true 14 (F 590) (F 625) (F 48) (F 106) := ⟨hJ.f590, hJ.f625, hS.f48, hS.f106, by decide, .inl rfl⟩
theorem all574 (hJ : BaseJu P K F T) (hS : BaseSl P K F T) : AllK P K false 1 (F 574) (F 612) (F 103) (F 155) := ⟨hJ.f574, hJ.f612, hS.f103, hS.f155, by decide, .inr rfl⟩
theorem all570 (hJ : BaseJu P K F T) (hS : BaseSl P K F T) : AllK P K true 8 (F 570) (F 611) (F 610) (F 630) := ⟨hJ.f570, hJ.f611, hS.f610, hS.f630, by decide, .inl rfl⟩
theorem all588 (hJ : BaseJu P K F T) (hS : BaseSl P K F T) : AllK P K false 1 (F 588) (F 624) (F 623) (F 635) := ⟨hJ.f588, hJ.f624, hS.f623, hS.f635, by decide, .inr rfl⟩
theorem all600 (hJ : BaseJu P K F T) (hS : BaseSl P K F T) : AllK P K true 4 (F 600) (F 627) (F 626) (F 636) := ⟨hJ.f600, hJ.f627, hS.f626, hS.f636, by decide, .inl rfl⟩
theorem all604 (hJ : BaseJu P K F T) (hS : BaseSl P K F T) : AllK P K true 7 (F 604) (F 628) (F 229) (F 113) := ⟨hJ.f604, hJ.f628, hS.f229, hS.f113, by decide, .inl rfl⟩
def IntM (D : AV → Prop) (es : List (AV × AV)) : Prop := ∀ p ∈ es, ∃ (a : Int) (v : AV), p = (iv a, v) ∧ D v
theorem prim_i (a b : Int) : primEq .pi (iv a) (iv b) = some (ieq a b) := rfl
theorem lookM {D : AV → Prop} {es : List (AV × AV)} (h : IntM D es) (k : Int) : ∃ o, lookIn .pi (iv k) es = some o ∧ ∀ v, o = some v → D v := by
  unfold lookIn
  suffices ∀ (es : List (AV × AV)) (acc : Option AV), IntM D es → (∀ v, acc = some v → D v) → ∃ o, lfold (fun (r : Option AV) (e : AV × AV) => match primEq .pi (iv k) e.1 with | some true => some (some e.2) | some false => some r | none => none) es acc = some o ∧ ∀ v, o = some v → D v from this es none h (fun v hv => by cases hv)
  intro es
  induction es with
  | nil => exact fun acc _ ha => ⟨acc, rfl, ha⟩
  | cons e es ih =>
    intro acc he ha
    obtain ⟨a, v, rfl, hv⟩ := he e (List.mem_cons_self ..)
    have hes : IntM D es := fun p hp => he p (List.mem_cons_of_mem _ hp)
    cases hq : ieq k a with
    | true =>
      obtain ⟨o, h1, h2⟩ := ih (some v) hes (fun w hw => by cases hw; exact hv)
      exact ⟨o, (lfold_cons _ _ _ _ _).2 ⟨some v, by simp only [prim_i, hq], h1⟩, h2⟩
    | false =>
      obtain ⟨o, h1, h2⟩ := ih acc hes ha
      exact ⟨o, (lfold_cons _ _ _ _ _).2 ⟨acc, by simp only [prim_i, hq], h1⟩, h2⟩
theorem putM {D : AV → Prop} {es : List (AV × AV)} {v : AV} (h : IntM D es) (k : Int) (hv : D v) : ∃ es', putIn .pi (iv k) v es = some es' ∧ IntM D es' := by
  obtain ⟨o, h1, h2⟩ := lookM h k
  have hk : primEq .pi (iv k) (iv k) = some true := by rw [prim_i, ieq_dec]; simp
  unfold putIn
  simp only [hk, h1]
  cases o with
  | none =>
    refine ⟨_, rfl, fun p hp => ?_⟩
    rw [lapp_eq, List.mem_append] at hp
    rcases hp with hp | hp
    · exact h p hp
    · cases List.mem_singleton.1 hp; exact ⟨k, v, rfl, hv⟩
  | some w =>
    clear h1 h2
    induction es with
    | nil => exact ⟨[], rfl, h⟩
    | cons e es ih =>
      obtain ⟨a, v0, rfl, hv0⟩ := h e (List.mem_cons_self ..)
      obtain ⟨es', h3, h4⟩ := ih fun p hp => h p (List.mem_cons_of_mem _ hp)
      have hm : ∀ v2, D v2 → IntM D ((iv a, v2) :: es') := fun v2 hv2 p hp => by
        cases hp with
        | head => exact ⟨a, v2, rfl, hv2⟩
        | tail _ hp => exact h4 p hp
      cases hq : ieq k a with
      | true => exact ⟨(iv a, v) :: es', (lmapO_cons _ _ _ _).2 ⟨_, _, by simp only [prim_i, hq], h3, rfl⟩, hm _ hv⟩
      | false => exact ⟨(iv a, v0) :: es', (lmapO_cons _ _ _ _).2 ⟨_, _, by simp only [prim_i, hq], h3, rfl⟩, hm _ hv0⟩
def Below (n : Nat) (v : AV) : Prop := ∃ i : Nat, v = iv (.ofNat i) ∧ i < n
@[reducible] def coRow (v : Nat → AV) (n : Nat → Int) (py : Bool) (bm : Nat) : List AV := [v 0, v 1, v 2, v 3, v 4, v 5, v 6, v 7, v 8, iv (n 0), iv (n 1), iv (n 2), iv (n 3), iv (n 4), iv (n 5), iv (n 6), iv (n 7), iv (n 8), iv (n 9), iv (n 10), iv (n 11), v 9, .bool py, iv (n 12), iv (n 13), v 10, iv (n 14), iv (n 15), iv (n 16), iv (n 17), iv (n 18), .map (some bm)]
structure Crt (s : SH) (bc bm : Nat) (v : Nat → AV) (n : Nat → Int) (py : Bool) : Prop where
  has : Has bc (.r false [coRow v n py bm] 32) s
  pl : ∃ L, SlT s rPl (v 0) L
  ob : ∃ L es, SlT s rOb (v 1) L ∧ Has bm (.m es) s ∧ IntM (Below L.length) es
  lb : ∃ L, SlT s [tI] (v 2) L
  hd : ∃ L, SlT s [tI] (v 3) L
  gr : ∃ L, SlT s [tI] (v 4) L
  ex : ∃ L, SlT s [tI] (v 5) L
  fi : ∃ L, SlT s [.i] (v 6) L
  st : ∃ L, SlT s rIt (v 7) L
  wa : ∃ L, SlT s rIt (v 8) L
  kt : ∃ L, SlT s rTg (v 9) L
  cd : ∃ L, SlT s rCd (v 10) L
theorem add_w (a b : Int) : binV .add (iv a) (iv b) = some (iv (IntKind.wrap .i64 (iadd a b))) := by show mkI .i64 (iadd a b) = _; exact mkI_eq _ _
theorem sub_w (a b : Int) : binV .sub (iv a) (iv b) = some (iv (IntKind.wrap .i64 (isub a b))) := by show mkI .i64 (isub a b) = _; exact mkI_eq _ _
theorem in587 (hJ : BaseJu P K F T) {a b c : Int} : Tri P K (F 587) [iv a, iv b, iv c] s (fun w s' => isB w ∧ s' = s) := by
  refine hJ.f587.tri ?_
  unfold a587
  refine Vr (k := ?_)
  generalize decide (a < b) = q
  cases q
  · refine Vr (k := ?_)
    exact ⟨⟨_, rfl⟩, rfl⟩
  · refine Vr (k := ?_)
    exact ⟨⟨_, rfl⟩, rfl⟩
theorem Crt.up {s' : SH} {bc bm : Nat} {v : Nat → AV} {n : Nat → Int} {py : Bool} (h : Crt s bc bm v n py) (hs : ∀ p, p ∈ s → p ∈ s') : Crt s' bc bm v n py := by
  obtain ⟨a, ⟨L0, h0⟩, ⟨L1, es, h1, hm, ha⟩, ⟨L2, h2⟩, ⟨L3, h3⟩, ⟨L4, h4⟩, ⟨L5, h5⟩, ⟨L6, h6⟩, ⟨L7, h7⟩, ⟨L8, h8⟩, ⟨L9, h9⟩, ⟨L10, h10⟩⟩ := h
  exact ⟨a.mono hs, ⟨_, h0.mono hs⟩, ⟨_, es, h1.mono hs, hm.mono hs, ha⟩, ⟨_, h2.mono hs⟩, ⟨_, h3.mono hs⟩, ⟨_, h4.mono hs⟩, ⟨_, h5.mono hs⟩, ⟨_, h6.mono hs⟩, ⟨_, h7.mono hs⟩, ⟨_, h8.mono hs⟩, ⟨_, h9.mono hs⟩, ⟨_, h10.mono hs⟩⟩
theorem there575 (hJ : BaseJu P K F T) {bc bm : Nat} {v : Nat → AV} {n : Nat → Int} {py : Bool} (hc : Crt s bc bm v n py) {p : Int} : Tri P K (F 575) [.ptr (some ⟨bc, 0, 0⟩), iv p] s (fun w s' => isB w ∧ s' = s) := by
  refine hJ.f575.tri ?_
  unfold a575
  have h0 := hc.has
  obtain ⟨L, hL⟩ := hc.pl
  have hl := hL.len
  refine Vr (k := ?_)
  refine WO.r (.arith rfl rfl (sub_w _ _)) (Vr (k := WO.w (WS.cl (in587 hJ) ?_)))
  rintro w _ ⟨⟨b, rfl⟩, rfl⟩
  refine Vr (k := ?_)
  exact ⟨⟨_, rfl⟩, rfl⟩
def isRow (l : List CT) (s' : SH) (w : AV) : Prop := ∃ row b, w = .tuple [.agg row, .bool b] ∧ OkR s' l row
theorem obj573 (hJ : BaseJu P K F T) (t45 : Ty P (T 45) 14) {bc bm : Nat} {v : Nat → AV} {n : Nat → Int} {py : Bool} (hc : Crt s bc bm v n py) {id : Int} : Tri P K (F 573) [.ptr (some ⟨bc, 0, 0⟩), iv id] s (fun w s' => isRow rOb s' w ∧ ∃ m, s' = m ++ s) := by
  refine hJ.f573.tri ?_
  unfold a573
  have h0 := hc.has
  obtain ⟨L, es, hL, hm, ha⟩ := hc.ob
  obtain ⟨o, ho, hd⟩ := lookM ha id
  have hl := hL.len
  refine Vr (k := fun b4 => Vr (k := ?_))
  cases o with
  | none =>
    refine WO.r (.look rfl rfl (.there hm) ho) (Vr (k := WP.ret (Fin.mk (.ce t45 (.tmp rfl .nil)) ?_)))
    exact ⟨⟨_, _, rfl, okr⟩, [_], rfl⟩
  | some w =>
    obtain ⟨i, rfl, hi⟩ := hd w rfl
    obtain ⟨b, r, n0, c, sl, ro, M, row, e, hb, hn, hM, hr, -⟩ := hL.at hi
    obtain ⟨a, bb, ev, rfl, he⟩ := hr.ob
    refine WO.r (.look rfl rfl (.there hm) ho) (Vr (k := WO.r (.ia e hn) (Vr (k := WP.ret (Fin.mk (.ce t45 (.tmp rfl .nil)) ?_)))))
    exact ⟨⟨_, _, rfl, hr.mono fun p hp => List.mem_cons_of_mem _ hp⟩, [_], rfl⟩
def Gro (s : SH) (D : AV → Prop) : AV → SH → Prop := fun w s' => D w ∧ ∃ m, s' = m ++ s
theorem zone599 (hJ : BaseJu P K F T) (t45 : Ty P (T 45) 14) {bc bm : Nat} {v : Nat → AV} {n : Nat → Int} {py : Bool} (hc : Crt s bc bm v n py) {id z : Int} : Tri P K (F 599) [.ptr (some ⟨bc, 0, 0⟩), iv id, iv z] s (Gro s isB) := by
  refine hJ.f599.tri ?_
  unfold a599
  have h0 := hc.has
  refine Vr (k := WO.w (WS.cl (obj573 hJ t45 hc) ?_))
  rintro _ _ ⟨⟨row, b, rfl, hr⟩, m, rfl⟩
  obtain ⟨a, bb, ev, rfl, -⟩ := hr.ob
  refine Vr (k := fun b7 => Vr (k := ?_))
  cases b
  · refine Vr (k := ?_)
    exact ⟨⟨_, rfl⟩, (b7, _) :: m, rfl⟩
  · refine Vr (k := ?_)
    exact ⟨⟨_, rfl⟩, (b7, _) :: m, rfl⟩
end
end Go.Ev
namespace Go.Ev
section
variable {P : Program} {K : Orc} {rd : Option Nat} {nt : Nat} {l : Sl} {ds : List ADef} {s : SH} {Q Qn Qr : Po} {Qe : Nat → Po} {F : Nat → FuncId} {T : Nat → TypeId}
variable {j : Nat} {bs : List Nat} {pd : List PD} {d : Option Nat} {op : AOp} {lo hi a : Nat} {hs : List SH} {os : List OB} {is : List Nat}
theorem En.same {jj : Nat} {v : AV} {e : Tr AV} (h : En l e) (hj : lk l jj = some v) : En (pl (some jj) v l) e := by
  intro i w hi
  by_cases hq : jj = i
  · subst hq
    have : some v = some w := by simpa [pl, lk] using hi
    cases this
    exact h _ _ hj
  · refine h i w ?_
    have hb : Nat.beq jj i = false := by
      cases hc : Nat.beq jj i with
      | false => rfl
      | true => exact absurd (Nat.eq_of_beq_eq_true hc) hq
    simpa [pl, lk, hb, hq] using hi
theorem WO.g2 {jj : Nat} {w b : Bool} {rest : List AOper} (hj : Go.Ev.lk l jj = some (.bool b)) (h1 : WO P K (⟨d, op, some (jj, w)⟩ :: rest) (pl (some jj) (.bool true) l) ds s Q) (h0 : WO P K (⟨d, op, some (jj, w)⟩ :: rest) (pl (some jj) (.bool false) l) ds s Q) : WO P K (⟨d, op, some (jj, w)⟩ :: rest) l ds s Q := by
  intro nt ops l0 hl H0 e H he hH
  cases b with
  | true => exact h1 nt ops l0 hl H0 e H (he.same hj) hH
  | false => exact h0 nt ops l0 hl H0 e H (he.same hj) hH
theorem WD.g2 {jj : Nat} {w b : Bool} {cls : Cls} {rest : List DC} (hj : Go.Ev.lk l jj = some (.bool b)) (h1 : WD P K rd (⟨⟨d, op, some (jj, w)⟩, cls, lo, hi, a⟩ :: rest) j bs pd hs os is (pl (some jj) (.bool true) l) ds s Q) (h0 : WD P K rd (⟨⟨d, op, some (jj, w)⟩, cls, lo, hi, a⟩ :: rest) j bs pd hs os is (pl (some jj) (.bool false) l) ds s Q) : WD P K rd (⟨⟨d, op, some (jj, w)⟩, cls, lo, hi, a⟩ :: rest) j bs pd hs os is l ds s Q := by
  intro ops anc l0 hd H0 S hS
  cases b with
  | true => exact h1 ops anc l0 hd H0 S { hS with en := hS.en.same hj }
  | false => exact h0 ops anc l0 hd H0 S { hS with en := hS.en.same hj }
theorem WD.skipcu {jj : Nat} {w : Bool} {rest : List DC} (hj : Go.Ev.lk l jj = some .undef) (h : WD P K rd rest (j + 1) bs pd (s :: hs) os is (pl d .undef l) ds s Q) : WD P K rd (⟨⟨d, op, some (jj, w)⟩, .chain, lo, hi, a⟩ :: rest) j bs pd hs os is l ds s Q := by
  intro ops anc l0 hd H0 S hS
  obtain ⟨d0, r0, rfl, h1, h2, h3, h4, h5, h6, h7, h8⟩ := dcs_cons hd
  obtain ⟨k, o, g1, g2, g3⟩ := cg_some h3
  have hw : wanted S.e ops d0.o.guard = some false := by
    rw [g1, wanted_und g2 g3 (hS.en _ _ hj)]
  obtain ⟨n, S', k1, k2⟩ := h ops anc r0 h8 H0 { S with e := Ev.putO S.e d .undef, Hs := S.H :: S.Hs, j := Nat.succ S.j } ⟨hS.en.putO d _, hS.ds, hS.hp, by show S.j + 1 = _; rw [hS.j], hS.bs, hS.pd, ⟨hS.hp, hS.hs⟩, hS.os, hS.pi, hS.mi⟩
  refine ⟨n, S', (lfold_cons _ _ _ _ _).2 ⟨_, ?_, k1⟩, k2⟩
  unfold dstep
  simp only [hw, h4, h1]
theorem Gro.b0 {b : Bool} : Gro s isB (.bool b) s := ⟨⟨_, rfl⟩, [], rfl⟩
theorem Gro.b1 {b : Bool} {p : Nat × HO} : Gro s isB (.bool b) (p :: s) := ⟨⟨_, rfl⟩, [p], rfl⟩
theorem bare596 (hJ : BaseJu P K F T) {r : List AV} (hr : OkR s rOb r) : Tri P K (F 596) [.agg r] s (Gro s isB) := by
  refine hJ.f596.tri ?_
  unfold a596
  obtain ⟨a, b, ev, rfl, he⟩ := hr.ob
  obtain ⟨L, hL⟩ := he.sl
  have hl := hL.len
  refine Vr (k := fun b1 => ?_)
  repeat' (refine Vr (k := ?_); first | exact Gro.b1 | refine WO.g2 rfl ?_ ?_)
end
end Go.Ev
set_option maxHeartbeats 8000000
namespace Go.Ev
section
variable {P : Program} {K : Orc} {rd : Option Nat} {nt : Nat} {l : Sl} {ds : List ADef} {s : SH} {Q Qn Qr : Po} {Qe : Nat → Po} {F : Nat → FuncId} {T : Nat → TypeId}
theorem sub1 {p : Nat × HO} {s : SH} : ∀ q, q ∈ s → q ∈ p :: s := fun q h => List.mem_cons_of_mem _ h
theorem owned592 (hJ : BaseJu P K F T) {bc bm bx : Nat} {v : Nat → AV} {n : Nat → Int} {py ro : Bool} (hc : Crt s bc bm v n py) (hx : Has bx (.r ro [[.ptr (some ⟨bc, 0, 0⟩)]] 1) s) {r : List AV} (hr : OkR s rOb r) : Tri P K (F 592) [.agg r, .ptr (some ⟨bx, 0, 0⟩)] s (Gro s isB) := by
  refine hJ.f592.tri ?_
  unfold a592
  obtain ⟨a, b, ev, rfl, he⟩ := hr.ob
  have h0 := hc.has
  obtain ⟨L, hL⟩ := hc.cd
  have hl := hL.len
  obtain ⟨m0, hm0⟩ : ∃ m, binV .sub (AV.int .i64 (.ofNat L.length)) (AV.int .i64 (.ofNat 1)) = some (iv m) := ⟨_, sub_w _ _⟩
  refine Vr (k := fun b1 => ?_)
  repeat' (refine Vr (k := ?_); first | exact Gro.b1 | refine WD.skipc rfl rfl ?_ | refine WO.g2 rfl ?_ ?_ | refine WD.g2 rfl ?_ ?_ | (refine WD.ch .nil (WS.cl (there575 hJ (hc.up sub1)) ?_); rintro _ _ ⟨⟨q, rfl⟩, rfl⟩) | (refine WD.ch .nil (WS.cl (in587 hJ) ?_); rintro _ _ ⟨⟨q, rfl⟩, rfl⟩))
def I1 (bl : Nat) (t u : SH) : Prop := ∃ m k, u.Perm (m ++ ((bl, .r false [[iv k]] 1) :: t))
theorem I1.cons {bl : Nat} {t : SH} (p : Nat × HO) (u : SH) (h : I1 bl t u) : I1 bl t (p :: u) := by
  obtain ⟨m, k, hp⟩ := h
  exact ⟨p :: m, k, hp.cons p⟩
theorem I1.end1 {bl : Nat} {t x m : SH} {k : Int} {p : Nat × HO} {b : Bool} : Keeps (I1 bl t) x isB (.bool b) (p :: (bl, .r false [[iv k]] 1) :: (x ++ (m ++ t))) :=
  ⟨⟨_, rfl⟩, (p :: m) ++ ((bl, .r false [[iv k]] 1) :: t), ⟨_, _, .refl _⟩, pm2⟩
theorem rise591 (hJ : BaseJu P K F T) {bc bm bx bl : Nat} {v : Nat → AV} {n : Nat → Int} {py ro : Bool} {t : SH} (hc : Crt t bc bm v n py) (hx : Has bx (.r ro [[.ptr (some ⟨bc, 0, 0⟩)]] 1) t) {L : List (List AV)} (hL : ∀ r ∈ L, OkR t rOb r) :
    AskF P K true (.func (F 591) [] [.ptr (some ⟨bl, 0, 0⟩), .ptr (some ⟨bx, 0, 0⟩)]) (I1 bl t) (fun _ => True) (fun r => r ∈ L) := by
  rintro u x r - hr ⟨m, k, hp⟩
  refine TriV.func (hJ.f591.tri (WP.pre (s' := (bl, .r false [[iv k]] 1) :: (x ++ (m ++ t))) ((hp.append_left x).trans pm2) ?_))
  unfold a591
  obtain ⟨a, b, ev, rfl, he⟩ := (hL r hr).ob
  have h0 := hc.has
  refine Vr (k := fun b1 => ?_)
  repeat' (refine Vr (k := ?_); first | exact I1.end1 | refine WD.skipc rfl rfl ?_ | refine WO.g2 rfl ?_ ?_ | refine WD.g2 rfl ?_ ?_)
theorem I1.sub {bl : Nat} {t u : SH} (h : I1 bl t u) : ∀ p, p ∈ t → p ∈ u := by
  obtain ⟨m, k, hp⟩ := h
  exact fun p hq => hp.symm.subset (List.mem_append_right _ (List.mem_cons_of_mem _ hq))
theorem all_ok {g : Bool} {sz : Nat} {fa f1 f2 fi : FuncId} (hA : AllK P K g sz fa f1 f2 fi) {ty : List CT} (hsz : ty.length = sz) {fv w : AV} {t u : SH} {L : List (List AV)} {I : SH → Prop} (hI : ∀ p u, I u → I (p :: u)) (hs : ∀ u, I u → ∀ p, p ∈ t → p ∈ u) (hL : SlT t ty w L) (hu : I u) (hf : AskF P K g fv I (fun _ => True) (fun r => r ∈ L)) (hv : partCells 1 fv = some [fv] := by rfl) : Tri P K fa [w, fv] u (Keeps I [] isB) := by
  subst hsz
  exact hA.ok (x := []) (X := fun _ => True) (fun u hu => hL.1.mono (hs u hu)) hL.2.1 (fun r hr => (hL.2.2 r hr).1) (fun _ r hr => (hL.2.2 r hr).one) hv hI (fun _ _ _ => trivial) hf trivial hu
theorem Gro.perm {b : Bool} {s2 m : SH} (h : s2.Perm (m ++ s)) : ∃ s'', s2.Perm s'' ∧ Gro s isB (.bool b) s'' := ⟨_, h, ⟨_, rfl⟩, m, rfl⟩
theorem rise561 (hJ : BaseJu P K F T) (hS : BaseSl P K F T) {bc bm : Nat} {v : Nat → AV} {n : Nat → Int} {py : Bool} (hc : Crt s bc bm v n py) : Tri P K (F 561) [.ptr (some ⟨bc, 0, 0⟩)] s (Gro s isB) := by
  refine Tri.canon (hJ.f561.tri ?_)
  unfold a561
  have h0 := hc.has
  obtain ⟨L, es, hL, -, -⟩ := hc.ob
  refine Vr (k := fun bx => Vr (k := fun bl => Vr (k := WO.w (WS.cl (all_ok (all590 hJ hS) rfl I1.cons (fun u h => h.sub) (hL.mono sub1) ⟨[], 0, .refl _⟩ (rise591 hJ (hc.up sub1) .here fun r hr => (hL.2.2 r hr).mono sub1)) ?_))))
  rintro _ s2 ⟨⟨q, rfl⟩, u2, ⟨m, k, hp⟩, hp2⟩
  refine Vr (k := Gro.perm (m := m ++ [(bl, .r false [[iv k]] 1), (bx, .r false [[.ptr (some ⟨bc, 0, 0⟩)]] 1)]) ((hp2.trans hp).trans pm2))
end
end Go.Ev
