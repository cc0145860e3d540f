/-
  No cell of these rows narrows 'for every input' (looked for: loops, veiled, ifaces, maps, wideKeys, modest, calm, conditions, laid).
  DERIVED. THE GIVEN ROWS OF THIS SEAT. 6 by the template 'for every input the law returns true; each argument reads behind the call as it read before'; 0 by the template 'total and deterministic' (their statements: YtchbdmldjkkmiaaGreatTotals.lean).
  GIVEN WITH THE SEED: the statements are not yours to turn. If you find one false, say at which input.
  Laid BY PROGRAM, IN A SANDBOX (cutbox-rows.mjs): the forced cells as the released guide's own fill.sh prints them over the translation 9b0d6938d7f43f81… (all of the seat's roots in one cut). By AI agents, Wed Nov 11 2026. No macro, syntax, notation, axiom, sorry.
-/
import Derived.Test.YtchbdmldjkkmiaaGreatChecked
import GoSem.Claim
import GoSem.ClaimJoined
import GoSem.ClaimMapViews
import Derived.JoinedTies
import Derived.KernelRfl
namespace Go.Proofs.YtchbdmldjkkmiaaGreat
/- THE CELL 'sum', in the pinned program and in every row, IS THE sha256 OF THE DUMP (.gsa) THAT YtchbdmldjkkmiaaGreatProg.lean LOADS. Nothing in Lean hashes anything: it is a label: what it is worth is what the hold of that sum in a sandbox is worth. -/
noncomputable def Tryz.pinned : Pinned := { name := "ytchbdmldjkkmiaagreat", sum := "9b0d6938d7f43f8135960806c5fea0c6513346f92cd65d8fefd66e844cf0d6f9", checked := Tryz.checked }
namespace Rows
def none {H : Type} : Left H := { results := [], args := [] }

/-- 'trefoillaw18.TargetKnown': WHATEVER THE INPUT: true; the input reads as it did. -/
def targetKnownSpec : ChangeSpec := { name := "targetKnown", fn := fun _ => fun
  | [] => { results := [.lit (.bool true)], args := [] }
  | _ => none }
def targetKnownRow : OpenClaim := { program := "ytchbdmldjkkmiaagreat", sum := "9b0d6938d7f43f8135960806c5fea0c6513346f92cd65d8fefd66e844cf0d6f9", func := "trefoil/trefoillaw18.TargetKnown", spec := "targetKnown", inPlace := ["slices.overlaps[int]"], unfollowed := true, recurses := true, apart := false }
def TargetKnownSaid : Prop := targetKnownRow.holds Tryz.pinned (OpenSpec.ofChange targetKnownSpec)

/-- ITS FALSE NEIGHBOUR: 'it returns false'. Refute it at one input. -/
def targetKnownWrong : ChangeSpec := { name := "targetKnown", fn := fun _ => fun
  | [] => { results := [.lit (.bool false)], args := [] }
  | _ => none }
def TargetKnownWrongFalsely : Prop := targetKnownRow.holds Tryz.pinned (OpenSpec.ofChange targetKnownWrong)

/-- 'trefoillaw15.BoardKnown': WHATEVER THE INPUT: true; the input reads as it did. -/
def boardKnownSpec : ChangeSpec := { name := "boardKnown", fn := fun _ => fun
  | [] => { results := [.lit (.bool true)], args := [] }
  | _ => none }
def boardKnownRow : OpenClaim := { program := "ytchbdmldjkkmiaagreat", sum := "9b0d6938d7f43f8135960806c5fea0c6513346f92cd65d8fefd66e844cf0d6f9", func := "trefoil/trefoillaw15.BoardKnown", spec := "boardKnown", inPlace := ["slices.overlaps[int]"], unfollowed := true, recurses := true, apart := false }
def BoardKnownSaid : Prop := boardKnownRow.holds Tryz.pinned (OpenSpec.ofChange boardKnownSpec)

/-- ITS FALSE NEIGHBOUR: 'it returns false'. Refute it at one input. -/
def boardKnownWrong : ChangeSpec := { name := "boardKnown", fn := fun _ => fun
  | [] => { results := [.lit (.bool false)], args := [] }
  | _ => none }
def BoardKnownWrongFalsely : Prop := boardKnownRow.holds Tryz.pinned (OpenSpec.ofChange boardKnownWrong)

/-- 'trefoillaw21.CombatKnown': WHATEVER THE INPUT: true; the input reads as it did. -/
def combatKnownSpec : ChangeSpec := { name := "combatKnown", fn := fun _ => fun
  | [] => { results := [.lit (.bool true)], args := [] }
  | _ => none }
def combatKnownRow : OpenClaim := { program := "ytchbdmldjkkmiaagreat", sum := "9b0d6938d7f43f8135960806c5fea0c6513346f92cd65d8fefd66e844cf0d6f9", func := "trefoil/trefoillaw21.CombatKnown", spec := "combatKnown", inPlace := ["slices.overlaps[int]"], unfollowed := true, recurses := true, apart := false }
def CombatKnownSaid : Prop := combatKnownRow.holds Tryz.pinned (OpenSpec.ofChange combatKnownSpec)

/-- ITS FALSE NEIGHBOUR: 'it returns false'. Refute it at one input. -/
def combatKnownWrong : ChangeSpec := { name := "combatKnown", fn := fun _ => fun
  | [] => { results := [.lit (.bool false)], args := [] }
  | _ => none }
def CombatKnownWrongFalsely : Prop := combatKnownRow.holds Tryz.pinned (OpenSpec.ofChange combatKnownWrong)

/-- 'trefoillaw20.SbaKnown': WHATEVER THE INPUT: true; the input reads as it did. -/
def sbaKnownSpec : ChangeSpec := { name := "sbaKnown", fn := fun _ => fun
  | [] => { results := [.lit (.bool true)], args := [] }
  | _ => none }
def sbaKnownRow : OpenClaim := { program := "ytchbdmldjkkmiaagreat", sum := "9b0d6938d7f43f8135960806c5fea0c6513346f92cd65d8fefd66e844cf0d6f9", func := "trefoil/trefoillaw20.SbaKnown", spec := "sbaKnown", inPlace := ["slices.overlaps[int]"], unfollowed := true, recurses := true, apart := false }
def SbaKnownSaid : Prop := sbaKnownRow.holds Tryz.pinned (OpenSpec.ofChange sbaKnownSpec)

/-- ITS FALSE NEIGHBOUR: 'it returns false'. Refute it at one input. -/
def sbaKnownWrong : ChangeSpec := { name := "sbaKnown", fn := fun _ => fun
  | [] => { results := [.lit (.bool false)], args := [] }
  | _ => none }
def SbaKnownWrongFalsely : Prop := sbaKnownRow.holds Tryz.pinned (OpenSpec.ofChange sbaKnownWrong)

/-- 'trefoillaw23.ActKnown': WHATEVER THE INPUT: true; the input reads as it did. -/
def actKnownSpec : ChangeSpec := { name := "actKnown", fn := fun _ => fun
  | [] => { results := [.lit (.bool true)], args := [] }
  | _ => none }
def actKnownRow : OpenClaim := { program := "ytchbdmldjkkmiaagreat", sum := "9b0d6938d7f43f8135960806c5fea0c6513346f92cd65d8fefd66e844cf0d6f9", func := "trefoil/trefoillaw23.ActKnown", spec := "actKnown", inPlace := ["slices.overlaps[int]"], unfollowed := true, recurses := true, apart := false }
def ActKnownSaid : Prop := actKnownRow.holds Tryz.pinned (OpenSpec.ofChange actKnownSpec)

/-- ITS FALSE NEIGHBOUR: 'it returns false'. Refute it at one input. -/
def actKnownWrong : ChangeSpec := { name := "actKnown", fn := fun _ => fun
  | [] => { results := [.lit (.bool false)], args := [] }
  | _ => none }
def ActKnownWrongFalsely : Prop := actKnownRow.holds Tryz.pinned (OpenSpec.ofChange actKnownWrong)

/-- 'trefoillaw22.TurnKnown': WHATEVER THE INPUT: true; the input reads as it did. -/
def turnKnownSpec : ChangeSpec := { name := "turnKnown", fn := fun _ => fun
  | [] => { results := [.lit (.bool true)], args := [] }
  | _ => none }
def turnKnownRow : OpenClaim := { program := "ytchbdmldjkkmiaagreat", sum := "9b0d6938d7f43f8135960806c5fea0c6513346f92cd65d8fefd66e844cf0d6f9", func := "trefoil/trefoillaw22.TurnKnown", spec := "turnKnown", inPlace := ["slices.overlaps[int]"], unfollowed := true, recurses := true, apart := false }
def TurnKnownSaid : Prop := turnKnownRow.holds Tryz.pinned (OpenSpec.ofChange turnKnownSpec)

/-- ITS FALSE NEIGHBOUR: 'it returns false'. Refute it at one input. -/
def turnKnownWrong : ChangeSpec := { name := "turnKnown", fn := fun _ => fun
  | [] => { results := [.lit (.bool false)], args := [] }
  | _ => none }
def TurnKnownWrongFalsely : Prop := turnKnownRow.holds Tryz.pinned (OpenSpec.ofChange turnKnownWrong)

/- THE SECOND FORM. 'bulk': how many values and letters a reading holds, each counted each time it is reached (what is shared counts as often as it is met; a slice's spare places count too). A statement '..UptoSaid' is the law's where the arguments, and the package variables that the reading takes, are together of bulk at most 1048576: NARROWER than '..Said'. Prove '..Said' where nothing that the law and all that it calls make is longer than what came in: it says more and counts as full. Else prove '..UptoSaid'. A law counts once. -/
mutual
def uptoBulk {H : Type} : DataW H → Nat
  | .lit (.string bytes) => bytes.length + 1
  | .lit _ => 1
  | .nil => 1
  | .ptr d => uptoBulk d + 1
  | .slice elems spare => uptoBulkAll elems + uptoBulkAll spare + 1
  | .agg parts => uptoBulkAll parts + 1
  | .iface _ d => uptoBulk d + 1
  | .map entries => uptoBulkEntries entries + 1
  | .held _ => 1
def uptoBulkAll {H : Type} : List (DataW H) → Nat
  | [] => 0
  | d :: r => uptoBulk d + uptoBulkAll r
def uptoBulkEntries {H : Type} : List (Lit × DataW H) → Nat
  | [] => 0
  | x :: r => uptoBulkEntry x + uptoBulkEntries r
def uptoBulkEntry {H : Type} : Lit × DataW H → Nat
  | (.string bytes, d) => bytes.length + uptoBulk d + 1
  | (_, d) => uptoBulk d + 1
 end
def uptoSmall : (H : Type) → List (DataW H) → Bool := fun _ ds => decide (uptoBulkAll ds ≤ 1048576)
def OpenSpec.upto (s : _root_.Go.ChangeSpec) : _root_.Go.OpenSpec := { _root_.Go.OpenSpec.ofChange s with cond := some uptoSmall }

/-- 'trefoillaw18.TargetKnown', WHERE WHAT IT READS IS OF BULK AT MOST 1048576: true; the input reads as it did. -/
def targetKnownUptoRow : OpenClaim := { program := "ytchbdmldjkkmiaagreat", sum := "9b0d6938d7f43f8135960806c5fea0c6513346f92cd65d8fefd66e844cf0d6f9", func := "trefoil/trefoillaw18.TargetKnown", spec := "targetKnown", inPlace := ["slices.overlaps[int]"], unfollowed := true, recurses := true, apart := false, narrowed := true }
def TargetKnownUptoSaid : Prop := targetKnownUptoRow.holds Tryz.pinned (OpenSpec.upto targetKnownSpec)

/-- 'trefoillaw15.BoardKnown', WHERE WHAT IT READS IS OF BULK AT MOST 1048576: true; the input reads as it did. -/
def boardKnownUptoRow : OpenClaim := { program := "ytchbdmldjkkmiaagreat", sum := "9b0d6938d7f43f8135960806c5fea0c6513346f92cd65d8fefd66e844cf0d6f9", func := "trefoil/trefoillaw15.BoardKnown", spec := "boardKnown", inPlace := ["slices.overlaps[int]"], unfollowed := true, recurses := true, apart := false, narrowed := true }
def BoardKnownUptoSaid : Prop := boardKnownUptoRow.holds Tryz.pinned (OpenSpec.upto boardKnownSpec)

/-- 'trefoillaw21.CombatKnown', WHERE WHAT IT READS IS OF BULK AT MOST 1048576: true; the input reads as it did. -/
def combatKnownUptoRow : OpenClaim := { program := "ytchbdmldjkkmiaagreat", sum := "9b0d6938d7f43f8135960806c5fea0c6513346f92cd65d8fefd66e844cf0d6f9", func := "trefoil/trefoillaw21.CombatKnown", spec := "combatKnown", inPlace := ["slices.overlaps[int]"], unfollowed := true, recurses := true, apart := false, narrowed := true }
def CombatKnownUptoSaid : Prop := combatKnownUptoRow.holds Tryz.pinned (OpenSpec.upto combatKnownSpec)

/-- 'trefoillaw20.SbaKnown', WHERE WHAT IT READS IS OF BULK AT MOST 1048576: true; the input reads as it did. -/
def sbaKnownUptoRow : OpenClaim := { program := "ytchbdmldjkkmiaagreat", sum := "9b0d6938d7f43f8135960806c5fea0c6513346f92cd65d8fefd66e844cf0d6f9", func := "trefoil/trefoillaw20.SbaKnown", spec := "sbaKnown", inPlace := ["slices.overlaps[int]"], unfollowed := true, recurses := true, apart := false, narrowed := true }
def SbaKnownUptoSaid : Prop := sbaKnownUptoRow.holds Tryz.pinned (OpenSpec.upto sbaKnownSpec)

/-- 'trefoillaw23.ActKnown', WHERE WHAT IT READS IS OF BULK AT MOST 1048576: true; the input reads as it did. -/
def actKnownUptoRow : OpenClaim := { program := "ytchbdmldjkkmiaagreat", sum := "9b0d6938d7f43f8135960806c5fea0c6513346f92cd65d8fefd66e844cf0d6f9", func := "trefoil/trefoillaw23.ActKnown", spec := "actKnown", inPlace := ["slices.overlaps[int]"], unfollowed := true, recurses := true, apart := false, narrowed := true }
def ActKnownUptoSaid : Prop := actKnownUptoRow.holds Tryz.pinned (OpenSpec.upto actKnownSpec)

/-- 'trefoillaw22.TurnKnown', WHERE WHAT IT READS IS OF BULK AT MOST 1048576: true; the input reads as it did. -/
def turnKnownUptoRow : OpenClaim := { program := "ytchbdmldjkkmiaagreat", sum := "9b0d6938d7f43f8135960806c5fea0c6513346f92cd65d8fefd66e844cf0d6f9", func := "trefoil/trefoillaw22.TurnKnown", spec := "turnKnown", inPlace := ["slices.overlaps[int]"], unfollowed := true, recurses := true, apart := false, narrowed := true }
def TurnKnownUptoSaid : Prop := turnKnownUptoRow.holds Tryz.pinned (OpenSpec.upto turnKnownSpec)

end Rows
end Go.Proofs.YtchbdmldjkkmiaaGreat
