/-
  No cell of these rows narrows 'for every input' (looked for: loops, veiled, ifaces, maps, wideKeys, modest, calm, conditions, laid).
  DERIVED. THE GIVEN ROWS OF THIS SEAT. 7 by the template 'for every input the law returns true; each argument reads behind the call as it read before'; 0 by the template 'total and deterministic' (their statements: YtbgjkfbeofbngaaGreatTotals.lean).
  GIVEN WITH THE SEED: the statements are not yours to turn. If you find one false, say at which input.
  Laid BY PROGRAM, IN A SANDBOX (cutbox-rows.mjs): the forced cells as the released guide's own fill.sh prints them over the translation 442cc3c75f68ed6d… (all of the seat's roots in one cut). By AI agents, Wed Nov 11 2026. No macro, syntax, notation, axiom, sorry.
-/
import Derived.Test.YtbgjkfbeofbngaaGreatChecked
import GoSem.Claim
import GoSem.ClaimJoined
import GoSem.ClaimMapViews
import Derived.JoinedTies
import Derived.KernelRfl
namespace Go.Proofs.YtbgjkfbeofbngaaGreat
/- THE CELL 'sum', in the pinned program and in every row, IS THE sha256 OF THE DUMP (.gsa) THAT YtbgjkfbeofbngaaGreatProg.lean LOADS. Nothing in Lean hashes anything: it is a label: what it is worth is what the hold of that sum in a sandbox is worth. -/
noncomputable def Tryz.pinned : Pinned := { name := "ytbgjkfbeofbngaagreat", sum := "442cc3c75f68ed6d19e049391f014149f4434a2b5653a95b2b68b826fbda794b", checked := Tryz.checked }
namespace Rows
def none {H : Type} : Left H := { results := [], args := [] }

/-- 'trefoillaw21.CombatSums': WHATEVER THE INPUT: true; the input reads as it did. -/
def combatSumsSpec : ChangeSpec := { name := "combatSums", fn := fun _ => fun
  | [d1, d2] => { results := [.lit (.bool true)], args := [d1, d2] }
  | _ => none }
def combatSumsRow : OpenClaim := { program := "ytbgjkfbeofbngaagreat", sum := "442cc3c75f68ed6d19e049391f014149f4434a2b5653a95b2b68b826fbda794b", func := "trefoil/trefoillaw21.CombatSums", spec := "combatSums", inPlace := ["slices.overlaps[int]"], unfollowed := true, recurses := true, apart := false }
def CombatSumsSaid : Prop := combatSumsRow.holds Tryz.pinned (OpenSpec.ofChange combatSumsSpec)

/-- ITS FALSE NEIGHBOUR: 'it returns false'. Refute it at one input. -/
def combatSumsWrong : ChangeSpec := { name := "combatSums", fn := fun _ => fun
  | [d1, d2] => { results := [.lit (.bool false)], args := [d1, d2] }
  | _ => none }
def CombatSumsWrongFalsely : Prop := combatSumsRow.holds Tryz.pinned (OpenSpec.ofChange combatSumsWrong)

/-- 'trefoillaw20.SbaLeaves': WHATEVER THE INPUT: true; the input reads as it did. -/
def sbaLeavesSpec : ChangeSpec := { name := "sbaLeaves", fn := fun _ => fun
  | [d1, d2] => { results := [.lit (.bool true)], args := [d1, d2] }
  | _ => none }
def sbaLeavesRow : OpenClaim := { program := "ytbgjkfbeofbngaagreat", sum := "442cc3c75f68ed6d19e049391f014149f4434a2b5653a95b2b68b826fbda794b", func := "trefoil/trefoillaw20.SbaLeaves", spec := "sbaLeaves", inPlace := ["slices.overlaps[int]"], unfollowed := true, recurses := true, apart := false }
def SbaLeavesSaid : Prop := sbaLeavesRow.holds Tryz.pinned (OpenSpec.ofChange sbaLeavesSpec)

/-- ITS FALSE NEIGHBOUR: 'it returns false'. Refute it at one input. -/
def sbaLeavesWrong : ChangeSpec := { name := "sbaLeaves", fn := fun _ => fun
  | [d1, d2] => { results := [.lit (.bool false)], args := [d1, d2] }
  | _ => none }
def SbaLeavesWrongFalsely : Prop := sbaLeavesRow.holds Tryz.pinned (OpenSpec.ofChange sbaLeavesWrong)

/-- 'trefoillaw20.SbaSettled': WHATEVER THE INPUT: true; the input reads as it did. -/
def sbaSettledSpec : ChangeSpec := { name := "sbaSettled", fn := fun _ => fun
  | [d] => { results := [.lit (.bool true)], args := [d] }
  | _ => none }
def sbaSettledRow : OpenClaim := { program := "ytbgjkfbeofbngaagreat", sum := "442cc3c75f68ed6d19e049391f014149f4434a2b5653a95b2b68b826fbda794b", func := "trefoil/trefoillaw20.SbaSettled", spec := "sbaSettled", inPlace := ["slices.overlaps[int]"], unfollowed := true, recurses := true, apart := false }
def SbaSettledSaid : Prop := sbaSettledRow.holds Tryz.pinned (OpenSpec.ofChange sbaSettledSpec)

/-- ITS FALSE NEIGHBOUR: 'it returns false'. Refute it at one input. -/
def sbaSettledWrong : ChangeSpec := { name := "sbaSettled", fn := fun _ => fun
  | [d] => { results := [.lit (.bool false)], args := [d] }
  | _ => none }
def SbaSettledWrongFalsely : Prop := sbaSettledRow.holds Tryz.pinned (OpenSpec.ofChange sbaSettledWrong)

/-- 'trefoillaw23.ActPays': WHATEVER THE INPUT: true; the input reads as it did. -/
def actPaysSpec : ChangeSpec := { name := "actPays", fn := fun _ => fun
  | [d1, d2, d3] => { results := [.lit (.bool true)], args := [d1, d2, d3] }
  | _ => none }
def actPaysRow : OpenClaim := { program := "ytbgjkfbeofbngaagreat", sum := "442cc3c75f68ed6d19e049391f014149f4434a2b5653a95b2b68b826fbda794b", func := "trefoil/trefoillaw23.ActPays", spec := "actPays", inPlace := ["slices.overlaps[int]"], unfollowed := true, recurses := true, apart := false }
def ActPaysSaid : Prop := actPaysRow.holds Tryz.pinned (OpenSpec.ofChange actPaysSpec)

/-- ITS FALSE NEIGHBOUR: 'it returns false'. Refute it at one input. -/
def actPaysWrong : ChangeSpec := { name := "actPays", fn := fun _ => fun
  | [d1, d2, d3] => { results := [.lit (.bool false)], args := [d1, d2, d3] }
  | _ => none }
def ActPaysWrongFalsely : Prop := actPaysRow.holds Tryz.pinned (OpenSpec.ofChange actPaysWrong)

/-- 'trefoillaw22.TurnEnds': WHATEVER THE INPUT: true; the input reads as it did. -/
def turnEndsSpec : ChangeSpec := { name := "turnEnds", fn := fun _ => fun
  | [d1, d2, d3] => { results := [.lit (.bool true)], args := [d1, d2, d3] }
  | _ => none }
def turnEndsRow : OpenClaim := { program := "ytbgjkfbeofbngaagreat", sum := "442cc3c75f68ed6d19e049391f014149f4434a2b5653a95b2b68b826fbda794b", func := "trefoil/trefoillaw22.TurnEnds", spec := "turnEnds", inPlace := ["slices.overlaps[int]"], unfollowed := true, recurses := true, apart := false }
def TurnEndsSaid : Prop := turnEndsRow.holds Tryz.pinned (OpenSpec.ofChange turnEndsSpec)

/-- ITS FALSE NEIGHBOUR: 'it returns false'. Refute it at one input. -/
def turnEndsWrong : ChangeSpec := { name := "turnEnds", fn := fun _ => fun
  | [d1, d2, d3] => { results := [.lit (.bool false)], args := [d1, d2, d3] }
  | _ => none }
def TurnEndsWrongFalsely : Prop := turnEndsRow.holds Tryz.pinned (OpenSpec.ofChange turnEndsWrong)

/-- 'trefoillaw15.BoardLooked': WHATEVER THE INPUT: true; the input reads as it did. -/
def boardLookedSpec : ChangeSpec := { name := "boardLooked", fn := fun _ => fun
  | [d1, d2] => { results := [.lit (.bool true)], args := [d1, d2] }
  | _ => none }
def boardLookedRow : OpenClaim := { program := "ytbgjkfbeofbngaagreat", sum := "442cc3c75f68ed6d19e049391f014149f4434a2b5653a95b2b68b826fbda794b", func := "trefoil/trefoillaw15.BoardLooked", spec := "boardLooked", inPlace := ["slices.overlaps[int]"], unfollowed := true, recurses := true, apart := false }
def BoardLookedSaid : Prop := boardLookedRow.holds Tryz.pinned (OpenSpec.ofChange boardLookedSpec)

/-- ITS FALSE NEIGHBOUR: 'it returns false'. Refute it at one input. -/
def boardLookedWrong : ChangeSpec := { name := "boardLooked", fn := fun _ => fun
  | [d1, d2] => { results := [.lit (.bool false)], args := [d1, d2] }
  | _ => none }
def BoardLookedWrongFalsely : Prop := boardLookedRow.holds Tryz.pinned (OpenSpec.ofChange boardLookedWrong)

/-- 'trefoillaw15.BoardBack': WHATEVER THE INPUT: true; the input reads as it did. -/
def boardBackSpec : ChangeSpec := { name := "boardBack", fn := fun _ => fun
  | [d1, d2, d3] => { results := [.lit (.bool true)], args := [d1, d2, d3] }
  | _ => none }
def boardBackRow : OpenClaim := { program := "ytbgjkfbeofbngaagreat", sum := "442cc3c75f68ed6d19e049391f014149f4434a2b5653a95b2b68b826fbda794b", func := "trefoil/trefoillaw15.BoardBack", spec := "boardBack", inPlace := ["slices.overlaps[int]"], unfollowed := true, recurses := true, apart := false }
def BoardBackSaid : Prop := boardBackRow.holds Tryz.pinned (OpenSpec.ofChange boardBackSpec)

/-- ITS FALSE NEIGHBOUR: 'it returns false'. Refute it at one input. -/
def boardBackWrong : ChangeSpec := { name := "boardBack", fn := fun _ => fun
  | [d1, d2, d3] => { results := [.lit (.bool false)], args := [d1, d2, d3] }
  | _ => none }
def BoardBackWrongFalsely : Prop := boardBackRow.holds Tryz.pinned (OpenSpec.ofChange boardBackWrong)

/- THE SECOND FORM. 'bulk': how many values and letters a reading holds, each counted each time it is reached (what is shared counts as often as it is met; a slice's spare places count too). A statement '..UptoSaid' is the law's where the arguments, and the package variables that the reading takes, are together of bulk at most 1048576: NARROWER than '..Said'. Prove '..Said' where nothing that the law and all that it calls make is longer than what came in: it says more and counts as full. Else prove '..UptoSaid'. A law counts once. -/
mutual
def uptoBulk {H : Type} : DataW H → Nat
  | .lit (.string bytes) => bytes.length + 1
  | .lit _ => 1
  | .nil => 1
  | .ptr d => uptoBulk d + 1
  | .slice elems spare => uptoBulkAll elems + uptoBulkAll spare + 1
  | .agg parts => uptoBulkAll parts + 1
  | .iface _ d => uptoBulk d + 1
  | .map entries => uptoBulkEntries entries + 1
  | .held _ => 1
def uptoBulkAll {H : Type} : List (DataW H) → Nat
  | [] => 0
  | d :: r => uptoBulk d + uptoBulkAll r
def uptoBulkEntries {H : Type} : List (Lit × DataW H) → Nat
  | [] => 0
  | x :: r => uptoBulkEntry x + uptoBulkEntries r
def uptoBulkEntry {H : Type} : Lit × DataW H → Nat
  | (.string bytes, d) => bytes.length + uptoBulk d + 1
  | (_, d) => uptoBulk d + 1
 end
def uptoSmall : (H : Type) → List (DataW H) → Bool := fun _ ds => decide (uptoBulkAll ds ≤ 1048576)
def OpenSpec.upto (s : _root_.Go.ChangeSpec) : _root_.Go.OpenSpec := { _root_.Go.OpenSpec.ofChange s with cond := some uptoSmall }

/-- 'trefoillaw21.CombatSums', WHERE WHAT IT READS IS OF BULK AT MOST 1048576: true; the input reads as it did. -/
def combatSumsUptoRow : OpenClaim := { program := "ytbgjkfbeofbngaagreat", sum := "442cc3c75f68ed6d19e049391f014149f4434a2b5653a95b2b68b826fbda794b", func := "trefoil/trefoillaw21.CombatSums", spec := "combatSums", inPlace := ["slices.overlaps[int]"], unfollowed := true, recurses := true, apart := false, narrowed := true }
def CombatSumsUptoSaid : Prop := combatSumsUptoRow.holds Tryz.pinned (OpenSpec.upto combatSumsSpec)

/-- 'trefoillaw20.SbaLeaves', WHERE WHAT IT READS IS OF BULK AT MOST 1048576: true; the input reads as it did. -/
def sbaLeavesUptoRow : OpenClaim := { program := "ytbgjkfbeofbngaagreat", sum := "442cc3c75f68ed6d19e049391f014149f4434a2b5653a95b2b68b826fbda794b", func := "trefoil/trefoillaw20.SbaLeaves", spec := "sbaLeaves", inPlace := ["slices.overlaps[int]"], unfollowed := true, recurses := true, apart := false, narrowed := true }
def SbaLeavesUptoSaid : Prop := sbaLeavesUptoRow.holds Tryz.pinned (OpenSpec.upto sbaLeavesSpec)

/-- 'trefoillaw20.SbaSettled', WHERE WHAT IT READS IS OF BULK AT MOST 1048576: true; the input reads as it did. -/
def sbaSettledUptoRow : OpenClaim := { program := "ytbgjkfbeofbngaagreat", sum := "442cc3c75f68ed6d19e049391f014149f4434a2b5653a95b2b68b826fbda794b", func := "trefoil/trefoillaw20.SbaSettled", spec := "sbaSettled", inPlace := ["slices.overlaps[int]"], unfollowed := true, recurses := true, apart := false, narrowed := true }
def SbaSettledUptoSaid : Prop := sbaSettledUptoRow.holds Tryz.pinned (OpenSpec.upto sbaSettledSpec)

/-- 'trefoillaw23.ActPays', WHERE WHAT IT READS IS OF BULK AT MOST 1048576: true; the input reads as it did. -/
def actPaysUptoRow : OpenClaim := { program := "ytbgjkfbeofbngaagreat", sum := "442cc3c75f68ed6d19e049391f014149f4434a2b5653a95b2b68b826fbda794b", func := "trefoil/trefoillaw23.ActPays", spec := "actPays", inPlace := ["slices.overlaps[int]"], unfollowed := true, recurses := true, apart := false, narrowed := true }
def ActPaysUptoSaid : Prop := actPaysUptoRow.holds Tryz.pinned (OpenSpec.upto actPaysSpec)

/-- 'trefoillaw22.TurnEnds', WHERE WHAT IT READS IS OF BULK AT MOST 1048576: true; the input reads as it did. -/
def turnEndsUptoRow : OpenClaim := { program := "ytbgjkfbeofbngaagreat", sum := "442cc3c75f68ed6d19e049391f014149f4434a2b5653a95b2b68b826fbda794b", func := "trefoil/trefoillaw22.TurnEnds", spec := "turnEnds", inPlace := ["slices.overlaps[int]"], unfollowed := true, recurses := true, apart := false, narrowed := true }
def TurnEndsUptoSaid : Prop := turnEndsUptoRow.holds Tryz.pinned (OpenSpec.upto turnEndsSpec)

/-- 'trefoillaw15.BoardLooked', WHERE WHAT IT READS IS OF BULK AT MOST 1048576: true; the input reads as it did. -/
def boardLookedUptoRow : OpenClaim := { program := "ytbgjkfbeofbngaagreat", sum := "442cc3c75f68ed6d19e049391f014149f4434a2b5653a95b2b68b826fbda794b", func := "trefoil/trefoillaw15.BoardLooked", spec := "boardLooked", inPlace := ["slices.overlaps[int]"], unfollowed := true, recurses := true, apart := false, narrowed := true }
def BoardLookedUptoSaid : Prop := boardLookedUptoRow.holds Tryz.pinned (OpenSpec.upto boardLookedSpec)

/-- 'trefoillaw15.BoardBack', WHERE WHAT IT READS IS OF BULK AT MOST 1048576: true; the input reads as it did. -/
def boardBackUptoRow : OpenClaim := { program := "ytbgjkfbeofbngaagreat", sum := "442cc3c75f68ed6d19e049391f014149f4434a2b5653a95b2b68b826fbda794b", func := "trefoil/trefoillaw15.BoardBack", spec := "boardBack", inPlace := ["slices.overlaps[int]"], unfollowed := true, recurses := true, apart := false, narrowed := true }
def BoardBackUptoSaid : Prop := boardBackUptoRow.holds Tryz.pinned (OpenSpec.upto boardBackSpec)

end Rows
end Go.Proofs.YtbgjkfbeofbngaaGreat
