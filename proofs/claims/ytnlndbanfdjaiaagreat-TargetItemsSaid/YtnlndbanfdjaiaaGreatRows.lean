/-
  No cell of these rows narrows 'for every input' (looked for: loops, veiled, ifaces, maps, wideKeys, modest, calm, conditions, laid).
  DERIVED. THE GIVEN ROWS OF THIS SEAT. 3 by the template 'for every input the law returns true; each argument reads behind the call as it read before'; 0 by the template 'total and deterministic' (their statements: YtnlndbanfdjaiaaGreatTotals.lean).
  GIVEN WITH THE SEED: the statements are not yours to turn. If you find one false, say at which input.
  Laid BY PROGRAM, IN A SANDBOX (cutbox-rows.mjs): the forced cells as the released guide's own fill.sh prints them over the translation 0284aa7ba58f13c2… (all of the seat's roots in one cut). By AI agents, Wed Nov 11 2026. No macro, syntax, notation, axiom, sorry.
-/
import Derived.Test.YtnlndbanfdjaiaaGreatChecked
import GoSem.Claim
import GoSem.ClaimJoined
import GoSem.ClaimMapViews
import Derived.JoinedTies
import Derived.KernelRfl
namespace Go.Proofs.YtnlndbanfdjaiaaGreat
/- THE CELL 'sum', in the pinned program and in every row, IS THE sha256 OF THE DUMP (.gsa) THAT YtnlndbanfdjaiaaGreatProg.lean LOADS. Nothing in Lean hashes anything: it is a label: what it is worth is what the hold of that sum in a sandbox is worth. -/
noncomputable def Tryz.pinned : Pinned := { name := "ytnlndbanfdjaiaagreat", sum := "0284aa7ba58f13c27808557d992849c9b144eeae0ff335c98554a121fd36b41a", checked := Tryz.checked }
namespace Rows
def none {H : Type} : Left H := { results := [], args := [] }

/-- 'trefoillaw18.TargetItems': WHATEVER THE INPUT: true; the input reads as it did. -/
def targetItemsSpec : ChangeSpec := { name := "targetItems", fn := fun _ => fun
  | [d1, d2] => { results := [.lit (.bool true)], args := [d1, d2] }
  | _ => none }
def targetItemsRow : OpenClaim := { program := "ytnlndbanfdjaiaagreat", sum := "0284aa7ba58f13c27808557d992849c9b144eeae0ff335c98554a121fd36b41a", func := "trefoil/trefoillaw18.TargetItems", spec := "targetItems", inPlace := ["slices.overlaps[int]"], unfollowed := true, recurses := true, apart := false }
def TargetItemsSaid : Prop := targetItemsRow.holds Tryz.pinned (OpenSpec.ofChange targetItemsSpec)

/-- ITS FALSE NEIGHBOUR: 'it returns false'. Refute it at one input. -/
def targetItemsWrong : ChangeSpec := { name := "targetItems", fn := fun _ => fun
  | [d1, d2] => { results := [.lit (.bool false)], args := [d1, d2] }
  | _ => none }
def TargetItemsWrongFalsely : Prop := targetItemsRow.holds Tryz.pinned (OpenSpec.ofChange targetItemsWrong)

/-- 'trefoillaw21.CombatOnce': WHATEVER THE INPUT: true; the input reads as it did. -/
def combatOnceSpec : ChangeSpec := { name := "combatOnce", fn := fun _ => fun
  | [d1, d2] => { results := [.lit (.bool true)], args := [d1, d2] }
  | _ => none }
def combatOnceRow : OpenClaim := { program := "ytnlndbanfdjaiaagreat", sum := "0284aa7ba58f13c27808557d992849c9b144eeae0ff335c98554a121fd36b41a", func := "trefoil/trefoillaw21.CombatOnce", spec := "combatOnce", inPlace := ["slices.overlaps[int]"], unfollowed := true, recurses := true, apart := false }
def CombatOnceSaid : Prop := combatOnceRow.holds Tryz.pinned (OpenSpec.ofChange combatOnceSpec)

/-- ITS FALSE NEIGHBOUR: 'it returns false'. Refute it at one input. -/
def combatOnceWrong : ChangeSpec := { name := "combatOnce", fn := fun _ => fun
  | [d1, d2] => { results := [.lit (.bool false)], args := [d1, d2] }
  | _ => none }
def CombatOnceWrongFalsely : Prop := combatOnceRow.holds Tryz.pinned (OpenSpec.ofChange combatOnceWrong)

/-- 'trefoillaw23.ActRefuses': WHATEVER THE INPUT: true; the input reads as it did. -/
def actRefusesSpec : ChangeSpec := { name := "actRefuses", fn := fun _ => fun
  | [d] => { results := [.lit (.bool true)], args := [d] }
  | _ => none }
def actRefusesRow : OpenClaim := { program := "ytnlndbanfdjaiaagreat", sum := "0284aa7ba58f13c27808557d992849c9b144eeae0ff335c98554a121fd36b41a", func := "trefoil/trefoillaw23.ActRefuses", spec := "actRefuses", inPlace := ["slices.overlaps[int]"], unfollowed := true, recurses := true, apart := false }
def ActRefusesSaid : Prop := actRefusesRow.holds Tryz.pinned (OpenSpec.ofChange actRefusesSpec)

/-- ITS FALSE NEIGHBOUR: 'it returns false'. Refute it at one input. -/
def actRefusesWrong : ChangeSpec := { name := "actRefuses", fn := fun _ => fun
  | [d] => { results := [.lit (.bool false)], args := [d] }
  | _ => none }
def ActRefusesWrongFalsely : Prop := actRefusesRow.holds Tryz.pinned (OpenSpec.ofChange actRefusesWrong)

/- THE SECOND FORM. 'bulk': how many values and letters a reading holds, each counted each time it is reached (what is shared counts as often as it is met; a slice's spare places count too). A statement '..UptoSaid' is the law's where the arguments, and the package variables that the reading takes, are together of bulk at most 1048576: NARROWER than '..Said'. Prove '..Said' where nothing that the law and all that it calls make is longer than what came in: it says more and counts as full. Else prove '..UptoSaid'. A law counts once. -/
mutual
def uptoBulk {H : Type} : DataW H → Nat
  | .lit (.string bytes) => bytes.length + 1
  | .lit _ => 1
  | .nil => 1
  | .ptr d => uptoBulk d + 1
  | .slice elems spare => uptoBulkAll elems + uptoBulkAll spare + 1
  | .agg parts => uptoBulkAll parts + 1
  | .iface _ d => uptoBulk d + 1
  | .map entries => uptoBulkEntries entries + 1
  | .held _ => 1
def uptoBulkAll {H : Type} : List (DataW H) → Nat
  | [] => 0
  | d :: r => uptoBulk d + uptoBulkAll r
def uptoBulkEntries {H : Type} : List (Lit × DataW H) → Nat
  | [] => 0
  | x :: r => uptoBulkEntry x + uptoBulkEntries r
def uptoBulkEntry {H : Type} : Lit × DataW H → Nat
  | (.string bytes, d) => bytes.length + uptoBulk d + 1
  | (_, d) => uptoBulk d + 1
 end
def uptoSmall : (H : Type) → List (DataW H) → Bool := fun _ ds => decide (uptoBulkAll ds ≤ 1048576)
def OpenSpec.upto (s : _root_.Go.ChangeSpec) : _root_.Go.OpenSpec := { _root_.Go.OpenSpec.ofChange s with cond := some uptoSmall }

/-- 'trefoillaw18.TargetItems', WHERE WHAT IT READS IS OF BULK AT MOST 1048576: true; the input reads as it did. -/
def targetItemsUptoRow : OpenClaim := { program := "ytnlndbanfdjaiaagreat", sum := "0284aa7ba58f13c27808557d992849c9b144eeae0ff335c98554a121fd36b41a", func := "trefoil/trefoillaw18.TargetItems", spec := "targetItems", inPlace := ["slices.overlaps[int]"], unfollowed := true, recurses := true, apart := false, narrowed := true }
def TargetItemsUptoSaid : Prop := targetItemsUptoRow.holds Tryz.pinned (OpenSpec.upto targetItemsSpec)

/-- 'trefoillaw21.CombatOnce', WHERE WHAT IT READS IS OF BULK AT MOST 1048576: true; the input reads as it did. -/
def combatOnceUptoRow : OpenClaim := { program := "ytnlndbanfdjaiaagreat", sum := "0284aa7ba58f13c27808557d992849c9b144eeae0ff335c98554a121fd36b41a", func := "trefoil/trefoillaw21.CombatOnce", spec := "combatOnce", inPlace := ["slices.overlaps[int]"], unfollowed := true, recurses := true, apart := false, narrowed := true }
def CombatOnceUptoSaid : Prop := combatOnceUptoRow.holds Tryz.pinned (OpenSpec.upto combatOnceSpec)

/-- 'trefoillaw23.ActRefuses', WHERE WHAT IT READS IS OF BULK AT MOST 1048576: true; the input reads as it did. -/
def actRefusesUptoRow : OpenClaim := { program := "ytnlndbanfdjaiaagreat", sum := "0284aa7ba58f13c27808557d992849c9b144eeae0ff335c98554a121fd36b41a", func := "trefoil/trefoillaw23.ActRefuses", spec := "actRefuses", inPlace := ["slices.overlaps[int]"], unfollowed := true, recurses := true, apart := false, narrowed := true }
def ActRefusesUptoSaid : Prop := actRefusesUptoRow.holds Tryz.pinned (OpenSpec.upto actRefusesSpec)

end Rows
end Go.Proofs.YtnlndbanfdjaiaaGreat
