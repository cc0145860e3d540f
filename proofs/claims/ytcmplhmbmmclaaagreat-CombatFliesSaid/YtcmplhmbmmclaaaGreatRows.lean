/-
  No cell of these rows narrows 'for every input' (looked for: loops, veiled, ifaces, maps, wideKeys, modest, calm, conditions, laid).
  DERIVED. THE GIVEN ROWS OF THIS SEAT. 8 by the template 'for every input the law returns true; each argument reads behind the call as it read before'; 0 by the template 'total and deterministic' (their statements: YtcmplhmbmmclaaaGreatTotals.lean).
  GIVEN WITH THE SEED: the statements are not yours to turn. If you find one false, say at which input.
  Laid BY PROGRAM, IN A SANDBOX (cutbox-rows.mjs): the forced cells as the released guide's own fill.sh prints them over the translation 1f181cde90d19e32… (all of the seat's roots in one cut). By AI agents, Wed Nov 11 2026. No macro, syntax, notation, axiom, sorry.
-/
import Derived.Test.YtcmplhmbmmclaaaGreatChecked
import GoSem.Claim
import GoSem.ClaimJoined
import GoSem.ClaimMapViews
import Derived.JoinedTies
import Derived.KernelRfl
namespace Go.Proofs.YtcmplhmbmmclaaaGreat
/- THE CELL 'sum', in the pinned program and in every row, IS THE sha256 OF THE DUMP (.gsa) THAT YtcmplhmbmmclaaaGreatProg.lean LOADS. Nothing in Lean hashes anything: it is a label: what it is worth is what the hold of that sum in a sandbox is worth. -/
noncomputable def Tryz.pinned : Pinned := { name := "ytcmplhmbmmclaaagreat", sum := "1f181cde90d19e32a5821f901ef5166ff5f01578d338b1dfbb3d3af64ee7c3b2", checked := Tryz.checked }
namespace Rows
def none {H : Type} : Left H := { results := [], args := [] }

/-- 'trefoillaw15.BoardLimit': WHATEVER THE INPUT: true; the input reads as it did. -/
def boardLimitSpec : ChangeSpec := { name := "boardLimit", fn := fun _ => fun
  | [d1, d2] => { results := [.lit (.bool true)], args := [d1, d2] }
  | _ => none }
def boardLimitRow : OpenClaim := { program := "ytcmplhmbmmclaaagreat", sum := "1f181cde90d19e32a5821f901ef5166ff5f01578d338b1dfbb3d3af64ee7c3b2", func := "trefoil/trefoillaw15.BoardLimit", spec := "boardLimit", inPlace := ["slices.overlaps[int]"], unfollowed := true, recurses := true, apart := false }
def BoardLimitSaid : Prop := boardLimitRow.holds Tryz.pinned (OpenSpec.ofChange boardLimitSpec)

/-- ITS FALSE NEIGHBOUR: 'it returns false'. Refute it at one input. -/
def boardLimitWrong : ChangeSpec := { name := "boardLimit", fn := fun _ => fun
  | [d1, d2] => { results := [.lit (.bool false)], args := [d1, d2] }
  | _ => none }
def BoardLimitWrongFalsely : Prop := boardLimitRow.holds Tryz.pinned (OpenSpec.ofChange boardLimitWrong)

/-- 'trefoillaw20.SbaTurns': WHATEVER THE INPUT: true; the input reads as it did. -/
def sbaTurnsSpec : ChangeSpec := { name := "sbaTurns", fn := fun _ => fun
  | [d1, d2] => { results := [.lit (.bool true)], args := [d1, d2] }
  | _ => none }
def sbaTurnsRow : OpenClaim := { program := "ytcmplhmbmmclaaagreat", sum := "1f181cde90d19e32a5821f901ef5166ff5f01578d338b1dfbb3d3af64ee7c3b2", func := "trefoil/trefoillaw20.SbaTurns", spec := "sbaTurns", inPlace := ["slices.overlaps[int]"], unfollowed := true, recurses := true, apart := false }
def SbaTurnsSaid : Prop := sbaTurnsRow.holds Tryz.pinned (OpenSpec.ofChange sbaTurnsSpec)

/-- ITS FALSE NEIGHBOUR: 'it returns false'. Refute it at one input. -/
def sbaTurnsWrong : ChangeSpec := { name := "sbaTurns", fn := fun _ => fun
  | [d1, d2] => { results := [.lit (.bool false)], args := [d1, d2] }
  | _ => none }
def SbaTurnsWrongFalsely : Prop := sbaTurnsRow.holds Tryz.pinned (OpenSpec.ofChange sbaTurnsWrong)

/-- 'trefoillaw18.TargetStays': WHATEVER THE INPUT: true; the input reads as it did. -/
def targetStaysSpec : ChangeSpec := { name := "targetStays", fn := fun _ => fun
  | [d1, d2] => { results := [.lit (.bool true)], args := [d1, d2] }
  | _ => none }
def targetStaysRow : OpenClaim := { program := "ytcmplhmbmmclaaagreat", sum := "1f181cde90d19e32a5821f901ef5166ff5f01578d338b1dfbb3d3af64ee7c3b2", func := "trefoil/trefoillaw18.TargetStays", spec := "targetStays", inPlace := ["slices.overlaps[int]"], unfollowed := true, recurses := true, apart := false }
def TargetStaysSaid : Prop := targetStaysRow.holds Tryz.pinned (OpenSpec.ofChange targetStaysSpec)

/-- ITS FALSE NEIGHBOUR: 'it returns false'. Refute it at one input. -/
def targetStaysWrong : ChangeSpec := { name := "targetStays", fn := fun _ => fun
  | [d1, d2] => { results := [.lit (.bool false)], args := [d1, d2] }
  | _ => none }
def TargetStaysWrongFalsely : Prop := targetStaysRow.holds Tryz.pinned (OpenSpec.ofChange targetStaysWrong)

/-- 'trefoillaw18.TargetApart': WHATEVER THE INPUT: true; the input reads as it did. -/
def targetApartSpec : ChangeSpec := { name := "targetApart", fn := fun _ => fun
  | [d1, d2, d3] => { results := [.lit (.bool true)], args := [d1, d2, d3] }
  | _ => none }
def targetApartRow : OpenClaim := { program := "ytcmplhmbmmclaaagreat", sum := "1f181cde90d19e32a5821f901ef5166ff5f01578d338b1dfbb3d3af64ee7c3b2", func := "trefoil/trefoillaw18.TargetApart", spec := "targetApart", inPlace := ["slices.overlaps[int]"], unfollowed := true, recurses := true, apart := false }
def TargetApartSaid : Prop := targetApartRow.holds Tryz.pinned (OpenSpec.ofChange targetApartSpec)

/-- ITS FALSE NEIGHBOUR: 'it returns false'. Refute it at one input. -/
def targetApartWrong : ChangeSpec := { name := "targetApart", fn := fun _ => fun
  | [d1, d2, d3] => { results := [.lit (.bool false)], args := [d1, d2, d3] }
  | _ => none }
def TargetApartWrongFalsely : Prop := targetApartRow.holds Tryz.pinned (OpenSpec.ofChange targetApartWrong)

/-- 'trefoillaw21.CombatFlies': WHATEVER THE INPUT: true; the input reads as it did. -/
def combatFliesSpec : ChangeSpec := { name := "combatFlies", fn := fun _ => fun
  | [d1, d2] => { results := [.lit (.bool true)], args := [d1, d2] }
  | _ => none }
def combatFliesRow : OpenClaim := { program := "ytcmplhmbmmclaaagreat", sum := "1f181cde90d19e32a5821f901ef5166ff5f01578d338b1dfbb3d3af64ee7c3b2", func := "trefoil/trefoillaw21.CombatFlies", spec := "combatFlies", inPlace := ["slices.overlaps[int]"], unfollowed := true, recurses := true, apart := false }
def CombatFliesSaid : Prop := combatFliesRow.holds Tryz.pinned (OpenSpec.ofChange combatFliesSpec)

/-- ITS FALSE NEIGHBOUR: 'it returns false'. Refute it at one input. -/
def combatFliesWrong : ChangeSpec := { name := "combatFlies", fn := fun _ => fun
  | [d1, d2] => { results := [.lit (.bool false)], args := [d1, d2] }
  | _ => none }
def CombatFliesWrongFalsely : Prop := combatFliesRow.holds Tryz.pinned (OpenSpec.ofChange combatFliesWrong)

/-- 'trefoillaw22.TurnLands': WHATEVER THE INPUT: true; the input reads as it did. -/
def turnLandsSpec : ChangeSpec := { name := "turnLands", fn := fun _ => fun
  | [d1, d2, d3] => { results := [.lit (.bool true)], args := [d1, d2, d3] }
  | _ => none }
def turnLandsRow : OpenClaim := { program := "ytcmplhmbmmclaaagreat", sum := "1f181cde90d19e32a5821f901ef5166ff5f01578d338b1dfbb3d3af64ee7c3b2", func := "trefoil/trefoillaw22.TurnLands", spec := "turnLands", inPlace := ["slices.overlaps[int]"], unfollowed := true, recurses := true, apart := false }
def TurnLandsSaid : Prop := turnLandsRow.holds Tryz.pinned (OpenSpec.ofChange turnLandsSpec)

/-- ITS FALSE NEIGHBOUR: 'it returns false'. Refute it at one input. -/
def turnLandsWrong : ChangeSpec := { name := "turnLands", fn := fun _ => fun
  | [d1, d2, d3] => { results := [.lit (.bool false)], args := [d1, d2, d3] }
  | _ => none }
def TurnLandsWrongFalsely : Prop := turnLandsRow.holds Tryz.pinned (OpenSpec.ofChange turnLandsWrong)

/-- 'trefoillaw22.TurnTells': WHATEVER THE INPUT: true; the input reads as it did. -/
def turnTellsSpec : ChangeSpec := { name := "turnTells", fn := fun _ => fun
  | [d1, d2, d3] => { results := [.lit (.bool true)], args := [d1, d2, d3] }
  | _ => none }
def turnTellsRow : OpenClaim := { program := "ytcmplhmbmmclaaagreat", sum := "1f181cde90d19e32a5821f901ef5166ff5f01578d338b1dfbb3d3af64ee7c3b2", func := "trefoil/trefoillaw22.TurnTells", spec := "turnTells", inPlace := ["slices.overlaps[int]"], unfollowed := true, recurses := true, apart := false }
def TurnTellsSaid : Prop := turnTellsRow.holds Tryz.pinned (OpenSpec.ofChange turnTellsSpec)

/-- ITS FALSE NEIGHBOUR: 'it returns false'. Refute it at one input. -/
def turnTellsWrong : ChangeSpec := { name := "turnTells", fn := fun _ => fun
  | [d1, d2, d3] => { results := [.lit (.bool false)], args := [d1, d2, d3] }
  | _ => none }
def TurnTellsWrongFalsely : Prop := turnTellsRow.holds Tryz.pinned (OpenSpec.ofChange turnTellsWrong)

/-- 'trefoillaw20.SbaLeaves': WHATEVER THE INPUT: true; the input reads as it did. -/
def sbaLeavesSpec : ChangeSpec := { name := "sbaLeaves", fn := fun _ => fun
  | [d1, d2] => { results := [.lit (.bool true)], args := [d1, d2] }
  | _ => none }
def sbaLeavesRow : OpenClaim := { program := "ytcmplhmbmmclaaagreat", sum := "1f181cde90d19e32a5821f901ef5166ff5f01578d338b1dfbb3d3af64ee7c3b2", func := "trefoil/trefoillaw20.SbaLeaves", spec := "sbaLeaves", inPlace := ["slices.overlaps[int]"], unfollowed := true, recurses := true, apart := false }
def SbaLeavesSaid : Prop := sbaLeavesRow.holds Tryz.pinned (OpenSpec.ofChange sbaLeavesSpec)

/-- ITS FALSE NEIGHBOUR: 'it returns false'. Refute it at one input. -/
def sbaLeavesWrong : ChangeSpec := { name := "sbaLeaves", fn := fun _ => fun
  | [d1, d2] => { results := [.lit (.bool false)], args := [d1, d2] }
  | _ => none }
def SbaLeavesWrongFalsely : Prop := sbaLeavesRow.holds Tryz.pinned (OpenSpec.ofChange sbaLeavesWrong)

/- THE SECOND FORM. 'bulk': how many values and letters a reading holds, each counted each time it is reached (what is shared counts as often as it is met; a slice's spare places count too). A statement '..UptoSaid' is the law's where the arguments, and the package variables that the reading takes, are together of bulk at most 1048576: NARROWER than '..Said'. Prove '..Said' where nothing that the law and all that it calls make is longer than what came in: it says more and counts as full. Else prove '..UptoSaid'. A law counts once. -/
mutual
def uptoBulk {H : Type} : DataW H → Nat
  | .lit (.string bytes) => bytes.length + 1
  | .lit _ => 1
  | .nil => 1
  | .ptr d => uptoBulk d + 1
  | .slice elems spare => uptoBulkAll elems + uptoBulkAll spare + 1
  | .agg parts => uptoBulkAll parts + 1
  | .iface _ d => uptoBulk d + 1
  | .map entries => uptoBulkEntries entries + 1
  | .held _ => 1
def uptoBulkAll {H : Type} : List (DataW H) → Nat
  | [] => 0
  | d :: r => uptoBulk d + uptoBulkAll r
def uptoBulkEntries {H : Type} : List (Lit × DataW H) → Nat
  | [] => 0
  | x :: r => uptoBulkEntry x + uptoBulkEntries r
def uptoBulkEntry {H : Type} : Lit × DataW H → Nat
  | (.string bytes, d) => bytes.length + uptoBulk d + 1
  | (_, d) => uptoBulk d + 1
 end
def uptoSmall : (H : Type) → List (DataW H) → Bool := fun _ ds => decide (uptoBulkAll ds ≤ 1048576)
def OpenSpec.upto (s : _root_.Go.ChangeSpec) : _root_.Go.OpenSpec := { _root_.Go.OpenSpec.ofChange s with cond := some uptoSmall }

/-- 'trefoillaw15.BoardLimit', WHERE WHAT IT READS IS OF BULK AT MOST 1048576: true; the input reads as it did. -/
def boardLimitUptoRow : OpenClaim := { program := "ytcmplhmbmmclaaagreat", sum := "1f181cde90d19e32a5821f901ef5166ff5f01578d338b1dfbb3d3af64ee7c3b2", func := "trefoil/trefoillaw15.BoardLimit", spec := "boardLimit", inPlace := ["slices.overlaps[int]"], unfollowed := true, recurses := true, apart := false, narrowed := true }
def BoardLimitUptoSaid : Prop := boardLimitUptoRow.holds Tryz.pinned (OpenSpec.upto boardLimitSpec)

/-- 'trefoillaw20.SbaTurns', WHERE WHAT IT READS IS OF BULK AT MOST 1048576: true; the input reads as it did. -/
def sbaTurnsUptoRow : OpenClaim := { program := "ytcmplhmbmmclaaagreat", sum := "1f181cde90d19e32a5821f901ef5166ff5f01578d338b1dfbb3d3af64ee7c3b2", func := "trefoil/trefoillaw20.SbaTurns", spec := "sbaTurns", inPlace := ["slices.overlaps[int]"], unfollowed := true, recurses := true, apart := false, narrowed := true }
def SbaTurnsUptoSaid : Prop := sbaTurnsUptoRow.holds Tryz.pinned (OpenSpec.upto sbaTurnsSpec)

/-- 'trefoillaw18.TargetStays', WHERE WHAT IT READS IS OF BULK AT MOST 1048576: true; the input reads as it did. -/
def targetStaysUptoRow : OpenClaim := { program := "ytcmplhmbmmclaaagreat", sum := "1f181cde90d19e32a5821f901ef5166ff5f01578d338b1dfbb3d3af64ee7c3b2", func := "trefoil/trefoillaw18.TargetStays", spec := "targetStays", inPlace := ["slices.overlaps[int]"], unfollowed := true, recurses := true, apart := false, narrowed := true }
def TargetStaysUptoSaid : Prop := targetStaysUptoRow.holds Tryz.pinned (OpenSpec.upto targetStaysSpec)

/-- 'trefoillaw18.TargetApart', WHERE WHAT IT READS IS OF BULK AT MOST 1048576: true; the input reads as it did. -/
def targetApartUptoRow : OpenClaim := { program := "ytcmplhmbmmclaaagreat", sum := "1f181cde90d19e32a5821f901ef5166ff5f01578d338b1dfbb3d3af64ee7c3b2", func := "trefoil/trefoillaw18.TargetApart", spec := "targetApart", inPlace := ["slices.overlaps[int]"], unfollowed := true, recurses := true, apart := false, narrowed := true }
def TargetApartUptoSaid : Prop := targetApartUptoRow.holds Tryz.pinned (OpenSpec.upto targetApartSpec)

/-- 'trefoillaw21.CombatFlies', WHERE WHAT IT READS IS OF BULK AT MOST 1048576: true; the input reads as it did. -/
def combatFliesUptoRow : OpenClaim := { program := "ytcmplhmbmmclaaagreat", sum := "1f181cde90d19e32a5821f901ef5166ff5f01578d338b1dfbb3d3af64ee7c3b2", func := "trefoil/trefoillaw21.CombatFlies", spec := "combatFlies", inPlace := ["slices.overlaps[int]"], unfollowed := true, recurses := true, apart := false, narrowed := true }
def CombatFliesUptoSaid : Prop := combatFliesUptoRow.holds Tryz.pinned (OpenSpec.upto combatFliesSpec)

/-- 'trefoillaw22.TurnLands', WHERE WHAT IT READS IS OF BULK AT MOST 1048576: true; the input reads as it did. -/
def turnLandsUptoRow : OpenClaim := { program := "ytcmplhmbmmclaaagreat", sum := "1f181cde90d19e32a5821f901ef5166ff5f01578d338b1dfbb3d3af64ee7c3b2", func := "trefoil/trefoillaw22.TurnLands", spec := "turnLands", inPlace := ["slices.overlaps[int]"], unfollowed := true, recurses := true, apart := false, narrowed := true }
def TurnLandsUptoSaid : Prop := turnLandsUptoRow.holds Tryz.pinned (OpenSpec.upto turnLandsSpec)

/-- 'trefoillaw22.TurnTells', WHERE WHAT IT READS IS OF BULK AT MOST 1048576: true; the input reads as it did. -/
def turnTellsUptoRow : OpenClaim := { program := "ytcmplhmbmmclaaagreat", sum := "1f181cde90d19e32a5821f901ef5166ff5f01578d338b1dfbb3d3af64ee7c3b2", func := "trefoil/trefoillaw22.TurnTells", spec := "turnTells", inPlace := ["slices.overlaps[int]"], unfollowed := true, recurses := true, apart := false, narrowed := true }
def TurnTellsUptoSaid : Prop := turnTellsUptoRow.holds Tryz.pinned (OpenSpec.upto turnTellsSpec)

/-- 'trefoillaw20.SbaLeaves', WHERE WHAT IT READS IS OF BULK AT MOST 1048576: true; the input reads as it did. -/
def sbaLeavesUptoRow : OpenClaim := { program := "ytcmplhmbmmclaaagreat", sum := "1f181cde90d19e32a5821f901ef5166ff5f01578d338b1dfbb3d3af64ee7c3b2", func := "trefoil/trefoillaw20.SbaLeaves", spec := "sbaLeaves", inPlace := ["slices.overlaps[int]"], unfollowed := true, recurses := true, apart := false, narrowed := true }
def SbaLeavesUptoSaid : Prop := sbaLeavesUptoRow.holds Tryz.pinned (OpenSpec.upto sbaLeavesSpec)

end Rows
end Go.Proofs.YtcmplhmbmmclaaaGreat
