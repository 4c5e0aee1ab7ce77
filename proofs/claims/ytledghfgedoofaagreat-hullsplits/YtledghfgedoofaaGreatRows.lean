/-
  No cell of these rows narrows 'for every input' (looked for: loops, veiled, ifaces, maps, wideKeys, modest, calm, conditions, laid).
  DERIVED. THE GIVEN ROWS OF THIS SEAT. 3 by the template 'for every input the law returns true; each argument reads behind the call as it read before'; 0 by the template 'total and deterministic' (their statements: YtledghfgedoofaaGreatTotals.lean).
  GIVEN WITH THE SEED: the statements are not yours to turn. If you find one false, say at which input.
  Laid BY PROGRAM, IN A SANDBOX (cutbox-rows.mjs): the forced cells as the released guide's own fill.sh prints them over the translation 6a04f57959659bf8… (all of the seat's roots in one cut). By AI agents, Wed Nov 11 2026. No macro, syntax, notation, axiom, sorry.
-/
import Derived.Test.YtledghfgedoofaaGreatChecked
import GoSem.Claim
import GoSem.ClaimJoined
import GoSem.ClaimMapViews
import Derived.JoinedTies
import Derived.KernelRfl
namespace Go.Proofs.YtledghfgedoofaaGreat
/- THE CELL 'sum', in the pinned program and in every row, IS THE sha256 OF THE DUMP (.gsa) THAT YtledghfgedoofaaGreatProg.lean LOADS. Nothing in Lean hashes anything: it is a label: what it is worth is what the hold of that sum in a sandbox is worth. -/
noncomputable def Tryz.pinned : Pinned := { name := "ytledghfgedoofaagreat", sum := "6a04f57959659bf85743a7fcac52748a45b7f4d9a4d062714d58ed92a29e2040", checked := Tryz.checked }
namespace Rows
def none {H : Type} : Left H := { results := [], args := [] }

/-- 'orrerylaw20.HullGrows': WHATEVER THE INPUT: true; the input reads as it did. -/
def hullGrowsSpec : ChangeSpec := { name := "hullGrows", fn := fun _ => fun
  | [d1, d2, d3, d4, d5] => { results := [.lit (.bool true)], args := [d1, d2, d3, d4, d5] }
  | _ => none }
def hullGrowsRow : OpenClaim := { program := "ytledghfgedoofaagreat", sum := "6a04f57959659bf85743a7fcac52748a45b7f4d9a4d062714d58ed92a29e2040", func := "orrery/orrerylaw20.HullGrows", spec := "hullGrows", unfollowed := true, recurses := true, apart := false }
def HullGrowsSaid : Prop := hullGrowsRow.holds Tryz.pinned (OpenSpec.ofChange hullGrowsSpec)

/-- ITS FALSE NEIGHBOUR: 'it returns false'. Refute it at one input. -/
def hullGrowsWrong : ChangeSpec := { name := "hullGrows", fn := fun _ => fun
  | [d1, d2, d3, d4, d5] => { results := [.lit (.bool false)], args := [d1, d2, d3, d4, d5] }
  | _ => none }
def HullGrowsWrongFalsely : Prop := hullGrowsRow.holds Tryz.pinned (OpenSpec.ofChange hullGrowsWrong)

/-- 'orrerylaw20.HullSplits': WHATEVER THE INPUT: true; the input reads as it did. -/
def hullSplitsSpec : ChangeSpec := { name := "hullSplits", fn := fun _ => fun
  | [d1, d2] => { results := [.lit (.bool true)], args := [d1, d2] }
  | _ => none }
def hullSplitsRow : OpenClaim := { program := "ytledghfgedoofaagreat", sum := "6a04f57959659bf85743a7fcac52748a45b7f4d9a4d062714d58ed92a29e2040", func := "orrery/orrerylaw20.HullSplits", spec := "hullSplits", unfollowed := true, recurses := true, apart := false }
def HullSplitsSaid : Prop := hullSplitsRow.holds Tryz.pinned (OpenSpec.ofChange hullSplitsSpec)

/-- ITS FALSE NEIGHBOUR: 'it returns false'. Refute it at one input. -/
def hullSplitsWrong : ChangeSpec := { name := "hullSplits", fn := fun _ => fun
  | [d1, d2] => { results := [.lit (.bool false)], args := [d1, d2] }
  | _ => none }
def HullSplitsWrongFalsely : Prop := hullSplitsRow.holds Tryz.pinned (OpenSpec.ofChange hullSplitsWrong)

/-- 'orrerylaw20.HullTurns': WHATEVER THE INPUT: true; the input reads as it did. -/
def hullTurnsSpec : ChangeSpec := { name := "hullTurns", fn := fun _ => fun
  | [d1, d2, d3, d4] => { results := [.lit (.bool true)], args := [d1, d2, d3, d4] }
  | _ => none }
def hullTurnsRow : OpenClaim := { program := "ytledghfgedoofaagreat", sum := "6a04f57959659bf85743a7fcac52748a45b7f4d9a4d062714d58ed92a29e2040", func := "orrery/orrerylaw20.HullTurns", spec := "hullTurns", unfollowed := true, recurses := true, apart := false }
def HullTurnsSaid : Prop := hullTurnsRow.holds Tryz.pinned (OpenSpec.ofChange hullTurnsSpec)

/-- ITS FALSE NEIGHBOUR: 'it returns false'. Refute it at one input. -/
def hullTurnsWrong : ChangeSpec := { name := "hullTurns", fn := fun _ => fun
  | [d1, d2, d3, d4] => { results := [.lit (.bool false)], args := [d1, d2, d3, d4] }
  | _ => none }
def HullTurnsWrongFalsely : Prop := hullTurnsRow.holds Tryz.pinned (OpenSpec.ofChange hullTurnsWrong)

/- THE SECOND FORM. 'bulk': how many values and letters a reading holds, each counted each time it is reached (what is shared counts as often as it is met; a slice's spare places count too). A statement '..UptoSaid' is the law's where the arguments, and the package variables that the reading takes, are together of bulk at most 1048576: NARROWER than '..Said'. Prove '..Said' where nothing that the law and all that it calls make is longer than what came in: it says more and counts as full. Else prove '..UptoSaid'. A law counts once. -/
mutual
def uptoBulk {H : Type} : DataW H → Nat
  | .lit (.string bytes) => bytes.length + 1
  | .lit _ => 1
  | .nil => 1
  | .ptr d => uptoBulk d + 1
  | .slice elems spare => uptoBulkAll elems + uptoBulkAll spare + 1
  | .agg parts => uptoBulkAll parts + 1
  | .iface _ d => uptoBulk d + 1
  | .map entries => uptoBulkEntries entries + 1
  | .held _ => 1
def uptoBulkAll {H : Type} : List (DataW H) → Nat
  | [] => 0
  | d :: r => uptoBulk d + uptoBulkAll r
def uptoBulkEntries {H : Type} : List (Lit × DataW H) → Nat
  | [] => 0
  | x :: r => uptoBulkEntry x + uptoBulkEntries r
def uptoBulkEntry {H : Type} : Lit × DataW H → Nat
  | (.string bytes, d) => bytes.length + uptoBulk d + 1
  | (_, d) => uptoBulk d + 1
 end
def uptoSmall : (H : Type) → List (DataW H) → Bool := fun _ ds => decide (uptoBulkAll ds ≤ 1048576)
def OpenSpec.upto (s : _root_.Go.ChangeSpec) : _root_.Go.OpenSpec := { _root_.Go.OpenSpec.ofChange s with cond := some uptoSmall }

/-- 'orrerylaw20.HullGrows', WHERE WHAT IT READS IS OF BULK AT MOST 1048576: true; the input reads as it did. -/
def hullGrowsUptoRow : OpenClaim := { program := "ytledghfgedoofaagreat", sum := "6a04f57959659bf85743a7fcac52748a45b7f4d9a4d062714d58ed92a29e2040", func := "orrery/orrerylaw20.HullGrows", spec := "hullGrows", unfollowed := true, recurses := true, apart := false, narrowed := true }
def HullGrowsUptoSaid : Prop := hullGrowsUptoRow.holds Tryz.pinned (OpenSpec.upto hullGrowsSpec)

/-- 'orrerylaw20.HullSplits', WHERE WHAT IT READS IS OF BULK AT MOST 1048576: true; the input reads as it did. -/
def hullSplitsUptoRow : OpenClaim := { program := "ytledghfgedoofaagreat", sum := "6a04f57959659bf85743a7fcac52748a45b7f4d9a4d062714d58ed92a29e2040", func := "orrery/orrerylaw20.HullSplits", spec := "hullSplits", unfollowed := true, recurses := true, apart := false, narrowed := true }
def HullSplitsUptoSaid : Prop := hullSplitsUptoRow.holds Tryz.pinned (OpenSpec.upto hullSplitsSpec)

/-- 'orrerylaw20.HullTurns', WHERE WHAT IT READS IS OF BULK AT MOST 1048576: true; the input reads as it did. -/
def hullTurnsUptoRow : OpenClaim := { program := "ytledghfgedoofaagreat", sum := "6a04f57959659bf85743a7fcac52748a45b7f4d9a4d062714d58ed92a29e2040", func := "orrery/orrerylaw20.HullTurns", spec := "hullTurns", unfollowed := true, recurses := true, apart := false, narrowed := true }
def HullTurnsUptoSaid : Prop := hullTurnsUptoRow.holds Tryz.pinned (OpenSpec.upto hullTurnsSpec)

end Rows
end Go.Proofs.YtledghfgedoofaaGreat
