/-
  No cell of these rows narrows 'for every input' (looked for: loops, veiled, ifaces, maps, wideKeys, modest, calm, conditions, laid).
  DERIVED. THE GIVEN ROWS OF THIS SEAT. 5 by the template 'for every input the law returns true; each argument reads behind the call as it read before'; 0 by the template 'total and deterministic' (their statements: YtbhhcpcpionelabGreatTotals.lean).
  GIVEN WITH THE SEED: the statements are not yours to turn. If you find one false, say at which input.
  Laid BY PROGRAM, IN A SANDBOX (cutbox-rows.mjs): the forced cells as the released guide's own fill.sh prints them over the translation c282a2c667dc47be… (all of the seat's roots in one cut). By AI agents, Wed Nov 11 2026. No macro, syntax, notation, axiom, sorry.
-/
import Derived.Test.YtbhhcpcpionelabGreatChecked
import GoSem.Claim
import GoSem.ClaimJoined
import GoSem.ClaimMapViews
import Derived.JoinedTies
import Derived.KernelRfl
namespace Go.Proofs.YtbhhcpcpionelabGreat
/- THE CELL 'sum', in the pinned program and in every row, IS THE sha256 OF THE DUMP (.gsa) THAT YtbhhcpcpionelabGreatProg.lean LOADS. Nothing in Lean hashes anything: it is a label: what it is worth is what the hold of that sum in a sandbox is worth. -/
noncomputable def Tryz.pinned : Pinned := { name := "ytbhhcpcpionelabgreat", sum := "c282a2c667dc47befa1c0cc646aef65a9c6ff14565ab3d6ea29c51c82a0e61f9", checked := Tryz.checked }
namespace Rows
def none {H : Type} : Left H := { results := [], args := [] }

/-- 'orrerylaw24.EngineBounds': WHATEVER THE INPUT: true; the input reads as it did. -/
def engineBoundsSpec : ChangeSpec := { name := "engineBounds", fn := fun _ => fun
  | [d1, d2, d3, d4] => { results := [.lit (.bool true)], args := [d1, d2, d3, d4] }
  | _ => none }
def engineBoundsRow : OpenClaim := { program := "ytbhhcpcpionelabgreat", sum := "c282a2c667dc47befa1c0cc646aef65a9c6ff14565ab3d6ea29c51c82a0e61f9", func := "orrery/orrerylaw24.EngineBounds", spec := "engineBounds", unfollowed := true, recurses := true, plainKeys := false, apart := false }
def EngineBoundsSaid : Prop := engineBoundsRow.holds Tryz.pinned (OpenSpec.ofChange engineBoundsSpec)

/-- ITS FALSE NEIGHBOUR: 'it returns false'. Refute it at one input. -/
def engineBoundsWrong : ChangeSpec := { name := "engineBounds", fn := fun _ => fun
  | [d1, d2, d3, d4] => { results := [.lit (.bool false)], args := [d1, d2, d3, d4] }
  | _ => none }
def EngineBoundsWrongFalsely : Prop := engineBoundsRow.holds Tryz.pinned (OpenSpec.ofChange engineBoundsWrong)

/-- 'orrerylaw24.EngineQueries': WHATEVER THE INPUT: true; the input reads as it did. -/
def engineQueriesSpec : ChangeSpec := { name := "engineQueries", fn := fun _ => fun
  | [d1, d2, d3, d4, d5] => { results := [.lit (.bool true)], args := [d1, d2, d3, d4, d5] }
  | _ => none }
def engineQueriesRow : OpenClaim := { program := "ytbhhcpcpionelabgreat", sum := "c282a2c667dc47befa1c0cc646aef65a9c6ff14565ab3d6ea29c51c82a0e61f9", func := "orrery/orrerylaw24.EngineQueries", spec := "engineQueries", unfollowed := true, recurses := true, plainKeys := false, apart := false }
def EngineQueriesSaid : Prop := engineQueriesRow.holds Tryz.pinned (OpenSpec.ofChange engineQueriesSpec)

/-- ITS FALSE NEIGHBOUR: 'it returns false'. Refute it at one input. -/
def engineQueriesWrong : ChangeSpec := { name := "engineQueries", fn := fun _ => fun
  | [d1, d2, d3, d4, d5] => { results := [.lit (.bool false)], args := [d1, d2, d3, d4, d5] }
  | _ => none }
def EngineQueriesWrongFalsely : Prop := engineQueriesRow.holds Tryz.pinned (OpenSpec.ofChange engineQueriesWrong)

/-- 'orrerylaw24.EnginePast': WHATEVER THE INPUT: true; the input reads as it did. -/
def enginePastSpec : ChangeSpec := { name := "enginePast", fn := fun _ => fun
  | [d1, d2, d3, d4, d5] => { results := [.lit (.bool true)], args := [d1, d2, d3, d4, d5] }
  | _ => none }
def enginePastRow : OpenClaim := { program := "ytbhhcpcpionelabgreat", sum := "c282a2c667dc47befa1c0cc646aef65a9c6ff14565ab3d6ea29c51c82a0e61f9", func := "orrery/orrerylaw24.EnginePast", spec := "enginePast", unfollowed := true, recurses := true, plainKeys := false, apart := false }
def EnginePastSaid : Prop := enginePastRow.holds Tryz.pinned (OpenSpec.ofChange enginePastSpec)

/-- ITS FALSE NEIGHBOUR: 'it returns false'. Refute it at one input. -/
def enginePastWrong : ChangeSpec := { name := "enginePast", fn := fun _ => fun
  | [d1, d2, d3, d4, d5] => { results := [.lit (.bool false)], args := [d1, d2, d3, d4, d5] }
  | _ => none }
def EnginePastWrongFalsely : Prop := enginePastRow.holds Tryz.pinned (OpenSpec.ofChange enginePastWrong)

/-- 'orrerylaw24.EngineCurves': WHATEVER THE INPUT: true; the input reads as it did. -/
def engineCurvesSpec : ChangeSpec := { name := "engineCurves", fn := fun _ => fun
  | [d1, d2, d3, d4] => { results := [.lit (.bool true)], args := [d1, d2, d3, d4] }
  | _ => none }
def engineCurvesRow : OpenClaim := { program := "ytbhhcpcpionelabgreat", sum := "c282a2c667dc47befa1c0cc646aef65a9c6ff14565ab3d6ea29c51c82a0e61f9", func := "orrery/orrerylaw24.EngineCurves", spec := "engineCurves", unfollowed := true, recurses := true, plainKeys := false, apart := false }
def EngineCurvesSaid : Prop := engineCurvesRow.holds Tryz.pinned (OpenSpec.ofChange engineCurvesSpec)

/-- ITS FALSE NEIGHBOUR: 'it returns false'. Refute it at one input. -/
def engineCurvesWrong : ChangeSpec := { name := "engineCurves", fn := fun _ => fun
  | [d1, d2, d3, d4] => { results := [.lit (.bool false)], args := [d1, d2, d3, d4] }
  | _ => none }
def EngineCurvesWrongFalsely : Prop := engineCurvesRow.holds Tryz.pinned (OpenSpec.ofChange engineCurvesWrong)

/-- 'orrerytop.TopReplans': WHATEVER THE INPUT: true; the input reads as it did. -/
def topReplansSpec : ChangeSpec := { name := "topReplans", fn := fun _ => fun
  | [d1, d2, d3, d4, d5] => { results := [.lit (.bool true)], args := [d1, d2, d3, d4, d5] }
  | _ => none }
def topReplansRow : OpenClaim := { program := "ytbhhcpcpionelabgreat", sum := "c282a2c667dc47befa1c0cc646aef65a9c6ff14565ab3d6ea29c51c82a0e61f9", func := "orrery/orrerytop.TopReplans", spec := "topReplans", unfollowed := true, recurses := true, plainKeys := false, apart := false }
def TopReplansSaid : Prop := topReplansRow.holds Tryz.pinned (OpenSpec.ofChange topReplansSpec)

/-- ITS FALSE NEIGHBOUR: 'it returns false'. Refute it at one input. -/
def topReplansWrong : ChangeSpec := { name := "topReplans", fn := fun _ => fun
  | [d1, d2, d3, d4, d5] => { results := [.lit (.bool false)], args := [d1, d2, d3, d4, d5] }
  | _ => none }
def TopReplansWrongFalsely : Prop := topReplansRow.holds Tryz.pinned (OpenSpec.ofChange topReplansWrong)

/- THE SECOND FORM. 'bulk': how many values and letters a reading holds, each counted each time it is reached (what is shared counts as often as it is met; a slice's spare places count too). A statement '..UptoSaid' is the law's where the arguments, and the package variables that the reading takes, are together of bulk at most 1048576: NARROWER than '..Said'. Prove '..Said' where nothing that the law and all that it calls make is longer than what came in: it says more and counts as full. Else prove '..UptoSaid'. A law counts once. -/
mutual
def uptoBulk {H : Type} : DataW H → Nat
  | .lit (.string bytes) => bytes.length + 1
  | .lit _ => 1
  | .nil => 1
  | .ptr d => uptoBulk d + 1
  | .slice elems spare => uptoBulkAll elems + uptoBulkAll spare + 1
  | .agg parts => uptoBulkAll parts + 1
  | .iface _ d => uptoBulk d + 1
  | .map entries => uptoBulkEntries entries + 1
  | .held _ => 1
def uptoBulkAll {H : Type} : List (DataW H) → Nat
  | [] => 0
  | d :: r => uptoBulk d + uptoBulkAll r
def uptoBulkEntries {H : Type} : List (Lit × DataW H) → Nat
  | [] => 0
  | x :: r => uptoBulkEntry x + uptoBulkEntries r
def uptoBulkEntry {H : Type} : Lit × DataW H → Nat
  | (.string bytes, d) => bytes.length + uptoBulk d + 1
  | (_, d) => uptoBulk d + 1
 end
def uptoSmall : (H : Type) → List (DataW H) → Bool := fun _ ds => decide (uptoBulkAll ds ≤ 1048576)
def OpenSpec.upto (s : _root_.Go.ChangeSpec) : _root_.Go.OpenSpec := { _root_.Go.OpenSpec.ofChange s with cond := some uptoSmall }

/-- 'orrerylaw24.EngineBounds', WHERE WHAT IT READS IS OF BULK AT MOST 1048576: true; the input reads as it did. -/
def engineBoundsUptoRow : OpenClaim := { program := "ytbhhcpcpionelabgreat", sum := "c282a2c667dc47befa1c0cc646aef65a9c6ff14565ab3d6ea29c51c82a0e61f9", func := "orrery/orrerylaw24.EngineBounds", spec := "engineBounds", unfollowed := true, recurses := true, plainKeys := false, apart := false, narrowed := true }
def EngineBoundsUptoSaid : Prop := engineBoundsUptoRow.holds Tryz.pinned (OpenSpec.upto engineBoundsSpec)

/-- 'orrerylaw24.EngineQueries', WHERE WHAT IT READS IS OF BULK AT MOST 1048576: true; the input reads as it did. -/
def engineQueriesUptoRow : OpenClaim := { program := "ytbhhcpcpionelabgreat", sum := "c282a2c667dc47befa1c0cc646aef65a9c6ff14565ab3d6ea29c51c82a0e61f9", func := "orrery/orrerylaw24.EngineQueries", spec := "engineQueries", unfollowed := true, recurses := true, plainKeys := false, apart := false, narrowed := true }
def EngineQueriesUptoSaid : Prop := engineQueriesUptoRow.holds Tryz.pinned (OpenSpec.upto engineQueriesSpec)

/-- 'orrerylaw24.EnginePast', WHERE WHAT IT READS IS OF BULK AT MOST 1048576: true; the input reads as it did. -/
def enginePastUptoRow : OpenClaim := { program := "ytbhhcpcpionelabgreat", sum := "c282a2c667dc47befa1c0cc646aef65a9c6ff14565ab3d6ea29c51c82a0e61f9", func := "orrery/orrerylaw24.EnginePast", spec := "enginePast", unfollowed := true, recurses := true, plainKeys := false, apart := false, narrowed := true }
def EnginePastUptoSaid : Prop := enginePastUptoRow.holds Tryz.pinned (OpenSpec.upto enginePastSpec)

/-- 'orrerylaw24.EngineCurves', WHERE WHAT IT READS IS OF BULK AT MOST 1048576: true; the input reads as it did. -/
def engineCurvesUptoRow : OpenClaim := { program := "ytbhhcpcpionelabgreat", sum := "c282a2c667dc47befa1c0cc646aef65a9c6ff14565ab3d6ea29c51c82a0e61f9", func := "orrery/orrerylaw24.EngineCurves", spec := "engineCurves", unfollowed := true, recurses := true, plainKeys := false, apart := false, narrowed := true }
def EngineCurvesUptoSaid : Prop := engineCurvesUptoRow.holds Tryz.pinned (OpenSpec.upto engineCurvesSpec)

/-- 'orrerytop.TopReplans', WHERE WHAT IT READS IS OF BULK AT MOST 1048576: true; the input reads as it did. -/
def topReplansUptoRow : OpenClaim := { program := "ytbhhcpcpionelabgreat", sum := "c282a2c667dc47befa1c0cc646aef65a9c6ff14565ab3d6ea29c51c82a0e61f9", func := "orrery/orrerytop.TopReplans", spec := "topReplans", unfollowed := true, recurses := true, plainKeys := false, apart := false, narrowed := true }
def TopReplansUptoSaid : Prop := topReplansUptoRow.holds Tryz.pinned (OpenSpec.upto topReplansSpec)

end Rows
end Go.Proofs.YtbhhcpcpionelabGreat
